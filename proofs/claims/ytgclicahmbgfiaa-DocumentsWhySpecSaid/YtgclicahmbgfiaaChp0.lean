/- A part of the proof: contracts of the functions that the statement reaches. -/
import Derived.Test.YtgclicahmbgfiaaEng3
import Derived.Test.YtgclicahmbgfiaaProg
set_option linter.unusedSimpArgs false
set_option linter.unusedVariables false
set_option linter.unnecessarySimpa false
set_option maxRecDepth 100000
set_option maxHeartbeats 40000000
open Go.Sg.XAlt renaming l → kX
open Go.Sg.Sq renaming pr → kP
open Go.Sg.Br renaming tt → kT, ff → kF, not → kN, dec → kBd, mk → kBm
open Go.Sg.Opt renaming nn → kO, ss → kS
open Go.Sg.AltA renaming l → kA
open Go.Sg.PV renaming leL_cons → kC
open Go.Sg renaming fits_i64 → kG
open Go.Sg.VLe renaming pe → kVp, agg → kVa, tup → kVt, fn → kVf
open Go.Sg.VLeL renaming cons → kVc
open Go.Sg.OLe renaming rowe2 → kQw, mape → kQm, itere → kQj, chane → kQc, mapSe → kQs
open Go.Sg.HpLe renaming dd → kHd, mk → kHm
namespace Go.Proofs.Ytgclicahmbgfiaa
open Go Go.Sg
def eI (i : Int) : PV := .int .i64 i
def eIs (l : List Int) : PV := .sl 1 false (l.map eI)
theorem mixed : Try.prog.follows .mixedOrders = true := by kernel_rfl
theorem isNaN_calls (a : Int) : PCalls Try.prog 62 [eI a] (.bool false) := by
  refine PCalls.of (N := 6) (res := [.tmp 2]) mixed Try.func62 rfl rfl rfl (by kernel_rfl) (by simp) [0, 2] ?_
  repeat' (first | exact cl1 | (refine stx ?_; first | exact exHM _ | refine exU8 ?_) | ((fail_if_success refine stp ?_); (conv => whnf) <;> (first | exact cl2 | refine kX ?_ | refine kP ?_ | refine kBd (fun hc => ?_) (fun hc => ?_) | refine kT ?_ | refine kF ?_ | refine kN ?_ | refine kBm (fun hc => ?_) (fun hc => ?_) | refine kO ?_ | refine kS ?_ | refine kA ?_ | exact PV.leL_nil | refine kC ?_ ?_ | refine And.intro ?_ ?_ | refine ix_map (fun x hx => ?_) | refine exU8 ?_ | refine nilc (fun hn => ?_) ?_ | exact cl3 | refine imp0 (fun hpos => ?_) | refine kG ?_ ?_ | exact rfl | exact trivial | (first | refine stq ?_ | fail)))) <;> (try exact cl5)
  exact LeG.bool (by simp)
theorem cmp_calls (a b : Int) : PCalls Try.prog 38 [eI a, eI b] (eI (cmpI a b)) := by
  refine PCalls.of (N := 20) (res := [.tmp 4]) mixed Try.func38 rfl rfl rfl (by kernel_rfl) (by simp) [0, 1, 4, 5, 6, 11, 12, 13, 16, 19] ?_
  repeat' (first | exact cl1 | (refine stx ?_; first | exact exHM _ | refine exU8 ?_) | ((with_reducible show callX _ _ _ _ _); (first | refine call_p (isNaN_calls _) (by kernel_rfl) rfl ?_)) | ((fail_if_success refine stp ?_); (conv => whnf) <;> (first | exact cl2 | refine kX ?_ | refine kP ?_ | refine kBd (fun hc => ?_) (fun hc => ?_) | refine kT ?_ | refine kF ?_ | refine kN ?_ | refine kBm (fun hc => ?_) (fun hc => ?_) | refine kO ?_ | refine kS ?_ | refine kA ?_ | exact PV.leL_nil | refine kC ?_ ?_ | refine And.intro ?_ ?_ | refine ix_map (fun x hx => ?_) | refine exU8 ?_ | refine nilc (fun hn => ?_) ?_ | exact cl3 | refine imp0 (fun hpos => ?_) | refine kG ?_ ?_ | exact rfl | exact trivial | (first | refine stq ?_ | fail)))) <;> (try exact cl5)
  ((all_goals (try simp only [cmpI, *, ↓reduceIte, Bool.false_eq_true, Bool.not_true, Bool.not_false, Bool.and_true, Bool.true_and, Bool.and_false, Bool.false_and, List.nil_append, List.drop_zero, Nat.zero_add, List.take_length, Int.toNat_natCast, Int.toNat_zero, List.append_nil]))); ((all_goals (try refine LeG.mk ?_)); (repeat' (first | exact PV.le_refl _ | exact PV.le_nil _ _ _ | exact PV.le_clip _ _ _ | exact PV.le_nilF _ _ _ | refine PV.le_agg ?_ | refine PV.le_tup ?_ | exact PV.leL_nil | refine kC ?_ ?_ | refine PV.le_of ?_ | rfl)))
def wiB (m n : Int) : Bool := decide (0 ≤ n) && decide (n < m)
abbrev TM : Int := 1099511627776
theorem time_calls (n : Int) : PCalls Try.prog 53 [eI n] (.bool (wiB TM n)) := by
  refine PCalls.of (N := 9) (res := [.tmp 2]) mixed Try.func53 rfl rfl rfl (by kernel_rfl) (by simp) [0, 2] ?_
  repeat' (first | exact cl1 | (refine stx ?_; first | exact exHM _ | refine exU8 ?_) | ((fail_if_success refine stp ?_); (conv => whnf) <;> (first | exact cl2 | refine kX ?_ | refine kP ?_ | refine kBd (fun hc => ?_) (fun hc => ?_) | refine kT ?_ | refine kF ?_ | refine kN ?_ | refine kBm (fun hc => ?_) (fun hc => ?_) | refine kO ?_ | refine kS ?_ | refine kA ?_ | exact PV.leL_nil | refine kC ?_ ?_ | refine And.intro ?_ ?_ | refine ix_map (fun x hx => ?_) | refine exU8 ?_ | refine nilc (fun hn => ?_) ?_ | exact cl3 | refine imp0 (fun hpos => ?_) | refine kG ?_ ?_ | exact rfl | exact trivial | (first | refine stq ?_ | fail)))) <;> (try exact cl5)
  ((all_goals (try simp only [wiB, *, ↓reduceIte, Bool.false_eq_true, Bool.not_true, Bool.not_false, Bool.and_true, Bool.true_and, Bool.and_false, Bool.false_and, List.nil_append, List.drop_zero, Nat.zero_add, List.take_length, Int.toNat_natCast, Int.toNat_zero, List.append_nil]))); ((all_goals (try refine LeG.mk ?_)); (repeat' (first | exact PV.le_refl _ | exact PV.le_nil _ _ _ | exact PV.le_clip _ _ _ | exact PV.le_nilF _ _ _ | refine PV.le_agg ?_ | refine PV.le_tup ?_ | exact PV.leL_nil | refine kC ?_ ?_ | refine PV.le_of ?_ | rfl)))
theorem rtime_calls (n : Int) : PCalls Try.prog 26 [eI n] (.bool (wiB TM n)) := by
  refine PCalls.of (N := 9) (res := [.tmp 2]) mixed Try.func26 rfl rfl rfl (by kernel_rfl) (by simp) [0, 2] ?_
  repeat' (first | exact cl1 | (refine stx ?_; first | exact exHM _ | refine exU8 ?_) | ((fail_if_success refine stp ?_); (conv => whnf) <;> (first | exact cl2 | refine kX ?_ | refine kP ?_ | refine kBd (fun hc => ?_) (fun hc => ?_) | refine kT ?_ | refine kF ?_ | refine kN ?_ | refine kBm (fun hc => ?_) (fun hc => ?_) | refine kO ?_ | refine kS ?_ | refine kA ?_ | exact PV.leL_nil | refine kC ?_ ?_ | refine And.intro ?_ ?_ | refine ix_map (fun x hx => ?_) | refine exU8 ?_ | refine nilc (fun hn => ?_) ?_ | exact cl3 | refine imp0 (fun hpos => ?_) | refine kG ?_ ?_ | exact rfl | exact trivial | (first | refine stq ?_ | fail)))) <;> (try exact cl5)
  ((all_goals (try simp only [wiB, *, ↓reduceIte, Bool.false_eq_true, Bool.not_true, Bool.not_false, Bool.and_true, Bool.true_and, Bool.and_false, Bool.false_and, List.nil_append, List.drop_zero, Nat.zero_add, List.take_length, Int.toNat_natCast, Int.toNat_zero, List.append_nil]))); ((all_goals (try refine LeG.mk ?_)); (repeat' (first | exact PV.le_refl _ | exact PV.le_nil _ _ _ | exact PV.le_clip _ _ _ | exact PV.le_nilF _ _ _ | refine PV.le_agg ?_ | refine PV.le_tup ?_ | exact PV.leL_nil | refine kC ?_ ?_ | refine PV.le_of ?_ | rfl)))
end Go.Proofs.Ytgclicahmbgfiaa

namespace Go.Proofs.Ytgclicahmbgfiaa
open Go Go.Sg
theorem sameI_calls (a b : List Int) (hl : a.length < 1000000) : PCalls Try.prog 24 [eIs a, eIs b] (.bool (decide (a = b))) := by
  refine PCalls.of (N := 26) (res := [.tmp 4]) mixed Try.func24 rfl rfl rfl (by kernel_rfl) (by simp) [0, 1, 4, 5, 10, 14, 25] ?_
  repeat' (first | exact cl1 | (refine stx ?_; first | exact exHM _ | refine exU8 ?_) | ((fail_if_success refine stp ?_); (conv => whnf) <;> (first | exact cl2 | refine kX ?_ | refine kP ?_ | refine kBd (fun hc => ?_) (fun hc => ?_) | refine kT ?_ | refine kF ?_ | refine kN ?_ | refine kBm (fun hc => ?_) (fun hc => ?_) | refine kO ?_ | refine kS ?_ | refine kA ?_ | exact PV.leL_nil | refine kC ?_ ?_ | refine And.intro ?_ ?_ | refine ix_map (fun x hx => ?_) | refine exU8 ?_ | refine nilc (fun hn => ?_) ?_ | exact cl3 | refine imp0 (fun hpos => ?_) | refine kG ?_ ?_ | exact rfl | exact trivial | (first | refine stq ?_ | fail)))) <;> (try exact cl5)
  · rw [decide_eq_false (fun e => hc (by rw [e]))]; exact LeG.refl _
  have hab : a.length = b.length := by
    have h : ¬ ((a.map eI).length : Int) ≠ ((b.map eI).length : Int) := by assumption
    simp only [List.length_map] at h; omega
  refine Wpc.loopB (α := {i : Nat // i ≤ a.length ∧ ∀ j, j < i → a[j]? = b[j]?}) mixed [0, 1, 4, 5, 10, 14, 25] (fun i => [(5, .p (eI i.1))]) (fun i => a.length - i.1) ⟨0, by omega, fun j h => absurd h (by omega)⟩ ?_ ?_
  · (first | refine Ent.ofA [] ?_ | refine Ent.ofC [] ?_) <;> (repeat' (first | exact trivial | refine kHd ?_ | refine kHm rfl (by simp) rfl (fun h => AObj.noConfusion h) ?_ ?_ | refine And.intro ?_ ?_ | exact cl9 | refine kVp ?_ | refine kVa ?_ | refine kVt ?_ | refine kVf ?_ ?_ | refine kVc ?_ ?_ | exact VLeL.nil | exact OLe.row _ _ | rfl | refine VLe.rsle rfl ?_ ?_ ?_ | refine kQw ?_ ?_ | refine kQm ?_ ?_ | refine kQj ?_ ?_ | refine kQc ?_ ?_ | refine kQs ?_ ?_ ?_ | exact OLe.mapS0 rfl)) <;> try exact kZ
  rintro ⟨i, hi, hq⟩
  have hi : i ≤ a.length := hi
  have hq : ∀ j, j < i → a[j]? = b[j]? := hq
  repeat' (first | exact cl1 | (refine stx ?_; first | exact exHM _ | refine exU8 ?_) | ((fail_if_success refine stp ?_); (conv => whnf) <;> (first | exact cl2 | refine kX ?_ | refine kP ?_ | refine kBd (fun hc => ?_) (fun hc => ?_) | refine kT ?_ | refine kF ?_ | refine kN ?_ | refine kBm (fun hc => ?_) (fun hc => ?_) | refine kO ?_ | refine kS ?_ | refine kA ?_ | exact PV.leL_nil | refine kC ?_ ?_ | refine And.intro ?_ ?_ | refine ix_map (fun x hx => ?_) | refine exU8 ?_ | refine nilc (fun hn => ?_) ?_ | exact cl3 | refine imp0 (fun hpos => ?_) | refine kG ?_ ?_ | exact rfl | exact trivial | (first | refine stq ?_ | fail)))) <;> (try exact cl5)
  · rename_i y hy
    have hx : b[i]? = some x := hx
    have hy : a[i]? = some y := hy
    have hc : y ≠ x := hc
    rw [decide_eq_false (fun e => hc (by rw [e, hx] at hy; injection hy with hy; exact hy.symm))]; exact LeG.refl _
  · rename_i y hy
    have hx : b[i]? = some x := hx
    have hy : a[i]? = some y := hy
    have hlt := (List.getElem?_eq_some_iff.1 hy).1
    have hc : y = x := Classical.not_not.1 hc
    subst hc
    refine ⟨⟨i + 1, hlt, fun j hj => ?_⟩, by show a.length - (i + 1) < a.length - i; omega, ?_⟩
    · rcases Nat.lt_succ_iff_lt_or_eq.1 hj with h1 | h1
      · exact hq j h1
      · rw [h1, hx, hy]
    · (first | refine Ent.ofA [] ?_ | refine Ent.ofC [] ?_) <;> (repeat' (first | exact trivial | refine kHd ?_ | refine kHm rfl (by simp) rfl (fun h => AObj.noConfusion h) ?_ ?_ | refine And.intro ?_ ?_ | exact cl9 | refine kVp ?_ | refine kVa ?_ | refine kVt ?_ | refine kVf ?_ ?_ | refine kVc ?_ ?_ | exact VLeL.nil | exact OLe.row _ _ | rfl | refine VLe.rsle rfl ?_ ?_ ?_ | refine kQw ?_ ?_ | refine kQm ?_ ?_ | refine kQj ?_ ?_ | refine kQc ?_ ?_ | refine kQs ?_ ?_ ?_ | exact OLe.mapS0 rfl)) <;> try exact kZ
  · have hc : ¬ (i : Int) < ((a.map eI).length : Int) := hc
    rw [List.length_map] at hc
    rw [decide_eq_true (List.ext_getElem? fun j => by
      rcases Nat.lt_or_ge j i with h1 | h1
      · exact hq j h1
      · rw [List.getElem?_eq_none (by omega), List.getElem?_eq_none (by omega)])]
    exact LeG.refl _
def hasB (l : List Int) (n : Int) : Bool := l.any fun x => decide (x = n)
theorem hasB_yes {l : List Int} {n x : Int} {i : Nat} (h : l[i]? = some x) (e : x = n) : hasB l n = true := List.any_eq_true.2 ⟨x, List.mem_of_getElem? h, decide_eq_true e⟩
theorem hasB_no {l : List Int} {n : Int} (h : ∀ (j : Nat) w, l[j]? = some w → w ≠ n) : hasB l n = false := by
  cases hb : hasB l n with
  | false => rfl
  | true =>
    obtain ⟨x, hx, e⟩ := List.any_eq_true.1 hb
    obtain ⟨j, hj⟩ := List.getElem?_of_mem hx
    exact absurd (of_decide_eq_true e) (h j x hj)
theorem has_calls (l : List Int) (n : Int) (hl : l.length < 1000000) : PCalls Try.prog 28 [eIs l, eI n] (.bool (hasB l n)) := by
  refine PCalls.of (N := 18) (res := [.tmp 4]) mixed Try.func28 rfl rfl rfl (by kernel_rfl) (by simp) [0, 1, 4, 5, 9, 17] ?_
  repeat' (first | exact cl1 | (refine stx ?_; first | exact exHM _ | refine exU8 ?_) | ((fail_if_success refine stp ?_); (conv => whnf) <;> (first | exact cl2 | refine kX ?_ | refine kP ?_ | refine kBd (fun hc => ?_) (fun hc => ?_) | refine kT ?_ | refine kF ?_ | refine kN ?_ | refine kBm (fun hc => ?_) (fun hc => ?_) | refine kO ?_ | refine kS ?_ | refine kA ?_ | exact PV.leL_nil | refine kC ?_ ?_ | refine And.intro ?_ ?_ | refine ix_map (fun x hx => ?_) | refine exU8 ?_ | refine nilc (fun hn => ?_) ?_ | exact cl3 | refine imp0 (fun hpos => ?_) | refine kG ?_ ?_ | exact rfl | exact trivial | (first | refine stq ?_ | fail)))) <;> (try exact cl5)
  refine Wpc.loopB (α := {i : Nat // i ≤ l.length ∧ ∀ j w, j < i → l[j]? = some w → w ≠ n}) mixed [0, 1, 4, 5, 9, 17] (fun i => [(5, .p (eI i.1))]) (fun i => l.length - i.1) ⟨0, by omega, by intro j w h; omega⟩ ?_ ?_
  · (first | refine Ent.ofA [] ?_ | refine Ent.ofC [] ?_) <;> (repeat' (first | exact trivial | refine kHd ?_ | refine kHm rfl (by simp) rfl (fun h => AObj.noConfusion h) ?_ ?_ | refine And.intro ?_ ?_ | exact cl9 | refine kVp ?_ | refine kVa ?_ | refine kVt ?_ | refine kVf ?_ ?_ | refine kVc ?_ ?_ | exact VLeL.nil | exact OLe.row _ _ | rfl | refine VLe.rsle rfl ?_ ?_ ?_ | refine kQw ?_ ?_ | refine kQm ?_ ?_ | refine kQj ?_ ?_ | refine kQc ?_ ?_ | refine kQs ?_ ?_ ?_ | exact OLe.mapS0 rfl)) <;> try exact kZ
  rintro ⟨i, hi, hq⟩
  have hi : i ≤ l.length := hi
  have hq : ∀ j w, j < i → l[j]? = some w → w ≠ n := hq
  repeat' (first | exact cl1 | (refine stx ?_; first | exact exHM _ | refine exU8 ?_) | ((fail_if_success refine stp ?_); (conv => whnf) <;> (first | exact cl2 | refine kX ?_ | refine kP ?_ | refine kBd (fun hc => ?_) (fun hc => ?_) | refine kT ?_ | refine kF ?_ | refine kN ?_ | refine kBm (fun hc => ?_) (fun hc => ?_) | refine kO ?_ | refine kS ?_ | refine kA ?_ | exact PV.leL_nil | refine kC ?_ ?_ | refine And.intro ?_ ?_ | refine ix_map (fun x hx => ?_) | refine exU8 ?_ | refine nilc (fun hn => ?_) ?_ | exact cl3 | refine imp0 (fun hpos => ?_) | refine kG ?_ ?_ | exact rfl | exact trivial | (first | refine stq ?_ | fail)))) <;> (try exact cl5)
  · have hx : l[i]? = some x := hx
    rw [hasB_yes hx hc]; exact LeG.refl _
  · have hx : l[i]? = some x := hx
    have hne : ¬ x = n := hc
    have := (List.getElem?_eq_some_iff.1 hx).1
    refine ⟨⟨i + 1, by omega, fun j w hj hw => ?_⟩, by show l.length - (i + 1) < l.length - i; omega, ?_⟩
    · rcases Nat.lt_succ_iff_lt_or_eq.1 hj with h1 | h1
      · exact hq j w h1 hw
      · subst h1; rw [hx] at hw; injection hw with hw; subst hw; exact hne
    · (first | refine Ent.ofA [] ?_ | refine Ent.ofC [] ?_) <;> (repeat' (first | exact trivial | refine kHd ?_ | refine kHm rfl (by simp) rfl (fun h => AObj.noConfusion h) ?_ ?_ | refine And.intro ?_ ?_ | exact cl9 | refine kVp ?_ | refine kVa ?_ | refine kVt ?_ | refine kVf ?_ ?_ | refine kVc ?_ ?_ | exact VLeL.nil | exact OLe.row _ _ | rfl | refine VLe.rsle rfl ?_ ?_ ?_ | refine kQw ?_ ?_ | refine kQm ?_ ?_ | refine kQj ?_ ?_ | refine kQc ?_ ?_ | refine kQs ?_ ?_ ?_ | exact OLe.mapS0 rfl)) <;> try exact kZ
  · have hc : ¬ (i : Int) < ((l.map eI).length : Int) := hc
    rw [List.length_map] at hc
    rw [hasB_no fun j w hw => hq j w (by have := (List.getElem?_eq_some_iff.1 hw).1; omega) hw]; exact LeG.refl _
end Go.Proofs.Ytgclicahmbgfiaa

namespace Go.Proofs.Ytgclicahmbgfiaa
open Go Go.Sg
/-- The place from behind: past all that are greater. -/
def posR (f : Nat → Int) (x : Nat) (out : List Nat) : Nat := (out.reverse.dropWhile fun y => decide (f x < f y)).length
def insR (f : Nat → Int) (out : List Nat) (x : Nat) : List Nat := out.take (posR f x out) ++ x :: out.drop (posR f x out)
theorem posR_eq (f : Nat → Int) (x : Nat) : ∀ (out : List Nat) (k : Nat), k ≤ out.length → (∀ m y, k ≤ m → out[m]? = some y → f x < f y) → (∀ y, 0 < k → out[k - 1]? = some y → ¬ f x < f y) → posR f x out = k := by
  intro out k hk h1 h2
  unfold posR
  have hsplit : out.reverse = (out.drop k).reverse ++ (out.take k).reverse := by rw [← List.reverse_append, List.take_append_drop]
  have hall : ∀ y ∈ (out.drop k).reverse, decide (f x < f y) = true := fun y hy => by
    obtain ⟨m, hm⟩ := List.getElem?_of_mem (List.mem_reverse.1 hy)
    rw [List.getElem?_drop] at hm
    exact decide_eq_true (h1 _ y (by omega) hm)
  rw [hsplit, List.dropWhile_append_of_pos hall]
  cases k with
  | zero => simp
  | succ k =>
    have hlt : k < out.length := by omega
    have e : (out.take (k + 1)).reverse = out[k] :: (out.take k).reverse := by
      rw [List.take_succ_eq_append_getElem hlt, List.reverse_append]; rfl
    rw [e, List.dropWhile_cons_of_neg (by
      have := h2 out[k] (by omega) (by simp [hlt])
      simpa using this)]
    simp; omega
/-- The order of the signings up to a time. -/
def sgF (sg : List Int) (i : Nat) : Int := sg.getD i 0
def upB (sg : List Int) (at_ : Int) (i : Nat) : Bool := decide (0 ≤ sgF sg i) && decide (sgF sg i ≤ at_)
def upL (sg : List Int) (at_ : Int) (n : Nat) : List Nat := (List.range n).filter (upB sg at_)
def ordF (sg : List Int) (at_ : Int) (n : Nat) : List Nat := (upL sg at_ n).foldl (insR (sgF sg)) []
def ordL (sg : List Int) (at_ : Int) : List Nat := ordF sg at_ sg.length
def eN (i : Nat) : PV := eI i
def eNs (l : List Nat) : PV := .sl 1 false (l.map eN)
theorem backward_calls (l : List Int) : PCalls Try.prog 74 [eIs l] (.fn (.func 98) [] [.ro [eIs l]]) := by
  refine PCalls.of (N := 4) (res := [.tmp 2]) mixed Try.func74 rfl rfl rfl (by kernel_rfl) (by simp) [0, 1, 2] ?_
  repeat' (first | exact cl1 | (refine stx ?_; first | exact exHM _ | refine exU8 ?_) | ((fail_if_success refine stp ?_); (conv => whnf) <;> (first | exact cl2 | refine kX ?_ | refine kP ?_ | refine kBd (fun hc => ?_) (fun hc => ?_) | refine kT ?_ | refine kF ?_ | refine kN ?_ | refine kBm (fun hc => ?_) (fun hc => ?_) | refine kO ?_ | refine kS ?_ | refine kA ?_ | exact PV.leL_nil | refine kC ?_ ?_ | refine And.intro ?_ ?_ | refine ix_map (fun x hx => ?_) | refine exU8 ?_ | refine nilc (fun hn => ?_) ?_ | exact cl3 | refine imp0 (fun hpos => ?_) | refine kG ?_ ?_ | exact rfl | exact trivial | (first | refine stq ?_ | fail)))) <;> (try exact cl5)
theorem values_calls (l : List Nat) : PCalls Try.prog 97 [eNs l] (.fn (.func 101) [] [.ro [eNs l]]) := by
  refine PCalls.of (N := 4) (res := [.tmp 2]) mixed Try.func97 rfl rfl rfl (by kernel_rfl) (by simp) [0, 1, 2] ?_
  repeat' (first | exact cl1 | (refine stx ?_; first | exact exHM _ | refine exU8 ?_) | ((fail_if_success refine stp ?_); (conv => whnf) <;> (first | exact cl2 | refine kX ?_ | refine kP ?_ | refine kBd (fun hc => ?_) (fun hc => ?_) | refine kT ?_ | refine kF ?_ | refine kN ?_ | refine kBm (fun hc => ?_) (fun hc => ?_) | refine kO ?_ | refine kS ?_ | refine kA ?_ | exact PV.leL_nil | refine kC ?_ ?_ | refine And.intro ?_ ?_ | refine ix_map (fun x hx => ?_) | refine exU8 ?_ | refine nilc (fun hn => ?_) ?_ | exact cl3 | refine imp0 (fun hpos => ?_) | refine kG ?_ ?_ | exact rfl | exact trivial | (first | refine stq ?_ | fail)))) <;> (try exact cl5)
theorem values_iter (l : List Nat) (hl : l.length < 1000000) : Iter Try.prog 101 [.ro [eNs l]] (l.map fun i => [eN i]) := by
  refine Iter.of (N := 16) mixed Try.func101 rfl rfl rfl (by kernel_rfl) (by simp) [0, 1, 4, 5, 6, 7, 8, 14] ?_
  intro G hG hxx
  have hxl : G.xs.length = l.length := by rw [hxx]; simp
  repeat' (first | exact cl1 | (refine stx ?_; first | exact exHM _ | refine exU8 ?_) | ((fail_if_success refine stp ?_); (conv => whnf) <;> (first | exact cl2 | refine kX ?_ | refine kP ?_ | refine kBd (fun hc => ?_) (fun hc => ?_) | refine kT ?_ | refine kF ?_ | refine kN ?_ | refine kBm (fun hc => ?_) (fun hc => ?_) | refine kO ?_ | refine kS ?_ | refine kA ?_ | exact PV.leL_nil | refine kC ?_ ?_ | refine And.intro ?_ ?_ | refine ix_map (fun x hx => ?_) | refine exU8 ?_ | refine nilc (fun hn => ?_) ?_ | exact cl3 | refine imp0 (fun hpos => ?_) | refine kG ?_ ?_ | exact rfl | exact trivial | (first | refine stq ?_ | fail)))) <;> (try exact cl5)
  refine Wpc.loopA (α := {i : Nat // i ≤ l.length ∧ i ≤ G.stop}) mixed [0, 1, 4, 5, 6, 7, 8, 14] (fun i => [(7, .p (eI i.1))]) (fun _ => []) (fun i => i.1) (fun i => l.length - i.1) ⟨0, by omega, by omega⟩ ?_ ?_
  · (first | refine Ent.ofA [] ?_ | refine Ent.ofC [] ?_) <;> (repeat' (first | exact trivial | refine kHd ?_ | refine kHm rfl (by simp) rfl (fun h => AObj.noConfusion h) ?_ ?_ | refine And.intro ?_ ?_ | exact cl9 | refine kVp ?_ | refine kVa ?_ | refine kVt ?_ | refine kVf ?_ ?_ | refine kVc ?_ ?_ | exact VLeL.nil | exact OLe.row _ _ | rfl | refine VLe.rsle rfl ?_ ?_ ?_ | refine kQw ?_ ?_ | refine kQm ?_ ?_ | refine kQj ?_ ?_ | refine kQc ?_ ?_ | refine kQs ?_ ?_ ?_ | exact OLe.mapS0 rfl)) <;> try exact kZ
  rintro ⟨i, hi, hs⟩
  have hi : i ≤ l.length := hi
  have hs : i ≤ G.stop := hs
  repeat' (first | exact cl1 | (refine stx ?_; first | exact exHM _ | refine exU8 ?_) | ((fail_if_success refine stp ?_); (conv => whnf) <;> (first | exact cl2 | refine kX ?_ | refine kP ?_ | refine kBd (fun hc => ?_) (fun hc => ?_) | refine kT ?_ | refine kF ?_ | refine kN ?_ | refine kBm (fun hc => ?_) (fun hc => ?_) | refine kO ?_ | refine kS ?_ | refine kA ?_ | exact PV.leL_nil | refine kC ?_ ?_ | refine And.intro ?_ ?_ | refine ix_map (fun x hx => ?_) | refine exU8 ?_ | refine nilc (fun hn => ?_) ?_ | exact cl3 | refine imp0 (fun hpos => ?_) | refine kG ?_ ?_ | exact rfl | exact trivial | (first | refine stq ?_ | fail)))) <;> (try exact cl5)
  all_goals first
  | (have hc : ¬ (i : Int) < ((l.map eN).length : Int) := hc
     rw [List.length_map] at hc
     show i = min (G.stop + 1) (l.map fun i => [eN i]).length
     rw [List.length_map]; omega)
  | (have hx : l[i]? = some x := hx
     have hlt := (List.getElem?_eq_some_iff.1 hx).1
     first
     | (show i < G.xs.length
        omega)
     | (show _ = List.map AV.p (G.xs.getD i [])
        have e : G.xs.getD i [] = [eN x] := by
          rw [hxx]; simp [List.getD, hx]
        rw [e]; rfl)
     | (have hc : i ≠ G.stop := hc
        refine ⟨⟨i + 1, hlt, by show i + 1 ≤ G.stop; omega⟩, by show l.length - (i + 1) < l.length - i; omega, ?_⟩
        (first | refine Ent.ofA [] ?_ | refine Ent.ofC [] ?_) <;> (repeat' (first | exact trivial | refine kHd ?_ | refine kHm rfl (by simp) rfl (fun h => AObj.noConfusion h) ?_ ?_ | refine And.intro ?_ ?_ | exact cl9 | refine kVp ?_ | refine kVa ?_ | refine kVt ?_ | refine kVf ?_ ?_ | refine kVc ?_ ?_ | exact VLeL.nil | exact OLe.row _ _ | rfl | refine VLe.rsle rfl ?_ ?_ ?_ | refine kQw ?_ ?_ | refine kQm ?_ ?_ | refine kQj ?_ ?_ | refine kQc ?_ ?_ | refine kQs ?_ ?_ ?_ | exact OLe.mapS0 rfl)) <;> try exact kZ)
     | (have hc : ¬ i ≠ G.stop := hc
        show i + 1 = min (G.stop + 1) (l.map fun i => [eN i]).length
        rw [List.length_map]; omega))
def bwX (l : List Int) : List (List PV) := (List.range l.length).map fun k => [eI ((l.length - 1 - k : Nat) : Int), eI (l.getD (l.length - 1 - k) 0)]
theorem backward_iter (l : List Int) (hl : l.length < 1000000) : Iter Try.prog 98 [.ro [eIs l]] (bwX l) := by
  refine Iter.of (N := 19) mixed Try.func98 rfl rfl rfl (by kernel_rfl) (by simp) [0, 1, 3, 8, 18] ?_
  intro G hG hxx
  have hxl : G.xs.length = l.length := by rw [hxx]; simp [bwX]
  repeat' (first | exact cl1 | (refine stx ?_; first | exact exHM _ | refine exU8 ?_) | ((fail_if_success refine stp ?_); (conv => whnf) <;> (first | exact cl2 | refine kX ?_ | refine kP ?_ | refine kBd (fun hc => ?_) (fun hc => ?_) | refine kT ?_ | refine kF ?_ | refine kN ?_ | refine kBm (fun hc => ?_) (fun hc => ?_) | refine kO ?_ | refine kS ?_ | refine kA ?_ | exact PV.leL_nil | refine kC ?_ ?_ | refine And.intro ?_ ?_ | refine ix_map (fun x hx => ?_) | refine exU8 ?_ | refine nilc (fun hn => ?_) ?_ | exact cl3 | refine imp0 (fun hpos => ?_) | refine kG ?_ ?_ | exact rfl | exact trivial | (first | refine stq ?_ | fail)))) <;> (try exact cl5)
  refine Wpc.loopA (α := {k : Nat // k ≤ l.length ∧ k ≤ G.stop}) mixed [0, 1, 3, 8, 18] (fun k => [(3, .p (eI ((l.length : Int) - 1 - (k.1 : Int))))]) (fun _ => []) (fun k => k.1) (fun k => l.length - k.1) ⟨0, by omega, by omega⟩ ?_ ?_
  · (first | refine Ent.ofA [] ?_ | refine Ent.ofC [] ?_) <;> (repeat' (first | exact trivial | refine kHd ?_ | refine kHm rfl (by simp) rfl (fun h => AObj.noConfusion h) ?_ ?_ | refine And.intro ?_ ?_ | exact cl9 | refine kVp ?_ | refine kVa ?_ | refine kVt ?_ | refine kVf ?_ ?_ | refine kVc ?_ ?_ | exact VLeL.nil | exact OLe.row _ _ | rfl | refine VLe.rsle rfl ?_ ?_ ?_ | refine kQw ?_ ?_ | refine kQm ?_ ?_ | refine kQj ?_ ?_ | refine kQc ?_ ?_ | refine kQs ?_ ?_ ?_ | exact OLe.mapS0 rfl)) <;> try exact kZ
  rintro ⟨k, hk, hs⟩
  have hk : k ≤ l.length := hk
  have hs : k ≤ G.stop := hs
  by_cases hend : k = l.length
  · have hno : ¬ (0 : Int) ≤ (l.length : Int) - 1 - (k : Int) := by omega
    repeat' (first | exact cl1 | (refine stx ?_; first | exact exHM _ | refine exU8 ?_) | ((fail_if_success refine stp ?_); (conv => whnf) <;> (first | exact cl2 | refine kBn hno fun hc => ?_ | refine kX ?_ | refine kP ?_ | refine kBd (fun hc => ?_) (fun hc => ?_) | refine kT ?_ | refine kF ?_ | refine kN ?_ | refine kBm (fun hc => ?_) (fun hc => ?_) | refine kO ?_ | refine kS ?_ | refine kA ?_ | exact PV.leL_nil | refine kC ?_ ?_ | refine And.intro ?_ ?_ | refine ix_map (fun x hx => ?_) | refine exU8 ?_ | refine nilc (fun hn => ?_) ?_ | exact cl3 | refine imp0 (fun hpos => ?_) | refine kG ?_ ?_ | exact rfl | exact trivial | (first | refine stq ?_ | fail)))) <;> (try exact cl5)
    show k = min (G.stop + 1) (bwX l).length
    simp [bwX]; omega
  · have hyes : (0 : Int) ≤ (l.length : Int) - 1 - (k : Int) := by omega
    have hkl : k < l.length := by omega
    obtain ⟨y, hy⟩ : ∃ y, l[l.length - 1 - k]? = some y := ⟨_, List.getElem?_eq_getElem (by omega)⟩
    have hy2 : l[((l.length : Int) - 1 - (k : Int)).toNat]? = some y := by rw [show ((l.length : Int) - 1 - (k : Int)).toNat = l.length - 1 - k by omega]; exact hy
    repeat' (first | exact cl1 | (refine stx ?_; first | exact exHM _ | refine exU8 ?_) | ((fail_if_success refine stp ?_); (conv => whnf) <;> (first | exact cl2 | refine kBy hyes fun hc => ?_ | refine ix_at hy2 ?_ | refine kX ?_ | refine kP ?_ | refine kBd (fun hc => ?_) (fun hc => ?_) | refine kT ?_ | refine kF ?_ | refine kN ?_ | refine kBm (fun hc => ?_) (fun hc => ?_) | refine kO ?_ | refine kS ?_ | refine kA ?_ | exact PV.leL_nil | refine kC ?_ ?_ | refine And.intro ?_ ?_ | refine ix_map (fun x hx => ?_) | refine exU8 ?_ | refine nilc (fun hn => ?_) ?_ | exact cl3 | refine imp0 (fun hpos => ?_) | refine kG ?_ ?_ | exact rfl | exact trivial | (first | refine stq ?_ | fail)))) <;> (try exact cl5)
    all_goals first
    | (show k < G.xs.length
       omega)
    | (show _ = List.map AV.p (G.xs.getD k [])
       have e : G.xs.getD k [] = [eI ((l.length : Int) - 1 - (k : Int)), eI y] := by
         rw [hxx]
         have e1 : ((l.length - 1 - k : Nat) : Int) = (l.length : Int) - 1 - (k : Int) := by omega
         simp [bwX, List.getD, hkl, hy, e1]
       rw [e]; rfl)
    | (have hc : k ≠ G.stop := hc
       refine ⟨⟨k + 1, by omega, by show k + 1 ≤ G.stop; omega⟩, by show l.length - (k + 1) < l.length - k; omega, ?_⟩
       (first | refine Ent.ofA [] ?_ | refine Ent.ofC [] ?_) <;> (repeat' (first | exact trivial | refine kHd ?_ | refine kHm rfl (by simp) rfl (fun h => AObj.noConfusion h) ?_ ?_ | refine And.intro ?_ ?_ | exact cl9 | refine kVp ?_ | refine kVa ?_ | refine kVt ?_ | refine kVf ?_ ?_ | refine kVc ?_ ?_ | exact VLeL.nil | exact OLe.row _ _ | rfl | refine VLe.rsle rfl ?_ ?_ ?_ | refine kQw ?_ ?_ | refine kQm ?_ ?_ | refine kQj ?_ ?_ | refine kQc ?_ ?_ | refine kQs ?_ ?_ ?_ | exact OLe.mapS0 rfl)) <;> try exact kZ
       try (congr 1; omega))
    | (have hc : ¬ k ≠ G.stop := hc
       show k + 1 = min (G.stop + 1) (bwX l).length
       simp [bwX]; omega)
    | trace_state
end Go.Proofs.Ytgclicahmbgfiaa

namespace Go.Proofs.Ytgclicahmbgfiaa
open Go Go.Sg
def okN (lim : Int) (P : List Int) : Bool := okFrom (wiB lim) id (-1) P
def listB (lim : Int) (P : List Int) : Bool := okN lim P && decide (P.length ≤ 16)
theorem list_calls (P : List Int) (lim : Int) (hP : P.length < 140737488355328) : PCalls Try.prog 61 [eIs P, eI lim] (.bool (listB lim P)) := by
  refine PCalls.of (N := 27) (res := [.tmp 4]) mixed Try.func61 rfl rfl rfl (by kernel_rfl) (by simp) [0, 1, 4, 5, 7, 8, 9, 10, 11, 21] ?_
  repeat' (first | exact cl1 | (refine stx ?_; first | exact exHM _ | refine exU8 ?_) | ((fail_if_success refine stp ?_); (conv => whnf) <;> (first | exact cl2 | refine kX ?_ | refine kP ?_ | refine kBd (fun hc => ?_) (fun hc => ?_) | refine kT ?_ | refine kF ?_ | refine kN ?_ | refine kBm (fun hc => ?_) (fun hc => ?_) | refine kO ?_ | refine kS ?_ | refine kA ?_ | exact PV.leL_nil | refine kC ?_ ?_ | refine And.intro ?_ ?_ | refine ix_map (fun x hx => ?_) | refine exU8 ?_ | refine nilc (fun hn => ?_) ?_ | exact cl3 | refine imp0 (fun hpos => ?_) | refine kG ?_ ?_ | exact rfl | exact trivial | (first | refine stq ?_ | fail)))) <;> (try exact cl5)
  refine Wpc.loopB (α := {i : Nat // i ≤ P.length ∧ okFrom (wiB lim) id (lastNo id P i) (P.drop i) = okN lim P ∧ -1 ≤ lastNo id P i}) mixed [0, 1, 4, 5, 7, 8, 9, 10, 11, 21] (fun i => [(5, .p (eI (lastNo id P i.1))), (10, .p (eI i.1))]) (fun i => P.length - i.1) ⟨0, by omega, rfl, by show (-1 : Int) ≤ -1; decide⟩ ?_ ?_
  · (first | refine Ent.ofA [] ?_ | refine Ent.ofC [] ?_) <;> (repeat' (first | exact trivial | refine kHd ?_ | refine kHm rfl (by simp) rfl (fun h => AObj.noConfusion h) ?_ ?_ | refine And.intro ?_ ?_ | exact cl9 | refine kVp ?_ | refine kVa ?_ | refine kVt ?_ | refine kVf ?_ ?_ | refine kVc ?_ ?_ | exact VLeL.nil | exact OLe.row _ _ | rfl | refine VLe.rsle rfl ?_ ?_ ?_ | refine kQw ?_ ?_ | refine kQm ?_ ?_ | refine kQj ?_ ?_ | refine kQc ?_ ?_ | refine kQs ?_ ?_ ?_ | exact OLe.mapS0 rfl)) <;> try exact kZ
  rintro ⟨i, hi, hq, hlow⟩
  have hi : i ≤ P.length := hi
  have hq : okFrom (wiB lim) id (lastNo id P i) (P.drop i) = okN lim P := hq
  have hlow : -1 ≤ lastNo id P i := hlow
  repeat' (first | exact cl1 | (refine stx ?_; first | exact exHM _ | refine exU8 ?_) | ((fail_if_success refine stp ?_); (conv => whnf) <;> (first | exact cl2 | refine kX ?_ | refine kP ?_ | refine kBd (fun hc => ?_) (fun hc => ?_) | refine kT ?_ | refine kF ?_ | refine kN ?_ | refine kBm (fun hc => ?_) (fun hc => ?_) | refine kO ?_ | refine kS ?_ | refine kA ?_ | exact PV.leL_nil | refine kC ?_ ?_ | refine And.intro ?_ ?_ | refine ix_map (fun x hx => ?_) | refine exU8 ?_ | refine nilc (fun hn => ?_) ?_ | exact cl3 | refine imp0 (fun hpos => ?_) | refine kG ?_ ?_ | exact rfl | exact trivial | (first | refine stq ?_ | fail)))) <;> (try exact cl5)
  · have hx : P[i]? = some x := hx
    have hc : x ≤ lastNo id P i := hc
    have e : okN lim P = false := okFrom_no (wiB lim) id hx hq (by rw [decide_eq_false (show ¬ lastNo id P i < id x by show ¬ lastNo id P i < x; omega), Bool.and_false])
    unfold listB; rw [e]; exact LeG.refl _
  · have hx : P[i]? = some x := hx
    have e : okN lim P = false := okFrom_no (wiB lim) id hx hq (by rw [show wiB lim x = false by unfold wiB; rw [decide_eq_false (show ¬ x < lim by omega), Bool.and_false], Bool.false_and])
    unfold listB; rw [e]; exact LeG.refl _
  · rename_i hc1
    have hc1 : ¬ x ≤ lastNo id P i := hc1
    have hx : P[i]? = some x := hx
    have hlt := (List.getElem?_eq_some_iff.1 hx).1
    have hs : lastNo id P (i + 1) = x := lastNo_succ id hx
    refine ⟨⟨i + 1, hlt, okFrom_yes (wiB lim) id hx hq (by rw [show wiB lim x = true by unfold wiB; rw [decide_eq_true (show 0 ≤ x by omega), decide_eq_true (show x < lim by omega)]; rfl, decide_eq_true (show lastNo id P i < id x by show lastNo id P i < x; omega)]; rfl), by rw [hs]; omega⟩, by show P.length - (i + 1) < P.length - i; omega, ?_⟩
    (first | refine Ent.ofA [] ?_ | refine Ent.ofC [] ?_) <;> (repeat' (first | exact trivial | refine kHd ?_ | refine kHm rfl (by simp) rfl (fun h => AObj.noConfusion h) ?_ ?_ | refine And.intro ?_ ?_ | exact cl9 | refine kVp ?_ | refine kVa ?_ | refine kVt ?_ | refine kVf ?_ ?_ | refine kVc ?_ ?_ | exact VLeL.nil | exact OLe.row _ _ | rfl | refine VLe.rsle rfl ?_ ?_ ?_ | refine kQw ?_ ?_ | refine kQm ?_ ?_ | refine kQj ?_ ?_ | refine kQc ?_ ?_ | refine kQs ?_ ?_ ?_ | exact OLe.mapS0 rfl)) <;> try exact kZ
    all_goals (rw [hs])
  · have hnc : ¬ (i : Int) < ((P.map eI).length : Int) := by assumption
    rw [List.length_map] at hnc
    have e : okN lim P = true := okFrom_fin (wiB lim) id hq (by omega)
    unfold listB; rw [e]
    refine LeG.bool ?_
    rw [List.length_map, Bool.true_and]
    exact decide_eq_decide.2 (by omega)
theorem rlist_calls (P : List Int) (lim : Int) (hP : P.length < 140737488355328) : PCalls Try.prog 67 [eIs P, eI lim] (.bool (listB lim P)) := by
  refine PCalls.of (N := 44) (res := [.tmp 4]) mixed Try.func67 rfl rfl rfl (by kernel_rfl) (by simp) [0, 1, 4, 5, 9, 40] ?_
  repeat' (first | exact cl1 | (refine stx ?_; first | exact exHM _ | refine exU8 ?_) | ((fail_if_success refine stp ?_); (conv => whnf) <;> (first | exact cl2 | refine kX ?_ | refine kP ?_ | refine kBd (fun hc => ?_) (fun hc => ?_) | refine kT ?_ | refine kF ?_ | refine kN ?_ | refine kBm (fun hc => ?_) (fun hc => ?_) | refine kO ?_ | refine kS ?_ | refine kA ?_ | exact PV.leL_nil | refine kC ?_ ?_ | refine And.intro ?_ ?_ | refine ix_map (fun x hx => ?_) | refine exU8 ?_ | refine nilc (fun hn => ?_) ?_ | exact cl3 | refine imp0 (fun hpos => ?_) | refine kG ?_ ?_ | exact rfl | exact trivial | (first | refine stq ?_ | fail)))) <;> (try exact cl5)
  refine Wpc.loopB (α := {i : Nat // i ≤ P.length ∧ okFrom (wiB lim) id (lastNo id P i) (P.drop i) = okN lim P}) mixed [0, 1, 4, 5, 9, 40] (fun i => [(5, .p (eI i.1))]) (fun i => P.length - i.1) ⟨0, by omega, rfl⟩ ?_ ?_
  · (first | refine Ent.ofA [] ?_ | refine Ent.ofC [] ?_) <;> (repeat' (first | exact trivial | refine kHd ?_ | refine kHm rfl (by simp) rfl (fun h => AObj.noConfusion h) ?_ ?_ | refine And.intro ?_ ?_ | exact cl9 | refine kVp ?_ | refine kVa ?_ | refine kVt ?_ | refine kVf ?_ ?_ | refine kVc ?_ ?_ | exact VLeL.nil | exact OLe.row _ _ | rfl | refine VLe.rsle rfl ?_ ?_ ?_ | refine kQw ?_ ?_ | refine kQm ?_ ?_ | refine kQj ?_ ?_ | refine kQc ?_ ?_ | refine kQs ?_ ?_ ?_ | exact OLe.mapS0 rfl)) <;> try exact kZ
  rintro ⟨i, hi, hq⟩
  have hi : i ≤ P.length := hi
  have hq : okFrom (wiB lim) id (lastNo id P i) (P.drop i) = okN lim P := hq
  cases hxi : P[i]? with
  | none =>
    have hge : P.length ≤ i := List.getElem?_eq_none_iff.1 hxi
    have hno : ¬ ((i : Int) < ((P.map eI).length : Int)) := by rw [List.length_map]; omega
    repeat' (first | exact cl1 | (refine stx ?_; first | exact exHM _ | refine exU8 ?_) | ((fail_if_success refine stp ?_); (conv => whnf) <;> (first | exact cl2 | refine kBn hno fun hc => ?_ | refine kX ?_ | refine kP ?_ | refine kBd (fun hc => ?_) (fun hc => ?_) | refine kT ?_ | refine kF ?_ | refine kN ?_ | refine kBm (fun hc => ?_) (fun hc => ?_) | refine kO ?_ | refine kS ?_ | refine kA ?_ | exact PV.leL_nil | refine kC ?_ ?_ | refine And.intro ?_ ?_ | refine ix_map (fun x hx => ?_) | refine exU8 ?_ | refine nilc (fun hn => ?_) ?_ | exact cl3 | refine imp0 (fun hpos => ?_) | refine kG ?_ ?_ | exact rfl | exact trivial | (first | refine stq ?_ | fail)))) <;> (try exact cl5)
    have e : okN lim P = true := okFrom_fin (wiB lim) id hq hge
    unfold listB; rw [e]
    refine LeG.bool ?_
    rw [List.length_map, Bool.true_and]
    exact decide_eq_decide.2 (by omega)
  | some z =>
    have hlt : i < P.length := (List.getElem?_eq_some_iff.1 hxi).1
    have hyes : ((i : Int) < ((P.map eI).length : Int)) := by rw [List.length_map]; omega
    have hbad : (wiB lim z && decide (lastNo id P i < id z)) = false → listB lim P = false := fun h => by
      unfold listB; rw [show okN lim P = false from okFrom_no (wiB lim) id hxi hq h]; rfl
    have hgood : (wiB lim z && decide (lastNo id P i < id z)) = true → okFrom (wiB lim) id (lastNo id P (i + 1)) (P.drop (i + 1)) = okN lim P := fun h => okFrom_yes (wiB lim) id hxi hq h
    by_cases h0 : z < 0
    · have e := hbad (by unfold wiB; rw [decide_eq_false (show ¬ 0 ≤ z by omega)]; rfl)
      rw [e]
      repeat' (first | exact cl1 | (refine stx ?_; first | exact exHM _ | refine exU8 ?_) | ((fail_if_success refine stp ?_); (conv => whnf) <;> (first | exact cl2 | refine kBy hyes fun hc => ?_ | refine ix_at hxi ?_ | refine kBy h0 fun hc => ?_ | refine kX ?_ | refine kP ?_ | refine kBd (fun hc => ?_) (fun hc => ?_) | refine kT ?_ | refine kF ?_ | refine kN ?_ | refine kBm (fun hc => ?_) (fun hc => ?_) | refine kO ?_ | refine kS ?_ | refine kA ?_ | exact PV.leL_nil | refine kC ?_ ?_ | refine And.intro ?_ ?_ | refine ix_map (fun x hx => ?_) | refine exU8 ?_ | refine nilc (fun hn => ?_) ?_ | exact cl3 | refine imp0 (fun hpos => ?_) | refine kG ?_ ?_ | exact rfl | exact trivial | (first | refine stq ?_ | fail)))) <;> (try exact cl5)
    · by_cases hl : lim ≤ z
      · have e := hbad (by unfold wiB; rw [decide_eq_false (show ¬ z < lim by omega), Bool.and_false]; rfl)
        rw [e]
        repeat' (first | exact cl1 | (refine stx ?_; first | exact exHM _ | refine exU8 ?_) | ((fail_if_success refine stp ?_); (conv => whnf) <;> (first | exact cl2 | refine kBy hyes fun hc => ?_ | refine ix_at hxi ?_ | refine kBn h0 fun hc => ?_ | refine kBy hl fun hc => ?_ | refine kX ?_ | refine kP ?_ | refine kBd (fun hc => ?_) (fun hc => ?_) | refine kT ?_ | refine kF ?_ | refine kN ?_ | refine kBm (fun hc => ?_) (fun hc => ?_) | refine kO ?_ | refine kS ?_ | refine kA ?_ | exact PV.leL_nil | refine kC ?_ ?_ | refine And.intro ?_ ?_ | refine ix_map (fun x hx => ?_) | refine exU8 ?_ | refine nilc (fun hn => ?_) ?_ | exact cl3 | refine imp0 (fun hpos => ?_) | refine kG ?_ ?_ | exact rfl | exact trivial | (first | refine stq ?_ | fail)))) <;> (try exact cl5)
      · have hw : wiB lim z = true := by unfold wiB; rw [decide_eq_true (show 0 ≤ z by omega), decide_eq_true (show z < lim by omega)]; rfl
        cases i with
        | zero =>
          have hg := hgood (by rw [hw]; show (true && decide ((-1 : Int) < z)) = true; rw [decide_eq_true (by omega)]; rfl)
          have hi0 : ¬ (0 : Int) < ((0 : Nat) : Int) := by decide
          repeat' (first | exact cl1 | (refine stx ?_; first | exact exHM _ | refine exU8 ?_) | ((fail_if_success refine stp ?_); (conv => whnf) <;> (first | exact cl2 | refine kBy hyes fun hc => ?_ | refine ix_at hxi ?_ | refine kBn h0 fun hc => ?_ | refine kBn hl fun hc => ?_ | refine kBn hi0 fun hc => ?_ | refine kX ?_ | refine kP ?_ | refine kBd (fun hc => ?_) (fun hc => ?_) | refine kT ?_ | refine kF ?_ | refine kN ?_ | refine kBm (fun hc => ?_) (fun hc => ?_) | refine kO ?_ | refine kS ?_ | refine kA ?_ | exact PV.leL_nil | refine kC ?_ ?_ | refine And.intro ?_ ?_ | refine ix_map (fun x hx => ?_) | refine exU8 ?_ | refine nilc (fun hn => ?_) ?_ | exact cl3 | refine imp0 (fun hpos => ?_) | refine kG ?_ ?_ | exact rfl | exact trivial | (first | refine stq ?_ | fail)))) <;> (try exact cl5)
          refine ⟨⟨0 + 1, hlt, hg⟩, by show P.length - (0 + 1) < P.length - 0; omega, ?_⟩
          (first | refine Ent.ofA [] ?_ | refine Ent.ofC [] ?_) <;> (repeat' (first | exact trivial | refine kHd ?_ | refine kHm rfl (by simp) rfl (fun h => AObj.noConfusion h) ?_ ?_ | refine And.intro ?_ ?_ | exact cl9 | refine kVp ?_ | refine kVa ?_ | refine kVt ?_ | refine kVf ?_ ?_ | refine kVc ?_ ?_ | exact VLeL.nil | exact OLe.row _ _ | rfl | refine VLe.rsle rfl ?_ ?_ ?_ | refine kQw ?_ ?_ | refine kQm ?_ ?_ | refine kQj ?_ ?_ | refine kQc ?_ ?_ | refine kQs ?_ ?_ ?_ | exact OLe.mapS0 rfl)) <;> try exact kZ
        | succ k =>
          have hk : k < P.length := by omega
          obtain ⟨y, hy⟩ : ∃ y, P[k]? = some y := ⟨_, List.getElem?_eq_getElem hk⟩
          have hy2 : P[(((k + 1 : Nat) : Int) - 1).toNat]? = some y := by rw [show (((k + 1 : Nat) : Int) - 1).toNat = k by omega]; exact hy
          have hl0 : lastNo id P (k + 1) = y := lastNo_succ id hy
          have hi1 : (0 : Int) < ((k + 1 : Nat) : Int) := by omega
          by_cases hzy : z ≤ y
          · have e := hbad (by rw [hl0, decide_eq_false (show ¬ y < id z by show ¬ y < z; omega), Bool.and_false])
            rw [e]
            repeat' (first | exact cl1 | (refine stx ?_; first | exact exHM _ | refine exU8 ?_) | ((fail_if_success refine stp ?_); (conv => whnf) <;> (first | exact cl2 | refine kBy hyes fun hc => ?_ | refine ix_at hxi ?_ | refine ix_at hy2 ?_ | refine kBn h0 fun hc => ?_ | refine kBn hl fun hc => ?_ | refine kBy hi1 fun hc => ?_ | refine kBy hzy fun hc => ?_ | refine kX ?_ | refine kP ?_ | refine kBd (fun hc => ?_) (fun hc => ?_) | refine kT ?_ | refine kF ?_ | refine kN ?_ | refine kBm (fun hc => ?_) (fun hc => ?_) | refine kO ?_ | refine kS ?_ | refine kA ?_ | exact PV.leL_nil | refine kC ?_ ?_ | refine And.intro ?_ ?_ | refine ix_map (fun x hx => ?_) | refine exU8 ?_ | refine nilc (fun hn => ?_) ?_ | exact cl3 | refine imp0 (fun hpos => ?_) | refine kG ?_ ?_ | exact rfl | exact trivial | (first | refine stq ?_ | fail)))) <;> (try exact cl5)
          · have hg := hgood (by rw [hw, hl0, decide_eq_true (show y < id z by show y < z; omega)]; rfl)
            repeat' (first | exact cl1 | (refine stx ?_; first | exact exHM _ | refine exU8 ?_) | ((fail_if_success refine stp ?_); (conv => whnf) <;> (first | exact cl2 | refine kBy hyes fun hc => ?_ | refine ix_at hxi ?_ | refine ix_at hy2 ?_ | refine kBn h0 fun hc => ?_ | refine kBn hl fun hc => ?_ | refine kBy hi1 fun hc => ?_ | refine kBn hzy fun hc => ?_ | refine kX ?_ | refine kP ?_ | refine kBd (fun hc => ?_) (fun hc => ?_) | refine kT ?_ | refine kF ?_ | refine kN ?_ | refine kBm (fun hc => ?_) (fun hc => ?_) | refine kO ?_ | refine kS ?_ | refine kA ?_ | exact PV.leL_nil | refine kC ?_ ?_ | refine And.intro ?_ ?_ | refine ix_map (fun x hx => ?_) | refine exU8 ?_ | refine nilc (fun hn => ?_) ?_ | exact cl3 | refine imp0 (fun hpos => ?_) | refine kG ?_ ?_ | exact rfl | exact trivial | (first | refine stq ?_ | fail)))) <;> (try exact cl5)
            refine ⟨⟨k + 1 + 1, hlt, hg⟩, by show P.length - (k + 1 + 1) < P.length - (k + 1); omega, ?_⟩
            (first | refine Ent.ofA [] ?_ | refine Ent.ofC [] ?_) <;> (repeat' (first | exact trivial | refine kHd ?_ | refine kHm rfl (by simp) rfl (fun h => AObj.noConfusion h) ?_ ?_ | refine And.intro ?_ ?_ | exact cl9 | refine kVp ?_ | refine kVa ?_ | refine kVt ?_ | refine kVf ?_ ?_ | refine kVc ?_ ?_ | exact VLeL.nil | exact OLe.row _ _ | rfl | refine VLe.rsle rfl ?_ ?_ ?_ | refine kQw ?_ ?_ | refine kQm ?_ ?_ | refine kQj ?_ ?_ | refine kQc ?_ ?_ | refine kQs ?_ ?_ ?_ | exact OLe.mapS0 rfl)) <;> try exact kZ
end Go.Proofs.Ytgclicahmbgfiaa

namespace Go.Proofs.Ytgclicahmbgfiaa
open Go Go.Sg
structure Dc where
  no : Int
  tm : Int
  kind : Int
  val : Int
  frm : Int
  til : Int
  par : List Int
  rev : List Int
  need : List Int
  tx : Nat → Int
def u8 (n : Int) : PV := .int .u8 n
def eA (x : Dc) : PV := .agg [eI x.no, eI x.tm, eI x.kind, eI x.val, eI x.frm, eI x.til, eIs x.par, eIs x.rev, eIs x.need, u8 (x.tx 0), u8 (x.tx 1), u8 (x.tx 2), u8 (x.tx 3), u8 (x.tx 4), u8 (x.tx 5), u8 (x.tx 6), u8 (x.tx 7), u8 (x.tx 8), u8 (x.tx 9), u8 (x.tx 10), u8 (x.tx 11), u8 (x.tx 12), u8 (x.tx 13), u8 (x.tx 14), u8 (x.tx 15), u8 (x.tx 16), u8 (x.tx 17), u8 (x.tx 18), u8 (x.tx 19), u8 (x.tx 20), u8 (x.tx 21), u8 (x.tx 22), u8 (x.tx 23), u8 (x.tx 24), u8 (x.tx 25), u8 (x.tx 26), u8 (x.tx 27), u8 (x.tx 28), u8 (x.tx 29), u8 (x.tx 30), u8 (x.tx 31)]
def eL (l : List Dc) : PV := .sl 41 false (l.map eA)
def rightA (x : Dc) : Bool := (wiB 4096 x.no && wiB TM x.tm && wiB 16 x.kind && wiB 1099511627777 x.val) && (decide (0 ≤ x.frm) && decide (x.frm < x.til) && decide (x.til ≤ TM)) && (listB 1048577 x.par && listB x.no x.rev && listB x.no x.need)
theorem right_calls (x : Dc) (h1 : x.par.length < 140737488355328) (h2 : x.rev.length < 140737488355328) (h3 : x.need.length < 140737488355328) : PCalls Try.prog 35 [eA x] (.bool (rightA x)) := by
  refine PCalls.of (N := 74) (res := [.tmp 2]) mixed Try.func35 rfl rfl rfl (by kernel_rfl) (by simp) [0, 1, 2, 3] ?_
  repeat' (first | exact cl1 | (refine stx ?_; first | exact exHM _ | refine exU8 ?_) | ((with_reducible show callX _ _ _ _ _); (first | refine call_p (time_calls _) (by kernel_rfl) rfl ?_ | refine call_p (list_calls x.par _ h1) (by kernel_rfl) rfl ?_ | refine call_p (list_calls x.rev _ h2) (by kernel_rfl) rfl ?_ | refine call_p (list_calls x.need _ h3) (by kernel_rfl) rfl ?_)) | ((fail_if_success refine stp ?_); (conv => whnf) <;> (first | exact cl2 | refine kX ?_ | refine kP ?_ | refine kBd (fun hc => ?_) (fun hc => ?_) | refine kT ?_ | refine kF ?_ | refine kN ?_ | refine kBm (fun hc => ?_) (fun hc => ?_) | refine kO ?_ | refine kS ?_ | refine kA ?_ | exact PV.leL_nil | refine kC ?_ ?_ | refine And.intro ?_ ?_ | refine ix_map (fun x hx => ?_) | refine exU8 ?_ | refine nilc (fun hn => ?_) ?_ | exact cl3 | refine imp0 (fun hpos => ?_) | refine kG ?_ ?_ | exact rfl | exact trivial | (first | refine stq ?_ | fail)))) <;> (try exact cl5)
  all_goals (refine LeG.bool ?_; first | (simp_all [rightA, wiB, TM]; done) | (simp_all [rightA, wiB, TM]; omega) | trace_state)
end Go.Proofs.Ytgclicahmbgfiaa

namespace Go.Proofs.Ytgclicahmbgfiaa
open Go Go.Sg
theorem rright_calls (x : Dc) (h1 : x.par.length < 140737488355328) (h2 : x.rev.length < 140737488355328) (h3 : x.need.length < 140737488355328) : PCalls Try.prog 43 [eA x] (.bool (rightA x)) := by
  refine PCalls.of (N := 71) (res := [.tmp 2]) mixed Try.func43 rfl rfl rfl (by kernel_rfl) (by simp) [0, 1, 2, 36] ?_
  repeat' (first | exact cl1 | (refine stx ?_; first | exact exHM _ | refine exU8 ?_) | ((with_reducible show callX _ _ _ _ _); (first | refine call_p (rtime_calls _) (by kernel_rfl) rfl ?_ | refine call_p (rlist_calls x.par _ h1) (by kernel_rfl) rfl ?_ | refine call_p (rlist_calls x.rev _ h2) (by kernel_rfl) rfl ?_ | refine call_p (rlist_calls x.need _ h3) (by kernel_rfl) rfl ?_)) | ((fail_if_success refine stp ?_); (conv => whnf) <;> (first | exact cl2 | refine kX ?_ | refine kP ?_ | refine kBd (fun hc => ?_) (fun hc => ?_) | refine kT ?_ | refine kF ?_ | refine kN ?_ | refine kBm (fun hc => ?_) (fun hc => ?_) | refine kO ?_ | refine kS ?_ | refine kA ?_ | exact PV.leL_nil | refine kC ?_ ?_ | refine And.intro ?_ ?_ | refine ix_map (fun x hx => ?_) | refine exU8 ?_ | refine nilc (fun hn => ?_) ?_ | exact cl3 | refine imp0 (fun hpos => ?_) | refine kG ?_ ?_ | exact rfl | exact trivial | (first | refine stq ?_ | fail)))) <;> (try exact cl5)
  all_goals (refine LeG.bool ?_; first | (simp_all [rightA, wiB, TM]; done) | (simp_all [rightA, wiB, TM]; omega) | trace_state)
theorem fewD_calls (x : Dc) : PCalls Try.prog 12 [eA x] (.bool (decide (x.par.length ≤ 20) && decide (x.rev.length ≤ 20) && decide (x.need.length ≤ 20))) := by
  refine PCalls.of (N := 19) (res := [.tmp 2]) mixed Try.func12 rfl rfl rfl (by kernel_rfl) (by simp) [0, 1, 2] ?_
  repeat' (first | exact cl1 | (refine stx ?_; first | exact exHM _ | refine exU8 ?_) | ((fail_if_success refine stp ?_); (conv => whnf) <;> (first | exact cl2 | refine kX ?_ | refine kP ?_ | refine kBd (fun hc => ?_) (fun hc => ?_) | refine kT ?_ | refine kF ?_ | refine kN ?_ | refine kBm (fun hc => ?_) (fun hc => ?_) | refine kO ?_ | refine kS ?_ | refine kA ?_ | exact PV.leL_nil | refine kC ?_ ?_ | refine And.intro ?_ ?_ | refine ix_map (fun x hx => ?_) | refine exU8 ?_ | refine nilc (fun hn => ?_) ?_ | exact cl3 | refine imp0 (fun hpos => ?_) | refine kG ?_ ?_ | exact rfl | exact trivial | (first | refine stq ?_ | fail)))) <;> (try exact cl5)
  all_goals (simp only [List.length_map] at *; refine LeG.bool ?_; (by_cases h1 : x.par.length ≤ 20) <;> (by_cases h2 : x.rev.length ≤ 20) <;> (by_cases h3 : x.need.length ≤ 20) <;> simp [h1, h2, h3] <;> omega)
end Go.Proofs.Ytgclicahmbgfiaa

namespace Go.Proofs.Ytgclicahmbgfiaa
open Go Go.Sg
abbrev fnd (l : List Dc) (n : Int) : Int := fIx (fun x : Dc => decide (x.no = n)) l
theorem find_calls (l : List Dc) (n : Int) (hl : l.length < 1000000) : PCalls Try.prog 30 [eL l, eI n] (eI (fnd l n)) := by
  refine PCalls.of (N := 20) (res := [.tmp 4]) mixed Try.func30 rfl rfl rfl (by kernel_rfl) (by simp) [0, 1, 4, 5, 9, 18] ?_
  repeat' (first | exact cl1 | (refine stx ?_; first | exact exHM _ | refine exU8 ?_) | ((fail_if_success refine stp ?_); (conv => whnf) <;> (first | exact cl2 | refine kX ?_ | refine kP ?_ | refine kBd (fun hc => ?_) (fun hc => ?_) | refine kT ?_ | refine kF ?_ | refine kN ?_ | refine kBm (fun hc => ?_) (fun hc => ?_) | refine kO ?_ | refine kS ?_ | refine kA ?_ | exact PV.leL_nil | refine kC ?_ ?_ | refine And.intro ?_ ?_ | refine ix_map (fun x hx => ?_) | refine exU8 ?_ | refine nilc (fun hn => ?_) ?_ | exact cl3 | refine imp0 (fun hpos => ?_) | refine kG ?_ ?_ | exact rfl | exact trivial | (first | refine stq ?_ | fail)))) <;> (try exact cl5)
  refine Wpc.loopB (α := {i : Nat // i ≤ l.length ∧ ∀ j w, j < i → l[j]? = some w → w.no ≠ n}) mixed [0, 1, 4, 5, 9, 18] (fun i => [(5, .p (eI i.1))]) (fun i => l.length - i.1) ⟨0, by omega, by intro j w h; omega⟩ ?_ ?_
  · (first | refine Ent.ofA [] ?_ | refine Ent.ofC [] ?_) <;> (repeat' (first | exact trivial | refine kHd ?_ | refine kHm rfl (by simp) rfl (fun h => AObj.noConfusion h) ?_ ?_ | refine And.intro ?_ ?_ | exact cl9 | refine kVp ?_ | refine kVa ?_ | refine kVt ?_ | refine kVf ?_ ?_ | refine kVc ?_ ?_ | exact VLeL.nil | exact OLe.row _ _ | rfl | refine VLe.rsle rfl ?_ ?_ ?_ | refine kQw ?_ ?_ | refine kQm ?_ ?_ | refine kQj ?_ ?_ | refine kQc ?_ ?_ | refine kQs ?_ ?_ ?_ | exact OLe.mapS0 rfl)) <;> try exact kZ
  rintro ⟨i, hi, hq⟩
  have hi : i ≤ l.length := hi
  have hq : ∀ j w, j < i → l[j]? = some w → w.no ≠ n := hq
  cases hxi : l[i]? with
  | some y =>
    have hlt := (List.getElem?_eq_some_iff.1 hxi).1
    have hyes : ((i : Int) < ((l.map eA).length : Int)) := by rw [List.length_map]; omega
    repeat' (first | exact cl1 | (refine stx ?_; first | exact exHM _ | refine exU8 ?_) | ((fail_if_success refine stp ?_); (conv => whnf) <;> (first | exact cl2 | refine kBy hyes fun hc => ?_ | refine ix_at hxi ?_ | refine kX ?_ | refine kP ?_ | refine kBd (fun hc => ?_) (fun hc => ?_) | refine kT ?_ | refine kF ?_ | refine kN ?_ | refine kBm (fun hc => ?_) (fun hc => ?_) | refine kO ?_ | refine kS ?_ | refine kA ?_ | exact PV.leL_nil | refine kC ?_ ?_ | refine And.intro ?_ ?_ | refine ix_map (fun x hx => ?_) | refine exU8 ?_ | refine nilc (fun hn => ?_) ?_ | exact cl3 | refine imp0 (fun hpos => ?_) | refine kG ?_ ?_ | exact rfl | exact trivial | (first | refine stq ?_ | fail)))) <;> (try exact cl5)
    · have hc : y.no = n := hc
      show LeG (eI i) (eI (fnd l n))
      rw [show fnd l n = (i : Int) from fIx_some (q := fun x : Dc => decide (x.no = n)) hxi (decide_eq_true hc) (fun j w hj hw => decide_eq_false (hq j w hj hw))]; exact LeG.refl _
    · have hne : ¬ y.no = n := hc
      refine ⟨⟨i + 1, by omega, fun j w hj hw => ?_⟩, by show l.length - (i + 1) < l.length - i; omega, ?_⟩
      · rcases Nat.lt_succ_iff_lt_or_eq.1 hj with h1 | h1
        · exact hq j w h1 hw
        · subst h1; rw [hxi] at hw; injection hw with hw; subst hw; exact hne
      · (first | refine Ent.ofA [] ?_ | refine Ent.ofC [] ?_) <;> (repeat' (first | exact trivial | refine kHd ?_ | refine kHm rfl (by simp) rfl (fun h => AObj.noConfusion h) ?_ ?_ | refine And.intro ?_ ?_ | exact cl9 | refine kVp ?_ | refine kVa ?_ | refine kVt ?_ | refine kVf ?_ ?_ | refine kVc ?_ ?_ | exact VLeL.nil | exact OLe.row _ _ | rfl | refine VLe.rsle rfl ?_ ?_ ?_ | refine kQw ?_ ?_ | refine kQm ?_ ?_ | refine kQj ?_ ?_ | refine kQc ?_ ?_ | refine kQs ?_ ?_ ?_ | exact OLe.mapS0 rfl)) <;> try exact kZ
  | none =>
    have hge : l.length ≤ i := List.getElem?_eq_none_iff.1 hxi
    have hno : ¬ ((i : Int) < ((l.map eA).length : Int)) := by rw [List.length_map]; omega
    repeat' (first | exact cl1 | (refine stx ?_; first | exact exHM _ | refine exU8 ?_) | ((fail_if_success refine stp ?_); (conv => whnf) <;> (first | exact cl2 | refine kBn hno fun hc => ?_ | refine kX ?_ | refine kP ?_ | refine kBd (fun hc => ?_) (fun hc => ?_) | refine kT ?_ | refine kF ?_ | refine kN ?_ | refine kBm (fun hc => ?_) (fun hc => ?_) | refine kO ?_ | refine kS ?_ | refine kA ?_ | exact PV.leL_nil | refine kC ?_ ?_ | refine And.intro ?_ ?_ | refine ix_map (fun x hx => ?_) | refine exU8 ?_ | refine nilc (fun hn => ?_) ?_ | exact cl3 | refine imp0 (fun hpos => ?_) | refine kG ?_ ?_ | exact rfl | exact trivial | (first | refine stq ?_ | fail)))) <;> (try exact cl5)
    show LeG (eI (-1)) (eI (fnd l n))
    rw [show fnd l n = -1 from fIx_none (q := fun x : Dc => decide (x.no = n)) (l := l) fun j w hj hw => decide_eq_false (hq j w (by omega) hw)]; exact LeG.refl _
def thB (l : List Dc) (P : List Int) : Bool := P.all fun n => l.any fun x => decide (x.no = n)
theorem fnd_neg (l : List Dc) (n : Int) : fnd l n < 0 ↔ (l.any fun x => decide (x.no = n)) = false := by
  unfold fnd fIx
  cases h : l.findIdx? (fun x : Dc => decide (x.no = n)) with
  | none =>
    have h := List.findIdx?_eq_none_iff.1 h
    refine ⟨fun _ => List.any_eq_false.2 fun x hx e => ?_, fun _ => by decide⟩
    rw [h x hx] at e; cases e
  | some i =>
    constructor
    · intro e; exact absurd e (by show ¬ ((i : Nat) : Int) < 0; omega)
    · intro e
      obtain ⟨hi, h1, _⟩ := List.findIdx?_eq_some_iff_getElem.1 h
      exact absurd h1 (List.any_eq_false.1 e _ (List.getElem_mem hi))
theorem there_calls (l : List Dc) (P : List Int) (hl : l.length < 1000000) (hP : P.length < 140737488355328) : PCalls Try.prog 44 [eL l, eIs P] (.bool (thB l P)) := by
  refine PCalls.of (N := 19) (res := [.tmp 4]) mixed Try.func44 rfl rfl rfl (by kernel_rfl) (by simp) [0, 1, 4, 5, 9, 18] ?_
  repeat' (first | exact cl1 | (refine stx ?_; first | exact exHM _ | refine exU8 ?_) | ((fail_if_success refine stp ?_); (conv => whnf) <;> (first | exact cl2 | refine kX ?_ | refine kP ?_ | refine kBd (fun hc => ?_) (fun hc => ?_) | refine kT ?_ | refine kF ?_ | refine kN ?_ | refine kBm (fun hc => ?_) (fun hc => ?_) | refine kO ?_ | refine kS ?_ | refine kA ?_ | exact PV.leL_nil | refine kC ?_ ?_ | refine And.intro ?_ ?_ | refine ix_map (fun x hx => ?_) | refine exU8 ?_ | refine nilc (fun hn => ?_) ?_ | exact cl3 | refine imp0 (fun hpos => ?_) | refine kG ?_ ?_ | exact rfl | exact trivial | (first | refine stq ?_ | fail)))) <;> (try exact cl5)
  refine Wpc.loopB (α := {i : Nat // i ≤ P.length ∧ ∀ j w, j < i → P[j]? = some w → (l.any fun x => decide (x.no = w)) = true}) mixed [0, 1, 4, 5, 9, 18] (fun i => [(5, .p (eI i.1))]) (fun i => P.length - i.1) ⟨0, by omega, by intro j w h; omega⟩ ?_ ?_
  · (first | refine Ent.ofA [] ?_ | refine Ent.ofC [] ?_) <;> (repeat' (first | exact trivial | refine kHd ?_ | refine kHm rfl (by simp) rfl (fun h => AObj.noConfusion h) ?_ ?_ | refine And.intro ?_ ?_ | exact cl9 | refine kVp ?_ | refine kVa ?_ | refine kVt ?_ | refine kVf ?_ ?_ | refine kVc ?_ ?_ | exact VLeL.nil | exact OLe.row _ _ | rfl | refine VLe.rsle rfl ?_ ?_ ?_ | refine kQw ?_ ?_ | refine kQm ?_ ?_ | refine kQj ?_ ?_ | refine kQc ?_ ?_ | refine kQs ?_ ?_ ?_ | exact OLe.mapS0 rfl)) <;> try exact kZ
  rintro ⟨i, hi, hq⟩
  have hi : i ≤ P.length := hi
  have hq : ∀ j w, j < i → P[j]? = some w → (l.any fun x => decide (x.no = w)) = true := hq
  cases hxi : P[i]? with
  | some n =>
    have hlt := (List.getElem?_eq_some_iff.1 hxi).1
    have hyes : ((i : Int) < ((P.map eI).length : Int)) := by rw [List.length_map]; omega
    have q := find_calls l n hl
    repeat' (first | exact cl1 | (refine stx ?_; first | exact exHM _ | refine exU8 ?_) | ((with_reducible show callX _ _ _ _ _); (first | refine call_p (q) (by kernel_rfl) rfl ?_)) | ((fail_if_success refine stp ?_); (conv => whnf) <;> (first | exact cl2 | refine kBy hyes fun hc => ?_ | refine ix_at hxi ?_ | refine kX ?_ | refine kP ?_ | refine kBd (fun hc => ?_) (fun hc => ?_) | refine kT ?_ | refine kF ?_ | refine kN ?_ | refine kBm (fun hc => ?_) (fun hc => ?_) | refine kO ?_ | refine kS ?_ | refine kA ?_ | exact PV.leL_nil | refine kC ?_ ?_ | refine And.intro ?_ ?_ | refine ix_map (fun x hx => ?_) | refine exU8 ?_ | refine nilc (fun hn => ?_) ?_ | exact cl3 | refine imp0 (fun hpos => ?_) | refine kG ?_ ?_ | exact rfl | exact trivial | (first | refine stq ?_ | fail)))) <;> (try exact cl5)
    · have hc : fnd l n < 0 := hc
      have e : thB l P = false := List.all_eq_false.2 ⟨n, List.mem_of_getElem? hxi, by rw [(fnd_neg l n).1 hc]; exact Bool.false_ne_true⟩
      rw [e]; exact LeG.refl _
    · have hcc : ¬ fnd l n < 0 := hc
      refine ⟨⟨i + 1, by omega, fun j w hj hw => ?_⟩, by show P.length - (i + 1) < P.length - i; omega, ?_⟩
      · rcases Nat.lt_succ_iff_lt_or_eq.1 hj with h1 | h1
        · exact hq j w h1 hw
        · subst h1; rw [hxi] at hw; injection hw with hw; subst hw
          cases h : l.any fun x => decide (x.no = n) with
          | true => rfl
          | false => exact absurd ((fnd_neg l n).2 h) hcc
      · (first | refine Ent.ofA [] ?_ | refine Ent.ofC [] ?_) <;> (repeat' (first | exact trivial | refine kHd ?_ | refine kHm rfl (by simp) rfl (fun h => AObj.noConfusion h) ?_ ?_ | refine And.intro ?_ ?_ | exact cl9 | refine kVp ?_ | refine kVa ?_ | refine kVt ?_ | refine kVf ?_ ?_ | refine kVc ?_ ?_ | exact VLeL.nil | exact OLe.row _ _ | rfl | refine VLe.rsle rfl ?_ ?_ ?_ | refine kQw ?_ ?_ | refine kQm ?_ ?_ | refine kQj ?_ ?_ | refine kQc ?_ ?_ | refine kQs ?_ ?_ ?_ | exact OLe.mapS0 rfl)) <;> try exact kZ
  | none =>
    have hge : P.length ≤ i := List.getElem?_eq_none_iff.1 hxi
    have hno : ¬ ((i : Int) < ((P.map eI).length : Int)) := by rw [List.length_map]; omega
    repeat' (first | exact cl1 | (refine stx ?_; first | exact exHM _ | refine exU8 ?_) | ((fail_if_success refine stp ?_); (conv => whnf) <;> (first | exact cl2 | refine kBn hno fun hc => ?_ | refine kX ?_ | refine kP ?_ | refine kBd (fun hc => ?_) (fun hc => ?_) | refine kT ?_ | refine kF ?_ | refine kN ?_ | refine kBm (fun hc => ?_) (fun hc => ?_) | refine kO ?_ | refine kS ?_ | refine kA ?_ | exact PV.leL_nil | refine kC ?_ ?_ | refine And.intro ?_ ?_ | refine ix_map (fun x hx => ?_) | refine exU8 ?_ | refine nilc (fun hn => ?_) ?_ | exact cl3 | refine imp0 (fun hpos => ?_) | refine kG ?_ ?_ | exact rfl | exact trivial | (first | refine stq ?_ | fail)))) <;> (try exact cl5)
    have e : thB l P = true := List.all_eq_true.2 fun w hw => by
      obtain ⟨j, hj⟩ := List.getElem?_of_mem hw
      exact hq j w (by have := (List.getElem?_eq_some_iff.1 hj).1; omega) hj
    rw [e]; exact LeG.refl _
end Go.Proofs.Ytgclicahmbgfiaa

namespace Go.Proofs.Ytgclicahmbgfiaa
open Go Go.Sg
def okD (x : Dc) : Prop := x.par.length < 140737488355328 ∧ x.rev.length < 140737488355328 ∧ x.need.length < 140737488355328
def namB (l : List Dc) (x : Dc) : Bool := thB l x.rev && thB l x.need
def chkA (l : List Dc) : Int := if (4096 : Int) < l.length then 2 else if okFrom rightA Dc.no (-1) l && l.all (namB l) then 0 else 170
theorem chkA_lim {l : List Dc} (h : (4096 : Int) < l.length) : chkA l = 2 := by unfold chkA; rw [if_pos h]
theorem chkA_bad {l : List Dc} (h : ¬ (4096 : Int) < l.length) (k : okFrom rightA Dc.no (-1) l = false) : chkA l = 170 := by unfold chkA; rw [if_neg h, k]; rfl
theorem chkA_nam {l : List Dc} (h : ¬ (4096 : Int) < l.length) {x : Dc} (hx : x ∈ l) (k : namB l x = false) : chkA l = 170 := by
  unfold chkA; rw [if_neg h, show l.all (namB l) = false from List.all_eq_false.2 ⟨x, hx, by rw [k]; exact Bool.false_ne_true⟩, Bool.and_false]; rfl
theorem chkA_ok {l : List Dc} (h : ¬ (4096 : Int) < l.length) (k : okFrom rightA Dc.no (-1) l = true) (g : ∀ x ∈ l, namB l x = true) : chkA l = 0 := by
  unfold chkA; rw [if_neg h, k, show l.all (namB l) = true from List.all_eq_true.2 g]; rfl
theorem rightA_no {x : Dc} (h : rightA x = true) : 0 ≤ x.no := by
  unfold rightA wiB at h
  simp only [Bool.and_eq_true, decide_eq_true_eq] at h
  exact h.1.1.1.1.1.1
theorem rcheck_calls (l : List Dc) (hl : l.length < 1000000) (hd : ∀ x ∈ l, okD x) : PCalls Try.prog 18 [eL l] (eI (chkA l)) := by
  by_cases h96 : (4096 : Int) < l.length
  · have h96' : (4096 : Int) < ((l.map eA).length : Int) := by rw [List.length_map]; exact h96
    rw [chkA_lim h96]
    refine PCalls.of (N := 57) (res := [.tmp 2]) mixed Try.func18 rfl rfl rfl (by kernel_rfl) (by simp) [0, 2, 3, 6, 10, 56] ?_
    repeat' (first | exact cl1 | (refine stx ?_; first | exact exHM _ | refine exU8 ?_) | ((fail_if_success refine stp ?_); (conv => whnf) <;> (first | exact cl2 | refine kBd (fun hc => ?_) (fun hc => absurd h96' hc) | refine kX ?_ | refine kP ?_ | refine kBd (fun hc => ?_) (fun hc => ?_) | refine kT ?_ | refine kF ?_ | refine kN ?_ | refine kBm (fun hc => ?_) (fun hc => ?_) | refine kO ?_ | refine kS ?_ | refine kA ?_ | exact PV.leL_nil | refine kC ?_ ?_ | refine And.intro ?_ ?_ | refine ix_map (fun x hx => ?_) | refine exU8 ?_ | refine nilc (fun hn => ?_) ?_ | exact cl3 | refine imp0 (fun hpos => ?_) | refine kG ?_ ?_ | exact rfl | exact trivial | (first | refine stq ?_ | fail)))) <;> (try exact cl5)
  have h96' : ¬ (4096 : Int) < ((l.map eA).length : Int) := by rw [List.length_map]; exact h96
  refine PCalls.of (N := 57) (res := [.tmp 2]) mixed Try.func18 rfl rfl rfl (by kernel_rfl) (by simp) [0, 2, 3, 6, 10, 56] ?_
  repeat' (first | exact cl1 | (refine stx ?_; first | exact exHM _ | refine exU8 ?_) | ((fail_if_success refine stp ?_); (conv => whnf) <;> (first | exact cl2 | refine kBd (fun hc => absurd hc h96') (fun hc => ?_) | refine kX ?_ | refine kP ?_ | refine kBd (fun hc => ?_) (fun hc => ?_) | refine kT ?_ | refine kF ?_ | refine kN ?_ | refine kBm (fun hc => ?_) (fun hc => ?_) | refine kO ?_ | refine kS ?_ | refine kA ?_ | exact PV.leL_nil | refine kC ?_ ?_ | refine And.intro ?_ ?_ | refine ix_map (fun x hx => ?_) | refine exU8 ?_ | refine nilc (fun hn => ?_) ?_ | exact cl3 | refine imp0 (fun hpos => ?_) | refine kG ?_ ?_ | exact rfl | exact trivial | (first | refine stq ?_ | fail)))) <;> (try exact cl5)
  refine Wpc.loopB (α := {i : Nat // i ≤ l.length ∧ okFrom rightA Dc.no (lastNo Dc.no l i) (l.drop i) = okFrom rightA Dc.no (-1) l ∧ ∀ j w, j < i → l[j]? = some w → namB l w = true}) mixed [0, 2, 3, 6, 10, 56] (fun i => [(3, .p (eI i.1))]) (fun i => l.length - i.1) ⟨0, by omega, rfl, by intro j w h; omega⟩ ?_ ?_
  · (first | refine Ent.ofA [] ?_ | refine Ent.ofC [] ?_) <;> (repeat' (first | exact trivial | refine kHd ?_ | refine kHm rfl (by simp) rfl (fun h => AObj.noConfusion h) ?_ ?_ | refine And.intro ?_ ?_ | exact cl9 | refine kVp ?_ | refine kVa ?_ | refine kVt ?_ | refine kVf ?_ ?_ | refine kVc ?_ ?_ | exact VLeL.nil | exact OLe.row _ _ | rfl | refine VLe.rsle rfl ?_ ?_ ?_ | refine kQw ?_ ?_ | refine kQm ?_ ?_ | refine kQj ?_ ?_ | refine kQc ?_ ?_ | refine kQs ?_ ?_ ?_ | exact OLe.mapS0 rfl)) <;> try exact kZ
  rintro ⟨i, hi, hq, hn⟩
  have hi : i ≤ l.length := hi
  have hq : okFrom rightA Dc.no (lastNo Dc.no l i) (l.drop i) = okFrom rightA Dc.no (-1) l := hq
  have hn : ∀ j w, j < i → l[j]? = some w → namB l w = true := hn
  cases hxi : l[i]? with
  | none =>
    have hge : l.length ≤ i := List.getElem?_eq_none_iff.1 hxi
    have hno : ¬ ((i : Int) < ((l.map eA).length : Int)) := by rw [List.length_map]; omega
    repeat' (first | exact cl1 | (refine stx ?_; first | exact exHM _ | refine exU8 ?_) | ((fail_if_success refine stp ?_); (conv => whnf) <;> (first | exact cl2 | refine kBn hno fun hc => ?_ | refine kX ?_ | refine kP ?_ | refine kBd (fun hc => ?_) (fun hc => ?_) | refine kT ?_ | refine kF ?_ | refine kN ?_ | refine kBm (fun hc => ?_) (fun hc => ?_) | refine kO ?_ | refine kS ?_ | refine kA ?_ | exact PV.leL_nil | refine kC ?_ ?_ | refine And.intro ?_ ?_ | refine ix_map (fun x hx => ?_) | refine exU8 ?_ | refine nilc (fun hn => ?_) ?_ | exact cl3 | refine imp0 (fun hpos => ?_) | refine kG ?_ ?_ | exact rfl | exact trivial | (first | refine stq ?_ | fail)))) <;> (try exact cl5)
    rw [chkA_ok h96 (okFrom_fin rightA Dc.no hq hge) fun x hx => by
      obtain ⟨j, hj⟩ := List.getElem?_of_mem hx
      exact hn j x (by have := (List.getElem?_eq_some_iff.1 hj).1; omega) hj]
    exact LeG.refl _
  | some z =>
    have hlt : i < l.length := (List.getElem?_eq_some_iff.1 hxi).1
    have hyes : ((i : Int) < ((l.map eA).length : Int)) := by rw [List.length_map]; omega
    have hm := List.mem_of_getElem? hxi
    obtain ⟨d1, d2, d3⟩ := hd z hm
    have q1 := rright_calls z d1 d2 d3
    have q2 := there_calls l z.rev hl d2
    have q3 := there_calls l z.need hl d3
    have hbad : (rightA z && decide (lastNo Dc.no l i < z.no)) = false → chkA l = 170 := fun h => chkA_bad h96 (okFrom_no rightA Dc.no hxi hq h)
    have hgood : (rightA z && decide (lastNo Dc.no l i < z.no)) = true → okFrom rightA Dc.no (lastNo Dc.no l (i + 1)) (l.drop (i + 1)) = okFrom rightA Dc.no (-1) l := fun h => okFrom_yes rightA Dc.no hxi hq h
    have hnn : namB l z = true → ∀ j w, j < i + 1 → l[j]? = some w → namB l w = true := fun h j w hj hw => by
      rcases Nat.lt_succ_iff_lt_or_eq.1 hj with h1 | h1
      · exact hn j w h1 hw
      · rw [h1, hxi] at hw; injection hw with hw; rw [← hw]; exact h
    cases hr : rightA z with
    | false =>
      rw [hr] at q1
      rw [hbad (by rw [hr]; rfl)]
      repeat' (first | exact cl1 | (refine stx ?_; first | exact exHM _ | refine exU8 ?_) | ((with_reducible show callX _ _ _ _ _); (first | refine call_p (q1) (by kernel_rfl) rfl ?_)) | ((fail_if_success refine stp ?_); (conv => whnf) <;> (first | exact cl2 | refine kBy hyes fun hc => ?_ | refine ix_at hxi ?_ | refine kX ?_ | refine kP ?_ | refine kBd (fun hc => ?_) (fun hc => ?_) | refine kT ?_ | refine kF ?_ | refine kN ?_ | refine kBm (fun hc => ?_) (fun hc => ?_) | refine kO ?_ | refine kS ?_ | refine kA ?_ | exact PV.leL_nil | refine kC ?_ ?_ | refine And.intro ?_ ?_ | refine ix_map (fun x hx => ?_) | refine exU8 ?_ | refine nilc (fun hn => ?_) ?_ | exact cl3 | refine imp0 (fun hpos => ?_) | refine kG ?_ ?_ | exact rfl | exact trivial | (first | refine stq ?_ | fail)))) <;> (try exact cl5)
    | true =>
      rw [hr] at q1
      have h0 := rightA_no hr
      cases i with
      | zero =>
        have hg := hgood (by rw [hr]; show (true && decide ((-1 : Int) < z.no)) = true; rw [decide_eq_true (by omega)]; rfl)
        have hi0 : ¬ (0 : Int) < ((0 : Nat) : Int) := by decide
        cases h2 : thB l z.rev with
        | false =>
          rw [h2] at q2
          rw [chkA_nam h96 hm (by unfold namB; rw [h2]; rfl)]
          repeat' (first | exact cl1 | (refine stx ?_; first | exact exHM _ | refine exU8 ?_) | ((with_reducible show callX _ _ _ _ _); (first | refine call_p (q1) (by kernel_rfl) rfl ?_ | refine call_p (q2) (by kernel_rfl) rfl ?_)) | ((fail_if_success refine stp ?_); (conv => whnf) <;> (first | exact cl2 | refine kBy hyes fun hc => ?_ | refine ix_at hxi ?_ | refine kBn hi0 fun hc => ?_ | refine kX ?_ | refine kP ?_ | refine kBd (fun hc => ?_) (fun hc => ?_) | refine kT ?_ | refine kF ?_ | refine kN ?_ | refine kBm (fun hc => ?_) (fun hc => ?_) | refine kO ?_ | refine kS ?_ | refine kA ?_ | exact PV.leL_nil | refine kC ?_ ?_ | refine And.intro ?_ ?_ | refine ix_map (fun x hx => ?_) | refine exU8 ?_ | refine nilc (fun hn => ?_) ?_ | exact cl3 | refine imp0 (fun hpos => ?_) | refine kG ?_ ?_ | exact rfl | exact trivial | (first | refine stq ?_ | fail)))) <;> (try exact cl5)
        | true =>
          rw [h2] at q2
          cases h3 : thB l z.need with
          | false =>
            rw [h3] at q3
            rw [chkA_nam h96 hm (by unfold namB; rw [h2, h3]; rfl)]
            repeat' (first | exact cl1 | (refine stx ?_; first | exact exHM _ | refine exU8 ?_) | ((with_reducible show callX _ _ _ _ _); (first | refine call_p (q1) (by kernel_rfl) rfl ?_ | refine call_p (q2) (by kernel_rfl) rfl ?_ | refine call_p (q3) (by kernel_rfl) rfl ?_)) | ((fail_if_success refine stp ?_); (conv => whnf) <;> (first | exact cl2 | refine kBy hyes fun hc => ?_ | refine ix_at hxi ?_ | refine kBn hi0 fun hc => ?_ | refine kX ?_ | refine kP ?_ | refine kBd (fun hc => ?_) (fun hc => ?_) | refine kT ?_ | refine kF ?_ | refine kN ?_ | refine kBm (fun hc => ?_) (fun hc => ?_) | refine kO ?_ | refine kS ?_ | refine kA ?_ | exact PV.leL_nil | refine kC ?_ ?_ | refine And.intro ?_ ?_ | refine ix_map (fun x hx => ?_) | refine exU8 ?_ | refine nilc (fun hn => ?_) ?_ | exact cl3 | refine imp0 (fun hpos => ?_) | refine kG ?_ ?_ | exact rfl | exact trivial | (first | refine stq ?_ | fail)))) <;> (try exact cl5)
          | true =>
            rw [h3] at q3
            repeat' (first | exact cl1 | (refine stx ?_; first | exact exHM _ | refine exU8 ?_) | ((with_reducible show callX _ _ _ _ _); (first | refine call_p (q1) (by kernel_rfl) rfl ?_ | refine call_p (q2) (by kernel_rfl) rfl ?_ | refine call_p (q3) (by kernel_rfl) rfl ?_)) | ((fail_if_success refine stp ?_); (conv => whnf) <;> (first | exact cl2 | refine kBy hyes fun hc => ?_ | refine ix_at hxi ?_ | refine kBn hi0 fun hc => ?_ | refine kX ?_ | refine kP ?_ | refine kBd (fun hc => ?_) (fun hc => ?_) | refine kT ?_ | refine kF ?_ | refine kN ?_ | refine kBm (fun hc => ?_) (fun hc => ?_) | refine kO ?_ | refine kS ?_ | refine kA ?_ | exact PV.leL_nil | refine kC ?_ ?_ | refine And.intro ?_ ?_ | refine ix_map (fun x hx => ?_) | refine exU8 ?_ | refine nilc (fun hn => ?_) ?_ | exact cl3 | refine imp0 (fun hpos => ?_) | refine kG ?_ ?_ | exact rfl | exact trivial | (first | refine stq ?_ | fail)))) <;> (try exact cl5)
            refine ⟨⟨0 + 1, hlt, hg, hnn (by unfold namB; rw [h2, h3]; rfl)⟩, by show l.length - (0 + 1) < l.length - 0; omega, ?_⟩
            (first | refine Ent.ofA [] ?_ | refine Ent.ofC [] ?_) <;> (repeat' (first | exact trivial | refine kHd ?_ | refine kHm rfl (by simp) rfl (fun h => AObj.noConfusion h) ?_ ?_ | refine And.intro ?_ ?_ | exact cl9 | refine kVp ?_ | refine kVa ?_ | refine kVt ?_ | refine kVf ?_ ?_ | refine kVc ?_ ?_ | exact VLeL.nil | exact OLe.row _ _ | rfl | refine VLe.rsle rfl ?_ ?_ ?_ | refine kQw ?_ ?_ | refine kQm ?_ ?_ | refine kQj ?_ ?_ | refine kQc ?_ ?_ | refine kQs ?_ ?_ ?_ | exact OLe.mapS0 rfl)) <;> try exact kZ
      | succ k =>
        have hk : k < l.length := by omega
        obtain ⟨y, hy⟩ : ∃ y, l[k]? = some y := ⟨_, List.getElem?_eq_getElem hk⟩
        have hy2 : l[(((k + 1 : Nat) : Int) - 1).toNat]? = some y := by rw [show (((k + 1 : Nat) : Int) - 1).toNat = k by omega]; exact hy
        have hl0 : lastNo Dc.no l (k + 1) = y.no := lastNo_succ Dc.no hy
        have hi1 : (0 : Int) < ((k + 1 : Nat) : Int) := by omega
        by_cases hzy : z.no ≤ y.no
        · rw [hbad (by rw [hl0, decide_eq_false (show ¬ y.no < z.no by omega), Bool.and_false])]
          repeat' (first | exact cl1 | (refine stx ?_; first | exact exHM _ | refine exU8 ?_) | ((with_reducible show callX _ _ _ _ _); (first | refine call_p (q1) (by kernel_rfl) rfl ?_)) | ((fail_if_success refine stp ?_); (conv => whnf) <;> (first | exact cl2 | refine kBy hyes fun hc => ?_ | refine ix_at hxi ?_ | refine ix_at hy2 ?_ | refine kBy hi1 fun hc => ?_ | refine kBy hzy fun hc => ?_ | refine kX ?_ | refine kP ?_ | refine kBd (fun hc => ?_) (fun hc => ?_) | refine kT ?_ | refine kF ?_ | refine kN ?_ | refine kBm (fun hc => ?_) (fun hc => ?_) | refine kO ?_ | refine kS ?_ | refine kA ?_ | exact PV.leL_nil | refine kC ?_ ?_ | refine And.intro ?_ ?_ | refine ix_map (fun x hx => ?_) | refine exU8 ?_ | refine nilc (fun hn => ?_) ?_ | exact cl3 | refine imp0 (fun hpos => ?_) | refine kG ?_ ?_ | exact rfl | exact trivial | (first | refine stq ?_ | fail)))) <;> (try exact cl5)
        · have hg := hgood (by rw [hr, hl0, decide_eq_true (show y.no < z.no by omega)]; rfl)
          cases h2 : thB l z.rev with
          | false =>
            rw [h2] at q2
            rw [chkA_nam h96 hm (by unfold namB; rw [h2]; rfl)]
            repeat' (first | exact cl1 | (refine stx ?_; first | exact exHM _ | refine exU8 ?_) | ((with_reducible show callX _ _ _ _ _); (first | refine call_p (q1) (by kernel_rfl) rfl ?_ | refine call_p (q2) (by kernel_rfl) rfl ?_)) | ((fail_if_success refine stp ?_); (conv => whnf) <;> (first | exact cl2 | refine kBy hyes fun hc => ?_ | refine ix_at hxi ?_ | refine ix_at hy2 ?_ | refine kBy hi1 fun hc => ?_ | refine kBn hzy fun hc => ?_ | refine kX ?_ | refine kP ?_ | refine kBd (fun hc => ?_) (fun hc => ?_) | refine kT ?_ | refine kF ?_ | refine kN ?_ | refine kBm (fun hc => ?_) (fun hc => ?_) | refine kO ?_ | refine kS ?_ | refine kA ?_ | exact PV.leL_nil | refine kC ?_ ?_ | refine And.intro ?_ ?_ | refine ix_map (fun x hx => ?_) | refine exU8 ?_ | refine nilc (fun hn => ?_) ?_ | exact cl3 | refine imp0 (fun hpos => ?_) | refine kG ?_ ?_ | exact rfl | exact trivial | (first | refine stq ?_ | fail)))) <;> (try exact cl5)
          | true =>
            rw [h2] at q2
            cases h3 : thB l z.need with
            | false =>
              rw [h3] at q3
              rw [chkA_nam h96 hm (by unfold namB; rw [h2, h3]; rfl)]
              repeat' (first | exact cl1 | (refine stx ?_; first | exact exHM _ | refine exU8 ?_) | ((with_reducible show callX _ _ _ _ _); (first | refine call_p (q1) (by kernel_rfl) rfl ?_ | refine call_p (q2) (by kernel_rfl) rfl ?_ | refine call_p (q3) (by kernel_rfl) rfl ?_)) | ((fail_if_success refine stp ?_); (conv => whnf) <;> (first | exact cl2 | refine kBy hyes fun hc => ?_ | refine ix_at hxi ?_ | refine ix_at hy2 ?_ | refine kBy hi1 fun hc => ?_ | refine kBn hzy fun hc => ?_ | refine kX ?_ | refine kP ?_ | refine kBd (fun hc => ?_) (fun hc => ?_) | refine kT ?_ | refine kF ?_ | refine kN ?_ | refine kBm (fun hc => ?_) (fun hc => ?_) | refine kO ?_ | refine kS ?_ | refine kA ?_ | exact PV.leL_nil | refine kC ?_ ?_ | refine And.intro ?_ ?_ | refine ix_map (fun x hx => ?_) | refine exU8 ?_ | refine nilc (fun hn => ?_) ?_ | exact cl3 | refine imp0 (fun hpos => ?_) | refine kG ?_ ?_ | exact rfl | exact trivial | (first | refine stq ?_ | fail)))) <;> (try exact cl5)
            | true =>
              rw [h3] at q3
              repeat' (first | exact cl1 | (refine stx ?_; first | exact exHM _ | refine exU8 ?_) | ((with_reducible show callX _ _ _ _ _); (first | refine call_p (q1) (by kernel_rfl) rfl ?_ | refine call_p (q2) (by kernel_rfl) rfl ?_ | refine call_p (q3) (by kernel_rfl) rfl ?_)) | ((fail_if_success refine stp ?_); (conv => whnf) <;> (first | exact cl2 | refine kBy hyes fun hc => ?_ | refine ix_at hxi ?_ | refine ix_at hy2 ?_ | refine kBy hi1 fun hc => ?_ | refine kBn hzy fun hc => ?_ | refine kX ?_ | refine kP ?_ | refine kBd (fun hc => ?_) (fun hc => ?_) | refine kT ?_ | refine kF ?_ | refine kN ?_ | refine kBm (fun hc => ?_) (fun hc => ?_) | refine kO ?_ | refine kS ?_ | refine kA ?_ | exact PV.leL_nil | refine kC ?_ ?_ | refine And.intro ?_ ?_ | refine ix_map (fun x hx => ?_) | refine exU8 ?_ | refine nilc (fun hn => ?_) ?_ | exact cl3 | refine imp0 (fun hpos => ?_) | refine kG ?_ ?_ | exact rfl | exact trivial | (first | refine stq ?_ | fail)))) <;> (try exact cl5)
              refine ⟨⟨k + 1 + 1, hlt, hg, hnn (by unfold namB; rw [h2, h3]; rfl)⟩, by show l.length - (k + 1 + 1) < l.length - (k + 1); omega, ?_⟩
              (first | refine Ent.ofA [] ?_ | refine Ent.ofC [] ?_) <;> (repeat' (first | exact trivial | refine kHd ?_ | refine kHm rfl (by simp) rfl (fun h => AObj.noConfusion h) ?_ ?_ | refine And.intro ?_ ?_ | exact cl9 | refine kVp ?_ | refine kVa ?_ | refine kVt ?_ | refine kVf ?_ ?_ | refine kVc ?_ ?_ | exact VLeL.nil | exact OLe.row _ _ | rfl | refine VLe.rsle rfl ?_ ?_ ?_ | refine kQw ?_ ?_ | refine kQm ?_ ?_ | refine kQj ?_ ?_ | refine kQc ?_ ?_ | refine kQs ?_ ?_ ?_ | exact OLe.mapS0 rfl)) <;> try exact kZ
end Go.Proofs.Ytgclicahmbgfiaa

namespace Go.Proofs.Ytgclicahmbgfiaa
open Go Go.Sg
abbrev KTi : KT := ([.int .i64], false)
theorem keyI : KeyOf eI where
  eq := fun a b => by
    show (decide (a = b) && true) = _
    simp
abbrev Am := List (Int × Int)
def atF (l : List Dc) : Nat → Am
  | 0 => []
  | n + 1 => match l[n]? with | some d => aput d.no (n : Int) (atF l n) | none => atF l n
def atM (l : List Dc) : Am := atF l l.length
def eAt (m : Am) : PV := .mp KTi (eM eI eI m)
def eSh (l : List Dc) : PV := .agg [eL l, eAt (atM l)]
theorem atF_succ {l : List Dc} {i : Nat} {x : Dc} (h : l[i]? = some x) : atF l (i + 1) = aput x.no (i : Int) (atF l i) := by
  rw [atF, h]
theorem tM67 : tMap Try.prog 67 = some (KTi, 3) := by kernel_rfl
theorem newShelf_calls (l : List Dc) (hl : l.length < 1000000) : PCalls Try.prog 39 [eL l] (eSh l) := by
  unfold eSh
  generalize hA : atM l = A
  refine PCalls.of (N := 23) (res := [.cell 2 69]) mixed Try.func39 rfl rfl rfl (by kernel_rfl) (by simp) [0, 2, 3, 4, 5, 9, 10, 11, 12] ?_
  repeat' (first | exact cl1 | (refine stx ?_; first | exact exHM _ | refine exU8 ?_) | ((fail_if_success refine stp ?_); (conv => whnf) <;> (first | exact cl2 | refine kX ?_ | refine kP ?_ | refine kBd (fun hc => ?_) (fun hc => ?_) | refine kT ?_ | refine kF ?_ | refine kN ?_ | refine kBm (fun hc => ?_) (fun hc => ?_) | refine kO ?_ | refine kS ?_ | refine kA ?_ | exact PV.leL_nil | refine kC ?_ ?_ | refine And.intro ?_ ?_ | refine ix_map (fun x hx => ?_) | refine exU8 ?_ | refine nilc (fun hn => ?_) ?_ | exact cl3 | refine imp0 (fun hpos => ?_) | refine kG ?_ ?_ | exact rfl | exact trivial | (first | refine stq ?_ | fail) | rw [tM67]))) <;> (try exact cl5)
  refine Wpc.loopA (α := {i : Nat // i ≤ l.length}) mixed [0, 2, 3, 4, 5, 9, 10, 11, 12] (fun i => [(11, .p (eI i.1))]) (fun i => [(128, .map KTi (eM eI eI (atF l i.1)))]) (fun _ => 0) (fun i => l.length - i.1) ⟨0, by omega⟩ ?_ ?_
  · (first | refine Ent.ofA [] ?_ | refine Ent.ofC [] ?_) <;> (repeat' (first | exact trivial | refine kHd ?_ | refine kHm rfl (by simp) rfl (fun h => AObj.noConfusion h) ?_ ?_ | refine And.intro ?_ ?_ | exact cl9 | refine kVp ?_ | refine kVa ?_ | refine kVt ?_ | refine kVf ?_ ?_ | refine kVc ?_ ?_ | exact VLeL.nil | exact OLe.row _ _ | rfl | refine VLe.rsle rfl ?_ ?_ ?_ | refine kQw ?_ ?_ | refine kQm ?_ ?_ | refine kQj ?_ ?_ | refine kQc ?_ ?_ | refine kQs ?_ ?_ ?_ | exact OLe.mapS0 rfl)) <;> try exact kZ
  rintro ⟨i, hi⟩
  have hi : i ≤ l.length := hi
  repeat' (first | exact cl1 | (refine stx ?_; first | exact exHM _ | refine exU8 ?_) | ((fail_if_success refine stp ?_); (conv => whnf) <;> (first | exact cl2 | refine kX ?_ | refine kP ?_ | refine kBd (fun hc => ?_) (fun hc => ?_) | refine kT ?_ | refine kF ?_ | refine kN ?_ | refine kBm (fun hc => ?_) (fun hc => ?_) | refine kO ?_ | refine kS ?_ | refine kA ?_ | exact PV.leL_nil | refine kC ?_ ?_ | refine And.intro ?_ ?_ | refine ix_map (fun x hx => ?_) | refine exU8 ?_ | refine nilc (fun hn => ?_) ?_ | exact cl3 | refine imp0 (fun hpos => ?_) | refine kG ?_ ?_ | exact rfl | exact trivial | (first | refine stq ?_ | fail) | rw [tM67]))) <;> (try exact cl5)
  · have hx : l[i]? = some x := hx
    have hlt := (List.getElem?_eq_some_iff.1 hx).1
    refine ⟨⟨i + 1, hlt⟩, by show l.length - (i + 1) < l.length - i; omega, ?_⟩
    (first | refine Ent.ofA [] ?_ | refine Ent.ofC [] ?_) <;> (repeat' (first | exact trivial | refine kHd ?_ | refine kHm rfl (by simp) rfl (fun h => AObj.noConfusion h) ?_ ?_ | refine And.intro ?_ ?_ | exact cl9 | refine kVp ?_ | refine kVa ?_ | refine kVt ?_ | refine kVf ?_ ?_ | refine kVc ?_ ?_ | exact VLeL.nil | exact OLe.row _ _ | rfl | refine VLe.rsle rfl ?_ ?_ ?_ | refine kQw ?_ ?_ | refine kQm ?_ ?_ | refine kQj ?_ ?_ | refine kQc ?_ ?_ | refine kQs ?_ ?_ ?_ | exact OLe.mapS0 rfl)) <;> try exact kZ
    show _ = eM eI eI (atF l (i + 1))
    rw [atF_succ hx]
    exact mput_map eI keyI x.no (i : Int) (atF l i)
  · have hc : ¬ (i : Int) < ((l.map eA).length : Int) := hc
    rw [List.length_map] at hc
    have e : i = l.length := by omega
    have e2 : atF l i = A := by rw [e]; exact hA
    show LeG (PV.agg [eL l, .mp KTi (eM eI eI (atF l i))]) (PV.agg [eL l, eAt A])
    rw [e2]; exact LeG.refl _
end Go.Proofs.Ytgclicahmbgfiaa

namespace Go.Proofs.Ytgclicahmbgfiaa
open Go Go.Sg
abbrev pC (l : List Dc) (sg : List Int) (n1 n2 : Nat) : AObj := .cells [.p (eL l), .p (eAt (atM l)), .p (eIs sg), .rsl 1 1 0 n1, .rsl 2 1 0 n2, .mp 3]
theorem cmpS_icalls (l : List Dc) (sg : List Int) (D K : List PV) (n1 n2 : Nat) (a b : Nat) (u v : Int) (ha : sg[a]? = some u) (hb : sg[b]? = some v) (hsl : sg.length < 1000000) :
    ICalls Try.prog 96 5 [(0, pC l sg n1 n2), (1, .row 1 D), (2, .row 1 K), (3, .map KTi []), (4, .cells [.ptr 0 0])] [.p (eN a), .p (eN b), .ptr 4 0] (.p (eI (cmpI u v)))
      [(0, pC l sg n1 n2), (1, .row 1 D), (2, .row 1 K), (3, .map KTi []), (4, .cells [.ptr 0 0])] := by
  have ha2 : sg[(a : Int).toNat]? = some u := by rw [Int.toNat_natCast]; exact ha
  have hb2 : sg[(b : Int).toNat]? = some v := by rw [Int.toNat_natCast]; exact hb
  have h1 := (List.getElem?_eq_some_iff.1 ha).1
  have h2 := (List.getElem?_eq_some_iff.1 hb).1
  refine ICalls.of (N := 21) (res := [.tmp 5]) mixed Try.func96 rfl rfl rfl (by kernel_rfl) (by simp) [0, 1, 2, 5] (Nat.le_refl _) ?_
  repeat' (first | exact cl1 | (refine stx ?_; first | exact exHM _ | refine exU8 ?_) | ((with_reducible show callX _ _ _ _ _); (first | refine call_p (cmp_calls _ _) (by kernel_rfl) rfl ?_)) | ((fail_if_success refine stp ?_); (conv => whnf) <;> (first | exact cl2 | refine ix_at ha2 ?_ | refine ix_at hb2 ?_ | refine kX ?_ | refine kP ?_ | refine kBd (fun hc => ?_) (fun hc => ?_) | refine kT ?_ | refine kF ?_ | refine kN ?_ | refine kBm (fun hc => ?_) (fun hc => ?_) | refine kO ?_ | refine kS ?_ | refine kA ?_ | exact PV.leL_nil | refine kC ?_ ?_ | refine And.intro ?_ ?_ | refine ix_map (fun x hx => ?_) | refine exU8 ?_ | refine nilc (fun hn => ?_) ?_ | exact cl3 | refine imp0 (fun hpos => ?_) | refine kG ?_ ?_ | exact rfl | exact trivial | (first | refine stq ?_ | fail)))) <;> (try exact cl5)
  refine ⟨[], [(0, 0), (1, 1), (2, 2), (3, 3), (4, 4)], ?_, ?_, by decide, by simp, fun i hi => by match i, hi with | 0, _ => rfl | 1, _ => rfl | 2, _ => rfl | 3, _ => rfl | 4, _ => rfl⟩ <;> (repeat' (first | exact trivial | refine kHd ?_ | refine kHm rfl (by simp) rfl (fun h => AObj.noConfusion h) ?_ ?_ | refine And.intro ?_ ?_ | exact cl9 | refine kVp ?_ | refine kVa ?_ | refine kVt ?_ | refine kVf ?_ ?_ | refine kVc ?_ ?_ | exact VLeL.nil | exact OLe.row _ _ | rfl | refine VLe.rsle rfl ?_ ?_ ?_ | refine kQw ?_ ?_ | refine kQm ?_ ?_ | refine kQj ?_ ?_ | refine kQc ?_ ?_ | refine kQs ?_ ?_ ?_ | exact OLe.mapS0 rfl))
theorem swp {α : Type} (out rest : List α) (x y : α) (j : Nat) (h : out[j]? = some y) : ((out.take (j + 1) ++ x :: (out.drop (j + 1) ++ rest)).set (j + 1) y).set j x = out.take j ++ x :: (out.drop j ++ rest) := by
  have hlt := (List.getElem?_eq_some_iff.1 h).1
  have e := (List.getElem?_eq_some_iff.1 h).2
  have hl : (out.take j).length = j := by simp; omega
  have hl1 : (out.take (j + 1)).length = j + 1 := by simp; omega
  have e1 : out.take (j + 1) = out.take j ++ [y] := by rw [List.take_succ_eq_append_getElem hlt, e]
  have e2 : out.drop j = y :: out.drop (j + 1) := by rw [List.drop_eq_getElem_cons hlt, e]
  have s1 : (out.take (j + 1) ++ x :: (out.drop (j + 1) ++ rest)).set (j + 1) y = out.take (j + 1) ++ y :: (out.drop (j + 1) ++ rest) := by
    rw [List.set_append_right _ _ (by omega), hl1, Nat.sub_self]; rfl
  rw [s1, e1, List.append_assoc, List.set_append_right _ _ (by omega), hl, Nat.sub_self, e2]
  rfl
end Go.Proofs.Ytgclicahmbgfiaa

namespace Go.Proofs.Ytgclicahmbgfiaa
open Go Go.Sg
def minL (x : Int) (r : List Int) : Int := r.foldl (fun a b => if b < a then b else a) x
theorem min_icalls (x : Int) (r : List Int) (hl : r.length < 1000000) : ICalls Try.prog 75 1 [(0, .row 1 (((x :: r).map eI)))] [.rsl 0 1 0 (x :: r).length] (.p (eI (minL x r))) [(0, .row 1 (((x :: r).map eI)))] := by
  have hmin : ¬ (((x :: r).length : Nat) : Int) < 1 := by simp; omega
  have hx0 : (x :: r)[0 + Int.toNat 0]? = some x := rfl
  refine ICalls.of (N := 25) (res := [.tmp 2]) mixed Try.func75 rfl rfl rfl (by kernel_rfl) (by simp) [0, 2, 3, 4, 7, 15] (Nat.le_refl _) ?_
  repeat' (first | exact cl1 | (refine stx ?_; first | exact exHM _ | refine exU8 ?_) | ((fail_if_success refine stp ?_); (conv => whnf) <;> (first | exact cl2 | refine kBn hmin fun hc => ?_ | refine ix_at hx0 ?_ | refine kX ?_ | refine kP ?_ | refine kBd (fun hc => ?_) (fun hc => ?_) | refine kT ?_ | refine kF ?_ | refine kN ?_ | refine kBm (fun hc => ?_) (fun hc => ?_) | refine kO ?_ | refine kS ?_ | refine kA ?_ | exact PV.leL_nil | refine kC ?_ ?_ | refine And.intro ?_ ?_ | refine ix_map (fun x hx => ?_) | refine exU8 ?_ | refine nilc (fun hn => ?_) ?_ | exact cl3 | refine imp0 (fun hpos => ?_) | refine kG ?_ ?_ | exact rfl | exact trivial | (first | refine stq ?_ | fail)))) <;> (try exact cl5)
  refine Wpc.loopA (α := {i : Nat // i ≤ r.length}) mixed [0, 2, 3, 4, 7, 15] (fun i => [(3, .p (eI (minL x (r.take i.1)))), (4, .p (eI ((i.1 : Int) + 1)))]) (fun _ => []) (fun _ => 0) (fun i => r.length - i.1) ⟨0, by omega⟩ ?_ ?_
  · (refine Ent.ofAK [] ?_) <;> (repeat' (first | exact trivial | refine kHd ?_ | refine kHm rfl (by simp) rfl (fun h => AObj.noConfusion h) ?_ ?_ | refine And.intro ?_ ?_ | exact cl9 | refine kVp ?_ | refine kVa ?_ | refine kVt ?_ | refine kVf ?_ ?_ | refine kVc ?_ ?_ | exact VLeL.nil | exact OLe.row _ _ | rfl | refine VLe.rsle rfl ?_ ?_ ?_ | refine kQw ?_ ?_ | refine kQm ?_ ?_ | refine kQj ?_ ?_ | refine kQc ?_ ?_ | refine kQs ?_ ?_ ?_ | exact OLe.mapS0 rfl)) <;> try exact kZ
  rintro ⟨i, hi⟩
  have hi : i ≤ r.length := hi
  cases hy : r[i]? with
  | none =>
    have hge : r.length ≤ i := List.getElem?_eq_none_iff.1 hy
    have hno : ¬ ((i : Int) + 1) < (((x :: r).length : Nat) : Int) := by simp; omega
    repeat' (first | exact cl1 | (refine stx ?_; first | exact exHM _ | refine exU8 ?_) | ((fail_if_success refine stp ?_); (conv => whnf) <;> (first | exact cl2 | refine kBn hno fun hc => ?_ | refine kX ?_ | refine kP ?_ | refine kBd (fun hc => ?_) (fun hc => ?_) | refine kT ?_ | refine kF ?_ | refine kN ?_ | refine kBm (fun hc => ?_) (fun hc => ?_) | refine kO ?_ | refine kS ?_ | refine kA ?_ | exact PV.leL_nil | refine kC ?_ ?_ | refine And.intro ?_ ?_ | refine ix_map (fun x hx => ?_) | refine exU8 ?_ | refine nilc (fun hn => ?_) ?_ | exact cl3 | refine imp0 (fun hpos => ?_) | refine kG ?_ ?_ | exact rfl | exact trivial | (first | refine stq ?_ | fail)))) <;> (try exact cl5)
    rw [show r.take i = r from List.take_of_length_le hge]
    refine ⟨[], [(0, 0)], ?_, ?_, by decide, by simp, fun i hi => by match i, hi with | 0, _ => rfl⟩ <;> (repeat' (first | exact trivial | refine kHd ?_ | refine kHm rfl (by simp) rfl (fun h => AObj.noConfusion h) ?_ ?_ | refine And.intro ?_ ?_ | exact cl9 | refine kVp ?_ | refine kVa ?_ | refine kVt ?_ | refine kVf ?_ ?_ | refine kVc ?_ ?_ | exact VLeL.nil | exact OLe.row _ _ | rfl | refine VLe.rsle rfl ?_ ?_ ?_ | refine kQw ?_ ?_ | refine kQm ?_ ?_ | refine kQj ?_ ?_ | refine kQc ?_ ?_ | refine kQs ?_ ?_ ?_ | exact OLe.mapS0 rfl))
  | some y =>
    have hlt := (List.getElem?_eq_some_iff.1 hy).1
    have hyes : ((i : Int) + 1) < (((x :: r).length : Nat) : Int) := by simp; omega
    have hy2 : (x :: r)[0 + ((i : Int) + 1).toNat]? = some y := by rw [show 0 + ((i : Int) + 1).toNat = i + 1 by omega]; exact hy
    have ht : minL x (r.take (i + 1)) = if y < minL x (r.take i) then y else minL x (r.take i) := by
      unfold minL; rw [List.take_add_one, hy]; simp [List.foldl_append]
    repeat' (first | exact cl1 | (refine stx ?_; first | exact exHM _ | refine exU8 ?_) | ((fail_if_success refine stp ?_); (conv => whnf) <;> (first | exact cl2 | refine kBy hyes fun hc => ?_ | refine ix_at hy2 ?_ | refine kX ?_ | refine kP ?_ | refine kBd (fun hc => ?_) (fun hc => ?_) | refine kT ?_ | refine kF ?_ | refine kN ?_ | refine kBm (fun hc => ?_) (fun hc => ?_) | refine kO ?_ | refine kS ?_ | refine kA ?_ | exact PV.leL_nil | refine kC ?_ ?_ | refine And.intro ?_ ?_ | refine ix_map (fun x hx => ?_) | refine exU8 ?_ | refine nilc (fun hn => ?_) ?_ | exact cl3 | refine imp0 (fun hpos => ?_) | refine kG ?_ ?_ | exact rfl | exact trivial | (first | refine stq ?_ | fail)))) <;> (try exact cl5)
    refine ⟨⟨i + 1, hlt⟩, by show r.length - (i + 1) < r.length - i; omega, ?_⟩
    show Ent _ _ (hdS [0, 2, 3, 4, 7, 15] _ _ _ [(3, .p (eI (minL x (r.take (i + 1))))), (4, .p (eI (((i + 1 : Nat) : Int) + 1)))] [] _)
    rw [ht]
    (refine Ent.ofAK [] ?_) <;> (repeat' (first | exact trivial | refine kHd ?_ | refine kHm rfl (by simp) rfl (fun h => AObj.noConfusion h) ?_ ?_ | refine And.intro ?_ ?_ | exact cl9 | refine kVp ?_ | refine kVa ?_ | refine kVt ?_ | refine kVf ?_ ?_ | refine kVc ?_ ?_ | exact VLeL.nil | exact OLe.row _ _ | rfl | refine VLe.rsle rfl ?_ ?_ ?_ | refine kQw ?_ ?_ | refine kQm ?_ ?_ | refine kQj ?_ ?_ | refine kQc ?_ ?_ | refine kQs ?_ ?_ ?_ | exact OLe.mapS0 rfl)) <;> try exact kZ
    try (split <;> rfl)
end Go.Proofs.Ytgclicahmbgfiaa

namespace Go.Proofs.Ytgclicahmbgfiaa
open Go Go.Sg
structure Pl where
  dn : List Bool
  lk : List Int
  rv : List (Int × List Int)
def stA (l : List Dc) (p : Pl) (i : Nat) (t : Int) : Int × Int :=
  match l[i]? with
  | none => (0, 0)
  | some d => if p.dn.getD i false = false then (1, -1) else if 0 ≤ p.lk.getD i 0 then (4, p.lk.getD i 0) else
    match aget d.no p.rv with
    | some (x :: r) => (5, minL x r)
    | _ => if t < d.frm then (2, -1) else if d.til ≤ t then (3, -1) else (0, -1)
def rvM (m : List (Int × List Int)) : List (PV × List PV) := m.map fun x => (eI x.1, x.2.map eI)
theorem mfind_rv (n : Int) (m : List (Int × List Int)) : mfind (eI n) (hM (rvM m)) = (aget n m).map fun l => MV.h (l.map eI) := by
  rw [mfind_hM]
  have h := mfindAt_map (β := List Int) (fun l : List Int => PV.sl 1 false (l.map eI)) keyI n m 0
  have e : mfind (eI n) (rvM m) = (aget n m).map fun l => l.map eI := by
    induction m with
    | nil => rfl
    | cons y r ih =>
      obtain ⟨k, v⟩ := y
      have key : ∀ (m : List (Int × List Int)) (i : Nat), (mfindAt (eI n) i (rvM m)).map Prod.snd = (aget n m).map fun l => l.map eI := by
        intro m
        induction m with
        | nil => intro i; rfl
        | cons y r ih =>
          intro i
          obtain ⟨k, v⟩ := y
          have ih := ih (i + 1)
          simp only [rvM, List.map_cons, mfindAt, keyI.eq, aget] at ih ⊢
          by_cases hk : n = k
          · subst hk; simp
          · rw [decide_eq_false hk, if_neg hk]; exact ih
      exact key _ 0
  rw [e]
  cases aget n m <;> rfl
theorem Opt.at {β : Type} {o : Option β} {v : β} {A : β → Prop} {B : Prop} (e : o = some v) (h : A v) : Opt o A B := by rw [e]; exact Opt.ss h
theorem Opt.no {β : Type} {o : Option β} {A : β → Prop} {B : Prop} (e : o = none) (h : B) : Opt o A B := by rw [e]; exact Opt.nn h
theorem rvM_ok {m : List (Int × List Int)} : ∀ x ∈ rvM m, okK KTi x.1 = true := fun x hx => by
  obtain ⟨y, _, rfl⟩ := List.mem_map.1 hx
  rfl
theorem eqI1 (n : Int) : eqPs (eI n).cells (eI n).cells = true := by
  show (decide (n = n) && true) = true
  simp
theorem Opt.put {β : Type} {k : PV} {v : β} {m : List (PV × β)} {A : β → Prop} {B : Prop} (hk : eqPs k.cells k.cells = true) (h : A v) : Opt (mfind k (mput k v m)) A B := by
  rw [mfind_mput hk]; exact Opt.ss h
abbrev hP (l : List Dc) (sg : List Int) (p : Pl) : Heap := [(0, pC l sg p.dn.length p.lk.length), (1, .row 1 (p.dn.map PV.bool)), (2, .row 1 (p.lk.map eI)), (3, .mapS KTi 1 (hM (rvM p.rv)))]
structure OkP (l : List Dc) (p : Pl) : Prop where
  dl : p.dn.length = l.length
  ll : p.lk.length = l.length
  rn : ∀ n ls, aget n p.rv = some ls → ls ≠ [] ∧ ls.length < 1000000
theorem tM85 : tMap Try.prog 85 = some (KTi, 23) := by kernel_rfl
theorem state_icalls (l : List Dc) (sg : List Int) (p : Pl) (i : Nat) (t : Int) (d : Dc) (hd : l[i]? = some d) (hp : OkP l p) (hl : l.length < 1000000) :
    ICalls Try.prog 55 4 (hP l sg p) [.ptr 0 0, .p (eN i), .p (eI t)] (.tup [.p (eI (stA l p i t).1), .p (eI (stA l p i t).2)]) (hP l sg p) := by
  have hlt := (List.getElem?_eq_some_iff.1 hd).1
  have hd2 : l[(i : Int).toNat]? = some d := by rw [Int.toNat_natCast]; exact hd
  obtain ⟨b, hb⟩ : ∃ b, p.dn[i]? = some b := ⟨_, List.getElem?_eq_getElem (by have := hp.dl; omega)⟩
  obtain ⟨k, hk⟩ : ∃ k, p.lk[i]? = some k := ⟨_, List.getElem?_eq_getElem (by have := hp.ll; omega)⟩
  have hb2 : p.dn[0 + (i : Int).toNat]? = some b := by rw [Int.toNat_natCast, Nat.zero_add]; exact hb
  have hk2 : p.lk[0 + (i : Int).toNat]? = some k := by rw [Int.toNat_natCast, Nat.zero_add]; exact hk
  have hbd : p.dn.getD i false = b := by simp [List.getD, hb]
  have hkd : p.lk.getD i 0 = k := by simp [List.getD, hk]
  have hdl : i < p.dn.length := (List.getElem?_eq_some_iff.1 hb).1
  have hkl : i < p.lk.length := (List.getElem?_eq_some_iff.1 hk).1
  unfold stA
  rw [hd]
  simp only [hbd, hkd]
  cases b with
  | false =>
    refine ICalls.of (N := 70) (res := [.tmp 6, .tmp 7]) mixed Try.func55 rfl rfl rfl (by kernel_rfl) (by simp) [0, 1, 2, 6, 7, 8, 17, 26, 42, 60, 65] (Nat.le_refl _) ?_
    repeat' (first | exact cl1 | (refine stx ?_; first | exact exHM _ | refine exU8 ?_) | ((fail_if_success refine stp ?_); (conv => whnf) <;> (first | exact cl2 | refine ix_at hd2 ?_ | refine ix_at hb2 ?_ | refine kX ?_ | refine kP ?_ | refine kBd (fun hc => ?_) (fun hc => ?_) | refine kT ?_ | refine kF ?_ | refine kN ?_ | refine kBm (fun hc => ?_) (fun hc => ?_) | refine kO ?_ | refine kS ?_ | refine kA ?_ | exact PV.leL_nil | refine kC ?_ ?_ | refine And.intro ?_ ?_ | refine ix_map (fun x hx => ?_) | refine exU8 ?_ | refine nilc (fun hn => ?_) ?_ | exact cl3 | refine imp0 (fun hpos => ?_) | refine kG ?_ ?_ | exact rfl | exact trivial | (first | refine stq ?_ | fail)))) <;> (try exact cl5)
    refine ⟨[], [(0, 0), (1, 1), (2, 2), (3, 3)], ?_, ?_, by decide, by simp, fun i hi => by match i, hi with | 0, _ => rfl | 1, _ => rfl | 2, _ => rfl | 3, _ => rfl⟩ <;> (repeat' (first | exact trivial | refine kHd ?_ | refine kHm rfl (by simp) rfl (fun h => AObj.noConfusion h) ?_ ?_ | refine And.intro ?_ ?_ | exact cl9 | refine kVp ?_ | refine kVa ?_ | refine kVt ?_ | refine kVf ?_ ?_ | refine kVc ?_ ?_ | exact VLeL.nil | exact OLe.row _ _ | rfl | refine VLe.rsle rfl ?_ ?_ ?_ | refine kQw ?_ ?_ | refine kQm ?_ ?_ | refine kQj ?_ ?_ | refine kQc ?_ ?_ | refine kQs ?_ ?_ ?_ | exact OLe.mapS0 rfl))
  | true =>
    by_cases h0 : 0 ≤ k
    · rw [if_pos h0]
      refine ICalls.of (N := 70) (res := [.tmp 6, .tmp 7]) mixed Try.func55 rfl rfl rfl (by kernel_rfl) (by simp) [0, 1, 2, 6, 7, 8, 17, 26, 42, 60, 65] (Nat.le_refl _) ?_
      repeat' (first | exact cl1 | (refine stx ?_; first | exact exHM _ | refine exU8 ?_) | ((fail_if_success refine stp ?_); (conv => whnf) <;> (first | exact cl2 | refine ix_at hd2 ?_ | refine ix_at hb2 ?_ | refine ix_at hk2 ?_ | refine kBy h0 fun hc => ?_ | refine kX ?_ | refine kP ?_ | refine kBd (fun hc => ?_) (fun hc => ?_) | refine kT ?_ | refine kF ?_ | refine kN ?_ | refine kBm (fun hc => ?_) (fun hc => ?_) | refine kO ?_ | refine kS ?_ | refine kA ?_ | exact PV.leL_nil | refine kC ?_ ?_ | refine And.intro ?_ ?_ | refine ix_map (fun x hx => ?_) | refine exU8 ?_ | refine nilc (fun hn => ?_) ?_ | exact cl3 | refine imp0 (fun hpos => ?_) | refine kG ?_ ?_ | exact rfl | exact trivial | (first | refine stq ?_ | fail)))) <;> (try exact cl5)
      refine ⟨[], [(0, 0), (1, 1), (2, 2), (3, 3)], ?_, ?_, by decide, by simp, fun i hi => by match i, hi with | 0, _ => rfl | 1, _ => rfl | 2, _ => rfl | 3, _ => rfl⟩ <;> (repeat' (first | exact trivial | refine kHd ?_ | refine kHm rfl (by simp) rfl (fun h => AObj.noConfusion h) ?_ ?_ | refine And.intro ?_ ?_ | exact cl9 | refine kVp ?_ | refine kVa ?_ | refine kVt ?_ | refine kVf ?_ ?_ | refine kVc ?_ ?_ | exact VLeL.nil | exact OLe.row _ _ | rfl | refine VLe.rsle rfl ?_ ?_ ?_ | refine kQw ?_ ?_ | refine kQm ?_ ?_ | refine kQj ?_ ?_ | refine kQc ?_ ?_ | refine kQs ?_ ?_ ?_ | exact OLe.mapS0 rfl))
    · rw [if_neg h0]
      cases hg : aget d.no p.rv with
      | none =>
        have hm : mfind (eI d.no) (hM (rvM p.rv)) = none := by rw [mfind_rv, hg]; rfl
        have hn0 : ¬ (0 : Int) < (([] : List PV).length : Int) := by decide
        refine ICalls.of (N := 70) (res := [.tmp 6, .tmp 7]) mixed Try.func55 rfl rfl rfl (by kernel_rfl) (by simp) [0, 1, 2, 6, 7, 8, 17, 26, 42, 60, 65] (Nat.le_refl _) ?_
        repeat' (first | exact cl1 | (refine stx ?_; first | exact exHM _ | refine exU8 ?_) | ((fail_if_success refine stp ?_); (conv => whnf) <;> (first | exact cl2 | refine ix_at hd2 ?_ | refine ix_at hb2 ?_ | refine ix_at hk2 ?_ | refine kBn h0 fun hc => ?_ | refine Opt.no hm ?_ | refine kBn hn0 fun hc => ?_ | refine kX ?_ | refine kP ?_ | refine kBd (fun hc => ?_) (fun hc => ?_) | refine kT ?_ | refine kF ?_ | refine kN ?_ | refine kBm (fun hc => ?_) (fun hc => ?_) | refine kO ?_ | refine kS ?_ | refine kA ?_ | exact PV.leL_nil | refine kC ?_ ?_ | refine And.intro ?_ ?_ | refine ix_map (fun x hx => ?_) | refine exU8 ?_ | refine nilc (fun hn => ?_) ?_ | exact cl3 | refine imp0 (fun hpos => ?_) | refine kG ?_ ?_ | exact rfl | exact trivial | (first | refine stq ?_ | fail) | rw [tM85]))) <;> (try exact cl5)
        all_goals first
        | (have hc : t < d.frm := hc
           rw [if_pos hc]
           refine ⟨[], [(0, 0), (1, 1), (2, 2), (3, 3)], ?_, ?_, by decide, by simp, fun i hi => by match i, hi with | 0, _ => rfl | 1, _ => rfl | 2, _ => rfl | 3, _ => rfl⟩ <;> (repeat' (first | exact trivial | refine kHd ?_ | refine kHm rfl (by simp) rfl (fun h => AObj.noConfusion h) ?_ ?_ | refine And.intro ?_ ?_ | exact cl9 | refine kVp ?_ | refine kVa ?_ | refine kVt ?_ | refine kVf ?_ ?_ | refine kVc ?_ ?_ | exact VLeL.nil | exact OLe.row _ _ | rfl | refine VLe.rsle rfl ?_ ?_ ?_ | refine kQw ?_ ?_ | refine kQm ?_ ?_ | refine kQj ?_ ?_ | refine kQc ?_ ?_ | refine kQs ?_ ?_ ?_ | exact OLe.mapS0 rfl))
           done)
        | (have hc : d.til ≤ t := hc
           have hc2 : ¬ t < d.frm := by assumption
           rw [if_neg hc2, if_pos hc]
           refine ⟨[], [(0, 0), (1, 1), (2, 2), (3, 3)], ?_, ?_, by decide, by simp, fun i hi => by match i, hi with | 0, _ => rfl | 1, _ => rfl | 2, _ => rfl | 3, _ => rfl⟩ <;> (repeat' (first | exact trivial | refine kHd ?_ | refine kHm rfl (by simp) rfl (fun h => AObj.noConfusion h) ?_ ?_ | refine And.intro ?_ ?_ | exact cl9 | refine kVp ?_ | refine kVa ?_ | refine kVt ?_ | refine kVf ?_ ?_ | refine kVc ?_ ?_ | exact VLeL.nil | exact OLe.row _ _ | rfl | refine VLe.rsle rfl ?_ ?_ ?_ | refine kQw ?_ ?_ | refine kQm ?_ ?_ | refine kQj ?_ ?_ | refine kQc ?_ ?_ | refine kQs ?_ ?_ ?_ | exact OLe.mapS0 rfl))
           done)
        | (have hc : ¬ d.til ≤ t := hc
           have hc2 : ¬ t < d.frm := by assumption
           rw [if_neg hc2, if_neg hc]
           refine ⟨[], [(0, 0), (1, 1), (2, 2), (3, 3)], ?_, ?_, by decide, by simp, fun i hi => by match i, hi with | 0, _ => rfl | 1, _ => rfl | 2, _ => rfl | 3, _ => rfl⟩ <;> (repeat' (first | exact trivial | refine kHd ?_ | refine kHm rfl (by simp) rfl (fun h => AObj.noConfusion h) ?_ ?_ | refine And.intro ?_ ?_ | exact cl9 | refine kVp ?_ | refine kVa ?_ | refine kVt ?_ | refine kVf ?_ ?_ | refine kVc ?_ ?_ | exact VLeL.nil | exact OLe.row _ _ | rfl | refine VLe.rsle rfl ?_ ?_ ?_ | refine kQw ?_ ?_ | refine kQm ?_ ?_ | refine kQj ?_ ?_ | refine kQc ?_ ?_ | refine kQs ?_ ?_ ?_ | exact OLe.mapS0 rfl))
           done)
      | some ls =>
        cases ls with
        | nil => exact absurd rfl (hp.rn _ _ hg).1
        | cons x r =>
          have hr : r.length < 1000000 := by have := (hp.rn _ _ hg).2; simp at this; omega
          have q : ICalls Try.prog 75 1 [(0, .row 1 ((x :: r).map eI))] [.rsl 0 1 0 ((x :: r).map eI).length] (.p (eI (minL x r))) [(0, .row 1 ((x :: r).map eI))] := by rw [List.length_map]; exact min_icalls x r hr
          have hp0 : (0 : Int) < (((x :: r).map eI).length : Int) := by simp
          have hm : mfind (eI d.no) (hM (rvM p.rv)) = some (MV.h ((x :: r).map eI)) := by rw [mfind_rv, hg]; rfl
          have hm2 : mfind (eI d.no) (rvM p.rv) = some ((x :: r).map eI) := by
            have h := hm; rw [mfind_hM] at h
            cases hh : mfind (eI d.no) (rvM p.rv) with
            | none => rw [hh] at h; cases h
            | some z => rw [hh] at h; injection h with h; injection h with h; rw [h]
          refine ICalls.ofH (N := 70) (res := [.tmp 6, .tmp 7]) mixed Try.func55 rfl rfl rfl (by kernel_rfl) (by simp) [0, 1, 2, 6, 7, 8, 17, 26, 42, 60, 65] (Nat.le_refl _) ?_
          repeat' (first | exact cl1 | (refine stx ?_; first | exact exHM _ | refine exU8 ?_) | ((with_reducible show callX _ _ _ _ _); (first | refine call_i [2308] (q) (by kernel_rfl) rfl rfl (by decide) cl6 (fun i hi => by match i, hi with | 0, _ => rfl) cl7 cl8 (by simp [keys]) ?_)) | ((fail_if_success refine stp ?_); (conv => whnf) <;> (first | exact cl2 | refine ix_at hd2 ?_ | refine ix_at hb2 ?_ | refine ix_at hk2 ?_ | refine kBn h0 fun hc => ?_ | refine Opt.put (eqI1 _) ?_ | refine Opt.at hm ?_ | refine kBy hp0 fun hc => ?_ | refine kX ?_ | refine kP ?_ | refine kBd (fun hc => ?_) (fun hc => ?_) | refine kT ?_ | refine kF ?_ | refine kN ?_ | refine kBm (fun hc => ?_) (fun hc => ?_) | refine kO ?_ | refine kS ?_ | refine kA ?_ | exact PV.leL_nil | refine kC ?_ ?_ | refine And.intro ?_ ?_ | refine ix_map (fun x hx => ?_) | refine exU8 ?_ | refine nilc (fun hn => ?_) ?_ | exact cl3 | refine imp0 (fun hpos => ?_) | refine kG ?_ ?_ | exact rfl | exact trivial | (first | refine stq ?_ | fail) | rw [tM85]))) <;> (try exact cl5)
          conv => whnf
          refine Or.inr ⟨_, 3, 2308, 1, KTi, rvM p.rv, eI d.no, (x :: r).map eI, ⟨rfl, rfl, rfl, by decide, rvM_ok, rfl, hm2⟩, ?_⟩
          conv => whnf
          refine ⟨[], [(0, 0), (1, 1), (2, 2), (3, 3)], ?_, ?_, by decide, by simp, fun i hi => by match i, hi with | 0, _ => rfl | 1, _ => rfl | 2, _ => rfl | 3, _ => rfl⟩ <;> (repeat' (first | exact trivial | refine kHd ?_ | refine kHm rfl (by simp) rfl (fun h => AObj.noConfusion h) ?_ ?_ | refine And.intro ?_ ?_ | exact cl9 | refine kVp ?_ | refine kVa ?_ | refine kVt ?_ | refine kVf ?_ ?_ | refine kVc ?_ ?_ | exact VLeL.nil | exact OLe.row _ _ | rfl | refine VLe.rsle rfl ?_ ?_ ?_ | refine kQw ?_ ?_ | refine kQm ?_ ?_ | refine kQj ?_ ?_ | refine kQc ?_ ?_ | refine kQs ?_ ?_ ?_ | exact OLe.mapS0 rfl))
end Go.Proofs.Ytgclicahmbgfiaa

namespace Go.Proofs.Ytgclicahmbgfiaa
open Go Go.Sg
theorem foldl_take {f : Nat → Int} {xs : List Nat} {c x : Nat} (h : xs[c]? = some x) : (xs.take (c + 1)).foldl (insR f) [] = insR f ((xs.take c).foldl (insR f) []) x := by
  rw [List.take_add_one, h]; simp [List.foldl_append]
theorem insR_len {f : Nat → Int} (out : List Nat) (x : Nat) : (insR f out x).length = out.length + 1 := by
  unfold insR; simp; omega
theorem foldl_len {f : Nat → Int} : ∀ (xs out : List Nat), (xs.foldl (insR f) out).length = out.length + xs.length
  | [], out => by simp
  | x :: r, out => by rw [List.foldl_cons, foldl_len r, insR_len]; simp; omega
theorem mem_insR {f : Nat → Int} {out : List Nat} {x y : Nat} : y ∈ insR f out x ↔ y = x ∨ y ∈ out := by
  unfold insR
  rw [List.mem_append, List.mem_cons]
  have e : y ∈ out ↔ y ∈ out.take (posR f x out) ∨ y ∈ out.drop (posR f x out) := by rw [← List.mem_append, List.take_append_drop]
  rw [e]
  constructor
  · rintro (h | h | h)
    · exact .inr (.inl h)
    · exact .inl h
    · exact .inr (.inr h)
  · rintro (h | h | h)
    · exact .inr (.inl h)
    · exact .inl h
    · exact .inr (.inr h)
theorem mem_foldl {f : Nat → Int} : ∀ {xs out : List Nat} {y : Nat}, y ∈ xs.foldl (insR f) out ↔ y ∈ xs ∨ y ∈ out
  | [], out, y => by simp
  | x :: r, out, y => by
    rw [List.foldl_cons, mem_foldl, mem_insR, List.mem_cons]
    constructor
    · rintro (h | h | h)
      · exact .inl (.inr h)
      · exact .inl (.inl h)
      · exact .inr h
    · rintro ((h | h) | h)
      · exact .inr (.inl h)
      · exact .inl h
      · exact .inr (.inr h)
theorem isort_icalls (l : List Dc) (sg : List Int) (D K : List PV) (n1 n2 : Nat) (xs : List Nat) (hx : ∀ i ∈ xs, i < sg.length) (hsl : sg.length < 1000000) (hxl : xs.length < 1000000) :
    ICalls Try.prog 102 6 [(0, pC l sg n1 n2), (1, .row 1 D), (2, .row 1 K), (3, .map KTi []), (4, .cells [.ptr 0 0]), (5, .row 1 (xs.map eN))] [.rsl 5 1 0 xs.length, .p (eI 0), .p (eI xs.length), .fn (.func 96) [] [.ptr 4 0]] (.tup []) [(0, pC l sg n1 n2), (1, .row 1 D), (2, .row 1 K), (3, .map KTi []), (4, .cells [.ptr 0 0]), (5, .row 1 ((xs.foldl (insR (sgF sg)) []).map eN))] := by
  refine ICalls.of (N := 53) (res := []) mixed Try.func102 rfl rfl rfl (by kernel_rfl) (by simp) [0, 1, 2, 3, 8, 9, 14, 34] (Nat.le_refl _) ?_
  repeat' (first | exact cl1 | (refine stx ?_; first | exact exHM _ | refine exU8 ?_) | ((fail_if_success refine stp ?_); (conv => whnf) <;> (first | exact cl2 | refine kX ?_ | refine kP ?_ | refine kBd (fun hc => ?_) (fun hc => ?_) | refine kT ?_ | refine kF ?_ | refine kN ?_ | refine kBm (fun hc => ?_) (fun hc => ?_) | refine kO ?_ | refine kS ?_ | refine kA ?_ | exact PV.leL_nil | refine kC ?_ ?_ | refine And.intro ?_ ?_ | refine ix_map (fun x hx => ?_) | refine exU8 ?_ | refine nilc (fun hn => ?_) ?_ | exact cl3 | refine imp0 (fun hpos => ?_) | refine kG ?_ ?_ | exact rfl | exact trivial | (first | refine stq ?_ | fail)))) <;> (try exact cl5)
  refine Wpc.loopA (α := {c : Nat // 1 ≤ c ∧ (c ≤ xs.length ∨ c = 1)}) mixed [0, 1, 2, 3, 8, 9, 14, 34] (fun c => [(8, .p (eI c.1))]) (fun c => [(5, .row 1 ((((xs.take c.1).foldl (insR (sgF sg)) []) ++ xs.drop c.1).map eN))]) (fun _ => 0) (fun c => xs.length + 1 - c.1) ⟨1, by omega⟩ ?_ ?_
  · (first | refine Ent.ofA [] ?_ | refine Ent.ofC [] ?_) <;> (repeat' (first | exact trivial | refine kHd ?_ | refine kHm rfl (by simp) rfl (fun h => AObj.noConfusion h) ?_ ?_ | refine And.intro ?_ ?_ | exact cl9 | refine kVp ?_ | refine kVa ?_ | refine kVt ?_ | refine kVf ?_ ?_ | refine kVc ?_ ?_ | exact VLeL.nil | exact OLe.row _ _ | rfl | refine VLe.rsle rfl ?_ ?_ ?_ | refine kQw ?_ ?_ | refine kQm ?_ ?_ | refine kQj ?_ ?_ | refine kQc ?_ ?_ | refine kQs ?_ ?_ ?_ | exact OLe.mapS0 rfl)) <;> try exact kZ
    cases xs <;> rfl
  rintro ⟨c, h1, h2⟩
  have h1 : 1 ≤ c := h1
  have h2 : c ≤ xs.length ∨ c = 1 := h2
  by_cases hcl : c < xs.length
  case neg =>
    have hno : ¬ (c : Int) < (xs.length : Int) := by omega
    have e1 : xs.take c = xs := List.take_of_length_le (by omega)
    have e2 : xs.drop c = [] := List.drop_eq_nil_of_le (by omega)
    rw [e1, e2, List.append_nil]
    repeat' (first | exact cl1 | (refine stx ?_; first | exact exHM _ | refine exU8 ?_) | ((fail_if_success refine stp ?_); (conv => whnf) <;> (first | exact cl2 | refine kBn hno fun hc => ?_ | refine kX ?_ | refine kP ?_ | refine kBd (fun hc => ?_) (fun hc => ?_) | refine kT ?_ | refine kF ?_ | refine kN ?_ | refine kBm (fun hc => ?_) (fun hc => ?_) | refine kO ?_ | refine kS ?_ | refine kA ?_ | exact PV.leL_nil | refine kC ?_ ?_ | refine And.intro ?_ ?_ | refine ix_map (fun x hx => ?_) | refine exU8 ?_ | refine nilc (fun hn => ?_) ?_ | exact cl3 | refine imp0 (fun hpos => ?_) | refine kG ?_ ?_ | exact rfl | exact trivial | (first | refine stq ?_ | fail)))) <;> (try exact cl5)
    refine ⟨[], [(0, 0), (1, 1), (2, 2), (3, 3), (4, 4), (5, 5)], ?_, ?_, by decide, by simp, fun i hi => by match i, hi with | 0, _ => rfl | 1, _ => rfl | 2, _ => rfl | 3, _ => rfl | 4, _ => rfl | 5, _ => rfl⟩ <;> (repeat' (first | exact trivial | refine kHd ?_ | refine kHm rfl (by simp) rfl (fun h => AObj.noConfusion h) ?_ ?_ | refine And.intro ?_ ?_ | exact cl9 | refine kVp ?_ | refine kVa ?_ | refine kVt ?_ | refine kVf ?_ ?_ | refine kVc ?_ ?_ | exact VLeL.nil | exact OLe.row _ _ | rfl | refine VLe.rsle rfl ?_ ?_ ?_ | refine kQw ?_ ?_ | refine kQm ?_ ?_ | refine kQj ?_ ?_ | refine kQc ?_ ?_ | refine kQs ?_ ?_ ?_ | exact OLe.mapS0 rfl))
  case pos =>
  have hyes : (c : Int) < (xs.length : Int) := by omega
  obtain ⟨x, hxc⟩ : ∃ x, xs[c]? = some x := ⟨_, List.getElem?_eq_getElem hcl⟩
  have hft := foldl_take (f := sgF sg) hxc
  have hol : ((xs.take c).foldl (insR (sgF sg)) []).length = c := by rw [foldl_len]; simp; omega
  have hom : ∀ y ∈ (xs.take c).foldl (insR (sgF sg)) [], y < sg.length := fun y hy => by
    rcases mem_foldl.1 hy with h | h
    · exact hx y (List.mem_of_mem_take h)
    · cases h
  have hxm : x < sg.length := hx x (List.mem_of_getElem? hxc)
  have hdr : xs.drop c = x :: xs.drop (c + 1) := by rw [List.drop_eq_getElem_cons hcl]; congr 1; exact (List.getElem?_eq_some_iff.1 hxc).2
  have hrl : (xs.drop (c + 1)).length = xs.length - (c + 1) := List.length_drop
  generalize hout : (xs.take c).foldl (insR (sgF sg)) [] = out at *
  generalize hrest : xs.drop (c + 1) = rest at *
  rw [hdr]
  repeat' (first | exact cl1 | (refine stx ?_; first | exact exHM _ | refine exU8 ?_) | ((fail_if_success refine stp ?_); (conv => whnf) <;> (first | exact cl2 | refine kBy hyes fun hc => ?_ | refine kX ?_ | refine kP ?_ | refine kBd (fun hc => ?_) (fun hc => ?_) | refine kT ?_ | refine kF ?_ | refine kN ?_ | refine kBm (fun hc => ?_) (fun hc => ?_) | refine kO ?_ | refine kS ?_ | refine kA ?_ | exact PV.leL_nil | refine kC ?_ ?_ | refine And.intro ?_ ?_ | refine ix_map (fun x hx => ?_) | refine exU8 ?_ | refine nilc (fun hn => ?_) ?_ | exact cl3 | refine imp0 (fun hpos => ?_) | refine kG ?_ ?_ | exact rfl | exact trivial | (first | refine stq ?_ | fail)))) <;> (try exact cl5)
  have e0 : out.take c ++ x :: (out.drop c ++ rest) = out ++ x :: rest := by rw [List.take_of_length_le (by omega), List.drop_eq_nil_of_le (by omega)]; rfl
  refine Wpc.loopA (α := {j : Nat // j ≤ c ∧ ∀ m y, j ≤ m → out[m]? = some y → sgF sg x < sgF sg y}) mixed [0, 1, 2, 3, 8, 9, 14, 34] (fun j => [(9, .p (eI j.1))]) (fun j => [(5, .row 1 ((out.take j.1 ++ x :: (out.drop j.1 ++ rest)).map eN))]) (fun _ => 0) (fun j => j.1) ⟨c, by omega, fun m y h hm => absurd (List.getElem?_eq_some_iff.1 hm).1 (by omega)⟩ ?_ ?_
  · (first | refine Ent.ofA [] ?_ | refine Ent.ofC [] ?_) <;> (repeat' (first | exact trivial | refine kHd ?_ | refine kHm rfl (by simp) rfl (fun h => AObj.noConfusion h) ?_ ?_ | refine And.intro ?_ ?_ | exact cl9 | refine kVp ?_ | refine kVa ?_ | refine kVt ?_ | refine kVf ?_ ?_ | refine kVc ?_ ?_ | exact VLeL.nil | exact OLe.row _ _ | rfl | refine VLe.rsle rfl ?_ ?_ ?_ | refine kQw ?_ ?_ | refine kQm ?_ ?_ | refine kQj ?_ ?_ | refine kQc ?_ ?_ | refine kQs ?_ ?_ ?_ | exact OLe.mapS0 rfl)) <;> try exact kZ
    rw [e0]
  rintro ⟨j, hj, hg⟩
  have hj : j ≤ c := hj
  have hg : ∀ m y, j ≤ m → out[m]? = some y → sgF sg x < sgF sg y := hg
  have fin : (∀ y, 0 < j → out[j - 1]? = some y → ¬ sgF sg x < sgF sg y) → (xs.take (c + 1)).foldl (insR (sgF sg)) [] ++ rest = out.take j ++ x :: (out.drop j ++ rest) := fun h => by
    rw [hft]
    unfold insR
    rw [posR_eq (sgF sg) x out j (by omega) hg h]
    simp
  cases j with
  | zero =>
    have hj0 : ¬ (0 : Int) < ((0 : Nat) : Int) := by decide
    have fin := fin (fun y h => absurd h (by omega))
    repeat' (first | exact cl1 | (refine stx ?_; first | exact exHM _ | refine exU8 ?_) | ((fail_if_success refine stp ?_); (conv => whnf) <;> (first | exact cl2 | refine kBn hj0 fun hc => ?_ | refine kX ?_ | refine kP ?_ | refine kBd (fun hc => ?_) (fun hc => ?_) | refine kT ?_ | refine kF ?_ | refine kN ?_ | refine kBm (fun hc => ?_) (fun hc => ?_) | refine kO ?_ | refine kS ?_ | refine kA ?_ | exact PV.leL_nil | refine kC ?_ ?_ | refine And.intro ?_ ?_ | refine ix_map (fun x hx => ?_) | refine exU8 ?_ | refine nilc (fun hn => ?_) ?_ | exact cl3 | refine imp0 (fun hpos => ?_) | refine kG ?_ ?_ | exact rfl | exact trivial | (first | refine stq ?_ | fail)))) <;> (try exact cl5)
    refine ⟨⟨c + 1, by omega, by omega⟩, by show xs.length + 1 - (c + 1) < xs.length + 1 - c; omega, ?_⟩
    (first | refine Ent.ofA [] ?_ | refine Ent.ofC [] ?_) <;> (repeat' (first | exact trivial | refine kHd ?_ | refine kHm rfl (by simp) rfl (fun h => AObj.noConfusion h) ?_ ?_ | refine And.intro ?_ ?_ | exact cl9 | refine kVp ?_ | refine kVa ?_ | refine kVt ?_ | refine kVf ?_ ?_ | refine kVc ?_ ?_ | exact VLeL.nil | exact OLe.row _ _ | rfl | refine VLe.rsle rfl ?_ ?_ ?_ | refine kQw ?_ ?_ | refine kQm ?_ ?_ | refine kQj ?_ ?_ | refine kQc ?_ ?_ | refine kQs ?_ ?_ ?_ | exact OLe.mapS0 rfl)) <;> try exact kZ
    show List.map eN _ = List.map eN ((xs.take (c + 1)).foldl (insR (sgF sg)) [] ++ xs.drop (c + 1))
    rw [hrest, fin]
  | succ j =>
    have hj0 : (0 : Int) < ((j + 1 : Nat) : Int) := by omega
    obtain ⟨y, hy⟩ : ∃ y, out[j]? = some y := ⟨_, List.getElem?_eq_getElem (by omega)⟩
    have hym := hom y (List.mem_of_getElem? hy)
    have hsx : sg[x]? = some (sgF sg x) := by simp [sgF, List.getD, hxm]
    have hsy : sg[y]? = some (sgF sg y) := by simp [sgF, List.getD, hym]
    have q := cmpS_icalls l sg D K n1 n2 x y _ _ hsx hsy hsl
    have hL : (out.take (j + 1)).length = j + 1 := by simp; omega
    have hix : (out.take (j + 1) ++ x :: (out.drop (j + 1) ++ rest))[0 + ((j + 1 : Nat) : Int).toNat]? = some x := by
      rw [show 0 + ((j + 1 : Nat) : Int).toNat = j + 1 by omega, List.getElem?_append_right (by omega), hL, Nat.sub_self]; rfl
    have hiy : (out.take (j + 1) ++ x :: (out.drop (j + 1) ++ rest))[0 + (((j + 1 : Nat) : Int) - 1).toNat]? = some y := by
      rw [show 0 + (((j + 1 : Nat) : Int) - 1).toNat = j by omega, List.getElem?_append_left (by omega), List.getElem?_take_of_lt (by omega)]; exact hy
    have hlen : (out.take (j + 1) ++ x :: (out.drop (j + 1) ++ rest)).length = xs.length := by simp; omega
    by_cases hlt : sgF sg x < sgF sg y
    · have hcm : cmpI (sgF sg x) (sgF sg y) < 0 := (cmpI_lt).2 hlt
      repeat' (first | exact cl1 | (refine stx ?_; first | exact exHM _ | refine exU8 ?_) | ((with_reducible show callX _ _ _ _ _); (first | refine call_i [0, 1, 2, 3, 4] (q) (by kernel_rfl) rfl rfl (by decide) cl6 (fun i hi => by match i, hi with | 0, _ => rfl | 1, _ => rfl | 2, _ => rfl | 3, _ => rfl | 4, _ => rfl) cl7 cl8 (by simp [keys]) ?_)) | ((fail_if_success refine stp ?_); (conv => whnf) <;> (first | exact cl2 | refine kBy hj0 fun hc => ?_ | refine kBy hcm fun hc => ?_ | refine ix_at hix ?_ | refine ix_at hiy ?_ | refine kX ?_ | refine kP ?_ | refine kBd (fun hc => ?_) (fun hc => ?_) | refine kT ?_ | refine kF ?_ | refine kN ?_ | refine kBm (fun hc => ?_) (fun hc => ?_) | refine kO ?_ | refine kS ?_ | refine kA ?_ | exact PV.leL_nil | refine kC ?_ ?_ | refine And.intro ?_ ?_ | refine ix_map (fun x hx => ?_) | refine exU8 ?_ | refine nilc (fun hn => ?_) ?_ | exact cl3 | refine imp0 (fun hpos => ?_) | refine kG ?_ ?_ | exact rfl | exact trivial | (first | refine stq ?_ | fail)))) <;> (try exact cl5)
      refine ⟨⟨j, by omega, fun m z hm hz => ?_⟩, by show j < j + 1; omega, ?_⟩
      · rcases Nat.lt_or_eq_of_le hm with h | h
        · exact hg m z h hz
        · subst h; rw [hy] at hz; injection hz with hz; rw [← hz]; exact hlt
      · (first | refine Ent.ofA [] ?_ | refine Ent.ofC [] ?_) <;> (repeat' (first | exact trivial | refine kHd ?_ | refine kHm rfl (by simp) rfl (fun h => AObj.noConfusion h) ?_ ?_ | refine And.intro ?_ ?_ | exact cl9 | refine kVp ?_ | refine kVa ?_ | refine kVt ?_ | refine kVf ?_ ?_ | refine kVc ?_ ?_ | exact VLeL.nil | exact OLe.row _ _ | rfl | refine VLe.rsle rfl ?_ ?_ ?_ | refine kQw ?_ ?_ | refine kQm ?_ ?_ | refine kQj ?_ ?_ | refine kQc ?_ ?_ | refine kQs ?_ ?_ ?_ | exact OLe.mapS0 rfl)) <;> try exact kZ
        show ((List.map eN (out.take (j + 1) ++ x :: (out.drop (j + 1) ++ rest))).set (0 + ((j + 1 : Nat) : Int).toNat) (eN y)).set (0 + (((j + 1 : Nat) : Int) - 1).toNat) (eN x) = List.map eN (out.take j ++ x :: (out.drop j ++ rest))
        rw [show 0 + ((j + 1 : Nat) : Int).toNat = j + 1 by omega, show 0 + (((j + 1 : Nat) : Int) - 1).toNat = j by omega, ← List.map_set, ← List.map_set, swp out rest x y j hy]
    · have hcm : ¬ cmpI (sgF sg x) (sgF sg y) < 0 := fun h => hlt ((cmpI_lt).1 h)
      have fin := fin (fun z _ hz => by
        have hz : out[j]? = some z := hz
        rw [hy] at hz; injection hz with hz; rw [← hz]; exact hlt)
      repeat' (first | exact cl1 | (refine stx ?_; first | exact exHM _ | refine exU8 ?_) | ((with_reducible show callX _ _ _ _ _); (first | refine call_i [0, 1, 2, 3, 4] (q) (by kernel_rfl) rfl rfl (by decide) cl6 (fun i hi => by match i, hi with | 0, _ => rfl | 1, _ => rfl | 2, _ => rfl | 3, _ => rfl | 4, _ => rfl) cl7 cl8 (by simp [keys]) ?_)) | ((fail_if_success refine stp ?_); (conv => whnf) <;> (first | exact cl2 | refine kBy hj0 fun hc => ?_ | refine kBn hcm fun hc => ?_ | refine ix_at hix ?_ | refine ix_at hiy ?_ | refine kX ?_ | refine kP ?_ | refine kBd (fun hc => ?_) (fun hc => ?_) | refine kT ?_ | refine kF ?_ | refine kN ?_ | refine kBm (fun hc => ?_) (fun hc => ?_) | refine kO ?_ | refine kS ?_ | refine kA ?_ | exact PV.leL_nil | refine kC ?_ ?_ | refine And.intro ?_ ?_ | refine ix_map (fun x hx => ?_) | refine exU8 ?_ | refine nilc (fun hn => ?_) ?_ | exact cl3 | refine imp0 (fun hpos => ?_) | refine kG ?_ ?_ | exact rfl | exact trivial | (first | refine stq ?_ | fail)))) <;> (try exact cl5)
      refine ⟨⟨c + 1, by omega, by omega⟩, by show xs.length + 1 - (c + 1) < xs.length + 1 - c; omega, ?_⟩
      (first | refine Ent.ofA [] ?_ | refine Ent.ofC [] ?_) <;> (repeat' (first | exact trivial | refine kHd ?_ | refine kHm rfl (by simp) rfl (fun h => AObj.noConfusion h) ?_ ?_ | refine And.intro ?_ ?_ | exact cl9 | refine kVp ?_ | refine kVa ?_ | refine kVt ?_ | refine kVf ?_ ?_ | refine kVc ?_ ?_ | exact VLeL.nil | exact OLe.row _ _ | rfl | refine VLe.rsle rfl ?_ ?_ ?_ | refine kQw ?_ ?_ | refine kQm ?_ ?_ | refine kQj ?_ ?_ | refine kQc ?_ ?_ | refine kQs ?_ ?_ ?_ | exact OLe.mapS0 rfl)) <;> try exact kZ
      show List.map eN _ = List.map eN ((xs.take (c + 1)).foldl (insR (sgF sg)) [] ++ xs.drop (c + 1))
      rw [hrest, fin]
end Go.Proofs.Ytgclicahmbgfiaa

namespace Go.Proofs.Ytgclicahmbgfiaa
open Go Go.Sg
theorem isortB_icalls (l : List Dc) (sg : List Int) (D K : List PV) (n1 n2 : Nat) (xs : List Nat) (b : Int) (hb : b = xs.length) (hx : ∀ i ∈ xs, i < sg.length) (hsl : sg.length < 1000000) (hxl : xs.length < 1000000) :
    ICalls Try.prog 102 6 [(0, pC l sg n1 n2), (1, .row 1 D), (2, .row 1 K), (3, .map KTi []), (4, .cells [.ptr 0 0]), (5, .row 1 (xs.map eN))] [.rsl 5 1 0 xs.length, .p (eI 0), .p (eI b), .fn (.func 96) [] [.ptr 4 0]] (.tup []) [(0, pC l sg n1 n2), (1, .row 1 D), (2, .row 1 K), (3, .map KTi []), (4, .cells [.ptr 0 0]), (5, .row 1 ((xs.foldl (insR (sgF sg)) []).map eN))] := by
  subst hb; exact isort_icalls l sg D K n1 n2 xs hx hsl hxl
theorem isortT_icalls (l : List Dc) (sg : List Int) (D K : List PV) (n1 n2 : Nat) (R : List PV) (n : Nat) (a b : Int) (h0 : 0 ≤ a) (ha : a < 1000000) (hab : a = b) :
    ICalls Try.prog 102 6 [(0, pC l sg n1 n2), (1, .row 1 D), (2, .row 1 K), (3, .map KTi []), (4, .cells [.ptr 0 0]), (5, .row 1 R)] [.rsl 5 1 0 n, .p (eI a), .p (eI b), .fn (.func 96) [] [.ptr 4 0]] (.tup []) [(0, pC l sg n1 n2), (1, .row 1 D), (2, .row 1 K), (3, .map KTi []), (4, .cells [.ptr 0 0]), (5, .row 1 R)] := by
  have hno : ¬ a + 1 < b := by omega
  refine ICalls.of (N := 53) (res := []) mixed Try.func102 rfl rfl rfl (by kernel_rfl) (by simp) [0, 1, 2, 3, 8, 9, 14, 34] (Nat.le_refl _) ?_
  repeat' (first | exact cl1 | (refine stx ?_; first | exact exHM _ | refine exU8 ?_) | ((fail_if_success refine stp ?_); (conv => whnf) <;> (first | exact cl2 | refine kX ?_ | refine kP ?_ | refine kBd (fun hc => ?_) (fun hc => ?_) | refine kT ?_ | refine kF ?_ | refine kN ?_ | refine kBm (fun hc => ?_) (fun hc => ?_) | refine kO ?_ | refine kS ?_ | refine kA ?_ | exact PV.leL_nil | refine kC ?_ ?_ | refine And.intro ?_ ?_ | refine ix_map (fun x hx => ?_) | refine exU8 ?_ | refine nilc (fun hn => ?_) ?_ | exact cl3 | refine imp0 (fun hpos => ?_) | refine kG ?_ ?_ | exact rfl | exact trivial | (first | refine stq ?_ | fail)))) <;> (try exact cl5)
  refine Wpc.loopA (α := Unit) mixed [0, 1, 2, 3, 8, 9, 14, 34] (fun _ => []) (fun _ => []) (fun _ => 0) (fun _ => 0) () ?_ ?_
  · (first | refine Ent.ofA [] ?_ | refine Ent.ofC [] ?_) <;> (repeat' (first | exact trivial | refine kHd ?_ | refine kHm rfl (by simp) rfl (fun h => AObj.noConfusion h) ?_ ?_ | refine And.intro ?_ ?_ | exact cl9 | refine kVp ?_ | refine kVa ?_ | refine kVt ?_ | refine kVf ?_ ?_ | refine kVc ?_ ?_ | exact VLeL.nil | exact OLe.row _ _ | rfl | refine VLe.rsle rfl ?_ ?_ ?_ | refine kQw ?_ ?_ | refine kQm ?_ ?_ | refine kQj ?_ ?_ | refine kQc ?_ ?_ | refine kQs ?_ ?_ ?_ | exact OLe.mapS0 rfl)) <;> try exact kZ
  intro _
  repeat' (first | exact cl1 | (refine stx ?_; first | exact exHM _ | refine exU8 ?_) | ((fail_if_success refine stp ?_); (conv => whnf) <;> (first | exact cl2 | refine kBn hno fun hc => ?_ | refine kX ?_ | refine kP ?_ | refine kBd (fun hc => ?_) (fun hc => ?_) | refine kT ?_ | refine kF ?_ | refine kN ?_ | refine kBm (fun hc => ?_) (fun hc => ?_) | refine kO ?_ | refine kS ?_ | refine kA ?_ | exact PV.leL_nil | refine kC ?_ ?_ | refine And.intro ?_ ?_ | refine ix_map (fun x hx => ?_) | refine exU8 ?_ | refine nilc (fun hn => ?_) ?_ | exact cl3 | refine imp0 (fun hpos => ?_) | refine kG ?_ ?_ | exact rfl | exact trivial | (first | refine stq ?_ | fail)))) <;> (try exact cl5)
  refine ⟨[], [(0, 0), (1, 1), (2, 2), (3, 3), (4, 4), (5, 5)], ?_, ?_, by decide, by simp, fun i hi => by match i, hi with | 0, _ => rfl | 1, _ => rfl | 2, _ => rfl | 3, _ => rfl | 4, _ => rfl | 5, _ => rfl⟩ <;> (repeat' (first | exact trivial | refine kHd ?_ | refine kHm rfl (by simp) rfl (fun h => AObj.noConfusion h) ?_ ?_ | refine And.intro ?_ ?_ | exact cl9 | refine kVp ?_ | refine kVa ?_ | refine kVt ?_ | refine kVf ?_ ?_ | refine kVc ?_ ?_ | exact VLeL.nil | exact OLe.row _ _ | rfl | refine VLe.rsle rfl ?_ ?_ ?_ | refine kQw ?_ ?_ | refine kQm ?_ ?_ | refine kQj ?_ ?_ | refine kQc ?_ ?_ | refine kQs ?_ ?_ ?_ | exact OLe.mapS0 rfl))
theorem isortN_icalls (l : List Dc) (sg : List Int) (D K : List PV) (n1 n2 : Nat) :
    ICalls Try.prog 102 5 [(0, pC l sg n1 n2), (1, .row 1 D), (2, .row 1 K), (3, .map KTi []), (4, .cells [.ptr 0 0])] [.p (.sl 0 true []), .p (eI 0), .p (eI 0), .fn (.func 96) [] [.ptr 4 0]] (.tup []) [(0, pC l sg n1 n2), (1, .row 1 D), (2, .row 1 K), (3, .map KTi []), (4, .cells [.ptr 0 0])] := by
  have hno : ¬ (0 : Int) + 1 < 0 := by decide
  refine ICalls.of (N := 53) (res := []) mixed Try.func102 rfl rfl rfl (by kernel_rfl) (by simp) [0, 1, 2, 3, 8, 9, 14, 34] (Nat.le_refl _) ?_
  repeat' (first | exact cl1 | (refine stx ?_; first | exact exHM _ | refine exU8 ?_) | ((fail_if_success refine stp ?_); (conv => whnf) <;> (first | exact cl2 | refine kX ?_ | refine kP ?_ | refine kBd (fun hc => ?_) (fun hc => ?_) | refine kT ?_ | refine kF ?_ | refine kN ?_ | refine kBm (fun hc => ?_) (fun hc => ?_) | refine kO ?_ | refine kS ?_ | refine kA ?_ | exact PV.leL_nil | refine kC ?_ ?_ | refine And.intro ?_ ?_ | refine ix_map (fun x hx => ?_) | refine exU8 ?_ | refine nilc (fun hn => ?_) ?_ | exact cl3 | refine imp0 (fun hpos => ?_) | refine kG ?_ ?_ | exact rfl | exact trivial | (first | refine stq ?_ | fail)))) <;> (try exact cl5)
  refine Wpc.loopA (α := Unit) mixed [0, 1, 2, 3, 8, 9, 14, 34] (fun _ => []) (fun _ => []) (fun _ => 0) (fun _ => 0) () ?_ ?_
  · (first | refine Ent.ofA [] ?_ | refine Ent.ofC [] ?_) <;> (repeat' (first | exact trivial | refine kHd ?_ | refine kHm rfl (by simp) rfl (fun h => AObj.noConfusion h) ?_ ?_ | refine And.intro ?_ ?_ | exact cl9 | refine kVp ?_ | refine kVa ?_ | refine kVt ?_ | refine kVf ?_ ?_ | refine kVc ?_ ?_ | exact VLeL.nil | exact OLe.row _ _ | rfl | refine VLe.rsle rfl ?_ ?_ ?_ | refine kQw ?_ ?_ | refine kQm ?_ ?_ | refine kQj ?_ ?_ | refine kQc ?_ ?_ | refine kQs ?_ ?_ ?_ | exact OLe.mapS0 rfl)) <;> try exact kZ
  intro _
  repeat' (first | exact cl1 | (refine stx ?_; first | exact exHM _ | refine exU8 ?_) | ((fail_if_success refine stp ?_); (conv => whnf) <;> (first | exact cl2 | refine kBn hno fun hc => ?_ | refine kX ?_ | refine kP ?_ | refine kBd (fun hc => ?_) (fun hc => ?_) | refine kT ?_ | refine kF ?_ | refine kN ?_ | refine kBm (fun hc => ?_) (fun hc => ?_) | refine kO ?_ | refine kS ?_ | refine kA ?_ | exact PV.leL_nil | refine kC ?_ ?_ | refine And.intro ?_ ?_ | refine ix_map (fun x hx => ?_) | refine exU8 ?_ | refine nilc (fun hn => ?_) ?_ | exact cl3 | refine imp0 (fun hpos => ?_) | refine kG ?_ ?_ | exact rfl | exact trivial | (first | refine stq ?_ | fail)))) <;> (try exact cl5)
  refine ⟨[], [(0, 0), (1, 1), (2, 2), (3, 3), (4, 4)], ?_, ?_, by decide, by simp, fun i hi => by match i, hi with | 0, _ => rfl | 1, _ => rfl | 2, _ => rfl | 3, _ => rfl | 4, _ => rfl⟩ <;> (repeat' (first | exact trivial | refine kHd ?_ | refine kHm rfl (by simp) rfl (fun h => AObj.noConfusion h) ?_ ?_ | refine And.intro ?_ ?_ | exact cl9 | refine kVp ?_ | refine kVa ?_ | refine kVt ?_ | refine kVf ?_ ?_ | refine kVc ?_ ?_ | exact VLeL.nil | exact OLe.row _ _ | rfl | refine VLe.rsle rfl ?_ ?_ ?_ | refine kQw ?_ ?_ | refine kQm ?_ ?_ | refine kQj ?_ ?_ | refine kQc ?_ ?_ | refine kQs ?_ ?_ ?_ | exact OLe.mapS0 rfl))
theorem stableN_icalls (l : List Dc) (sg : List Int) (D K : List PV) (n1 n2 : Nat) :
    ICalls Try.prog 100 5 [(0, pC l sg n1 n2), (1, .row 1 D), (2, .row 1 K), (3, .map KTi []), (4, .cells [.ptr 0 0])] [.p (.sl 0 true []), .p (eI 0), .fn (.func 96) [] [.ptr 4 0]] (.tup []) [(0, pC l sg n1 n2), (1, .row 1 D), (2, .row 1 K), (3, .map KTi []), (4, .cells [.ptr 0 0])] := by
  have h1 : ¬ (20 : Int) ≤ 0 := by decide
  have h2 : ¬ (20 : Int) < 0 := by decide
  refine ICalls.of (N := 63) (res := []) mixed Try.func100 rfl rfl rfl (by kernel_rfl) (by simp) [0, 1, 2, 6, 7, 8, 9, 13, 30, 35, 54] (Nat.le_refl _) ?_
  repeat' (first | exact cl1 | (refine stx ?_; first | exact exHM _ | refine exU8 ?_) | ((fail_if_success refine stp ?_); (conv => whnf) <;> (first | exact cl2 | refine kX ?_ | refine kP ?_ | refine kBd (fun hc => ?_) (fun hc => ?_) | refine kT ?_ | refine kF ?_ | refine kN ?_ | refine kBm (fun hc => ?_) (fun hc => ?_) | refine kO ?_ | refine kS ?_ | refine kA ?_ | exact PV.leL_nil | refine kC ?_ ?_ | refine And.intro ?_ ?_ | refine ix_map (fun x hx => ?_) | refine exU8 ?_ | refine nilc (fun hn => ?_) ?_ | exact cl3 | refine imp0 (fun hpos => ?_) | refine kG ?_ ?_ | exact rfl | exact trivial | (first | refine stq ?_ | fail)))) <;> (try exact cl5)
  refine Wpc.loopA (α := Unit) mixed [0, 1, 2, 6, 7, 8, 9, 13, 30, 35, 54] (fun _ => []) (fun _ => []) (fun _ => 0) (fun _ => 0) () ?_ ?_
  · (first | refine Ent.ofA [] ?_ | refine Ent.ofC [] ?_) <;> (repeat' (first | exact trivial | refine kHd ?_ | refine kHm rfl (by simp) rfl (fun h => AObj.noConfusion h) ?_ ?_ | refine And.intro ?_ ?_ | exact cl9 | refine kVp ?_ | refine kVa ?_ | refine kVt ?_ | refine kVf ?_ ?_ | refine kVc ?_ ?_ | exact VLeL.nil | exact OLe.row _ _ | rfl | refine VLe.rsle rfl ?_ ?_ ?_ | refine kQw ?_ ?_ | refine kQm ?_ ?_ | refine kQj ?_ ?_ | refine kQc ?_ ?_ | refine kQs ?_ ?_ ?_ | exact OLe.mapS0 rfl)) <;> try exact kZ
  intro _
  repeat' (first | exact cl1 | (refine stx ?_; first | exact exHM _ | refine exU8 ?_) | ((with_reducible show callX _ _ _ _ _); (first | refine call_i [0, 1, 2, 3, 4] (isortN_icalls l sg D K n1 n2) (by kernel_rfl) rfl rfl (by decide) cl6 (fun i hi => by match i, hi with | 0, _ => rfl | 1, _ => rfl | 2, _ => rfl | 3, _ => rfl | 4, _ => rfl) cl7 cl8 (by simp [keys]) ?_)) | ((fail_if_success refine stp ?_); (conv => whnf) <;> (first | exact cl2 | refine kBn h1 fun hc => ?_ | refine kX ?_ | refine kP ?_ | refine kBd (fun hc => ?_) (fun hc => ?_) | refine kT ?_ | refine kF ?_ | refine kN ?_ | refine kBm (fun hc => ?_) (fun hc => ?_) | refine kO ?_ | refine kS ?_ | refine kA ?_ | exact PV.leL_nil | refine kC ?_ ?_ | refine And.intro ?_ ?_ | refine ix_map (fun x hx => ?_) | refine exU8 ?_ | refine nilc (fun hn => ?_) ?_ | exact cl3 | refine imp0 (fun hpos => ?_) | refine kG ?_ ?_ | exact rfl | exact trivial | (first | refine stq ?_ | fail)))) <;> (try exact cl5)
  refine Wpc.loopA (α := Unit) mixed [0, 1, 2, 6, 7, 8, 9, 13, 30, 35, 54] (fun _ => []) (fun _ => []) (fun _ => 0) (fun _ => 0) () ?_ ?_
  · (first | refine Ent.ofA [] ?_ | refine Ent.ofC [] ?_) <;> (repeat' (first | exact trivial | refine kHd ?_ | refine kHm rfl (by simp) rfl (fun h => AObj.noConfusion h) ?_ ?_ | refine And.intro ?_ ?_ | exact cl9 | refine kVp ?_ | refine kVa ?_ | refine kVt ?_ | refine kVf ?_ ?_ | refine kVc ?_ ?_ | exact VLeL.nil | exact OLe.row _ _ | rfl | refine VLe.rsle rfl ?_ ?_ ?_ | refine kQw ?_ ?_ | refine kQm ?_ ?_ | refine kQj ?_ ?_ | refine kQc ?_ ?_ | refine kQs ?_ ?_ ?_ | exact OLe.mapS0 rfl)) <;> try exact kZ
  intro _
  repeat' (first | exact cl1 | (refine stx ?_; first | exact exHM _ | refine exU8 ?_) | ((fail_if_success refine stp ?_); (conv => whnf) <;> (first | exact cl2 | refine kBn h2 fun hc => ?_ | refine kX ?_ | refine kP ?_ | refine kBd (fun hc => ?_) (fun hc => ?_) | refine kT ?_ | refine kF ?_ | refine kN ?_ | refine kBm (fun hc => ?_) (fun hc => ?_) | refine kO ?_ | refine kS ?_ | refine kA ?_ | exact PV.leL_nil | refine kC ?_ ?_ | refine And.intro ?_ ?_ | refine ix_map (fun x hx => ?_) | refine exU8 ?_ | refine nilc (fun hn => ?_) ?_ | exact cl3 | refine imp0 (fun hpos => ?_) | refine kG ?_ ?_ | exact rfl | exact trivial | (first | refine stq ?_ | fail)))) <;> (try exact cl5)
  refine ⟨[], [(0, 0), (1, 1), (2, 2), (3, 3), (4, 4)], ?_, ?_, by decide, by simp, fun i hi => by match i, hi with | 0, _ => rfl | 1, _ => rfl | 2, _ => rfl | 3, _ => rfl | 4, _ => rfl⟩ <;> (repeat' (first | exact trivial | refine kHd ?_ | refine kHm rfl (by simp) rfl (fun h => AObj.noConfusion h) ?_ ?_ | refine And.intro ?_ ?_ | exact cl9 | refine kVp ?_ | refine kVa ?_ | refine kVt ?_ | refine kVf ?_ ?_ | refine kVc ?_ ?_ | exact VLeL.nil | exact OLe.row _ _ | rfl | refine VLe.rsle rfl ?_ ?_ ?_ | refine kQw ?_ ?_ | refine kQm ?_ ?_ | refine kQj ?_ ?_ | refine kQc ?_ ?_ | refine kQs ?_ ?_ ?_ | exact OLe.mapS0 rfl))
theorem sortN_icalls (l : List Dc) (sg : List Int) (D K : List PV) (n1 n2 : Nat) :
    ICalls Try.prog 95 5 [(0, pC l sg n1 n2), (1, .row 1 D), (2, .row 1 K), (3, .map KTi []), (4, .cells [.ptr 0 0])] [.p (.sl 0 true []), .fn (.func 96) [] [.ptr 4 0]] (.tup []) [(0, pC l sg n1 n2), (1, .row 1 D), (2, .row 1 K), (3, .map KTi []), (4, .cells [.ptr 0 0])] := by
  refine ICalls.of (N := 9) (res := []) mixed Try.func95 rfl rfl rfl (by kernel_rfl) (by simp) [0, 1] (Nat.le_refl _) ?_
  repeat' (first | exact cl1 | (refine stx ?_; first | exact exHM _ | refine exU8 ?_) | ((with_reducible show callX _ _ _ _ _); (first | refine call_i [0, 1, 2, 3, 4] (stableN_icalls l sg D K n1 n2) (by kernel_rfl) rfl rfl (by decide) cl6 (fun i hi => by match i, hi with | 0, _ => rfl | 1, _ => rfl | 2, _ => rfl | 3, _ => rfl | 4, _ => rfl) cl7 cl8 (by simp [keys]) ?_)) | ((fail_if_success refine stp ?_); (conv => whnf) <;> (first | exact cl2 | refine kX ?_ | refine kP ?_ | refine kBd (fun hc => ?_) (fun hc => ?_) | refine kT ?_ | refine kF ?_ | refine kN ?_ | refine kBm (fun hc => ?_) (fun hc => ?_) | refine kO ?_ | refine kS ?_ | refine kA ?_ | exact PV.leL_nil | refine kC ?_ ?_ | refine And.intro ?_ ?_ | refine ix_map (fun x hx => ?_) | refine exU8 ?_ | refine nilc (fun hn => ?_) ?_ | exact cl3 | refine imp0 (fun hpos => ?_) | refine kG ?_ ?_ | exact rfl | exact trivial | (first | refine stq ?_ | fail)))) <;> (try exact cl5)
  refine ⟨[], [(0, 0), (1, 1), (2, 2), (3, 3), (4, 4)], ?_, ?_, by decide, by simp, fun i hi => by match i, hi with | 0, _ => rfl | 1, _ => rfl | 2, _ => rfl | 3, _ => rfl | 4, _ => rfl⟩ <;> (repeat' (first | exact trivial | refine kHd ?_ | refine kHm rfl (by simp) rfl (fun h => AObj.noConfusion h) ?_ ?_ | refine And.intro ?_ ?_ | exact cl9 | refine kVp ?_ | refine kVa ?_ | refine kVt ?_ | refine kVf ?_ ?_ | refine kVc ?_ ?_ | exact VLeL.nil | exact OLe.row _ _ | rfl | refine VLe.rsle rfl ?_ ?_ ?_ | refine kQw ?_ ?_ | refine kQm ?_ ?_ | refine kQj ?_ ?_ | refine kQc ?_ ?_ | refine kQs ?_ ?_ ?_ | exact OLe.mapS0 rfl))
theorem stable_icalls (l : List Dc) (sg : List Int) (D K : List PV) (n1 n2 : Nat) (xs : List Nat) (hx : ∀ i ∈ xs, i < sg.length) (hsl : sg.length < 1000000) (hxl : xs.length ≤ 20) :
    ICalls Try.prog 100 6 [(0, pC l sg n1 n2), (1, .row 1 D), (2, .row 1 K), (3, .map KTi []), (4, .cells [.ptr 0 0]), (5, .row 1 (xs.map eN))] [.rsl 5 1 0 xs.length, .p (eI xs.length), .fn (.func 96) [] [.ptr 4 0]] (.tup []) [(0, pC l sg n1 n2), (1, .row 1 D), (2, .row 1 K), (3, .map KTi []), (4, .cells [.ptr 0 0]), (5, .row 1 ((xs.foldl (insR (sgF sg)) []).map eN))] := by
  have h2 : ¬ (20 : Int) < (xs.length : Int) := by omega
  by_cases h20 : xs.length = 20
  · have hb : (20 : Int) = xs.length := by omega
    have q1 := isortB_icalls l sg D K n1 n2 xs 20 hb hx hsl (by omega)
    have q2 := isortT_icalls l sg D K n1 n2 ((xs.foldl (insR (sgF sg)) []).map eN) xs.length 20 xs.length (by omega) (by omega) hb
    have h1 : (20 : Int) ≤ (xs.length : Int) := by omega
    have h3 : ¬ (40 : Int) ≤ (xs.length : Int) := by omega
    refine ICalls.of (N := 63) (res := []) mixed Try.func100 rfl rfl rfl (by kernel_rfl) (by simp) [0, 1, 2, 6, 7, 8, 9, 13, 30, 35, 54] (Nat.le_refl _) ?_
    repeat' (first | exact cl1 | (refine stx ?_; first | exact exHM _ | refine exU8 ?_) | ((fail_if_success refine stp ?_); (conv => whnf) <;> (first | exact cl2 | refine kX ?_ | refine kP ?_ | refine kBd (fun hc => ?_) (fun hc => ?_) | refine kT ?_ | refine kF ?_ | refine kN ?_ | refine kBm (fun hc => ?_) (fun hc => ?_) | refine kO ?_ | refine kS ?_ | refine kA ?_ | exact PV.leL_nil | refine kC ?_ ?_ | refine And.intro ?_ ?_ | refine ix_map (fun x hx => ?_) | refine exU8 ?_ | refine nilc (fun hn => ?_) ?_ | exact cl3 | refine imp0 (fun hpos => ?_) | refine kG ?_ ?_ | exact rfl | exact trivial | (first | refine stq ?_ | fail)))) <;> (try exact cl5)
    refine Wpc.loopA (α := Bool) mixed [0, 1, 2, 6, 7, 8, 9, 13, 30, 35, 54] (fun b => [(7, .p (eI (if b then 20 else 0))), (8, .p (eI (if b then 40 else 20)))]) (fun b => [(5, .row 1 ((if b then xs.foldl (insR (sgF sg)) [] else xs).map eN))]) (fun _ => 0) (fun b => if b then 0 else 1) false ?_ ?_
    · (first | refine Ent.ofA [] ?_ | refine Ent.ofC [] ?_) <;> (repeat' (first | exact trivial | refine kHd ?_ | refine kHm rfl (by simp) rfl (fun h => AObj.noConfusion h) ?_ ?_ | refine And.intro ?_ ?_ | exact cl9 | refine kVp ?_ | refine kVa ?_ | refine kVt ?_ | refine kVf ?_ ?_ | refine kVc ?_ ?_ | exact VLeL.nil | exact OLe.row _ _ | rfl | refine VLe.rsle rfl ?_ ?_ ?_ | refine kQw ?_ ?_ | refine kQm ?_ ?_ | refine kQj ?_ ?_ | refine kQc ?_ ?_ | refine kQs ?_ ?_ ?_ | exact OLe.mapS0 rfl)) <;> try exact kZ
    intro b
    cases b with
    | false =>
      repeat' (first | exact cl1 | (refine stx ?_; first | exact exHM _ | refine exU8 ?_) | ((with_reducible show callX _ _ _ _ _); (first | refine call_i [0, 1, 2, 3, 4, 5] (q1) (by kernel_rfl) rfl rfl (by decide) cl6 (fun i hi => by match i, hi with | 0, _ => rfl | 1, _ => rfl | 2, _ => rfl | 3, _ => rfl | 4, _ => rfl | 5, _ => rfl) cl7 cl8 (by simp [keys]) ?_)) | ((fail_if_success refine stp ?_); (conv => whnf) <;> (first | exact cl2 | refine kBy h1 fun hc => ?_ | refine kX ?_ | refine kP ?_ | refine kBd (fun hc => ?_) (fun hc => ?_) | refine kT ?_ | refine kF ?_ | refine kN ?_ | refine kBm (fun hc => ?_) (fun hc => ?_) | refine kO ?_ | refine kS ?_ | refine kA ?_ | exact PV.leL_nil | refine kC ?_ ?_ | refine And.intro ?_ ?_ | refine ix_map (fun x hx => ?_) | refine exU8 ?_ | refine nilc (fun hn => ?_) ?_ | exact cl3 | refine imp0 (fun hpos => ?_) | refine kG ?_ ?_ | exact rfl | exact trivial | (first | refine stq ?_ | fail)))) <;> (try exact cl5)
      refine ⟨true, by decide, ?_⟩
      (first | refine Ent.ofA [] ?_ | refine Ent.ofC [] ?_) <;> (repeat' (first | exact trivial | refine kHd ?_ | refine kHm rfl (by simp) rfl (fun h => AObj.noConfusion h) ?_ ?_ | refine And.intro ?_ ?_ | exact cl9 | refine kVp ?_ | refine kVa ?_ | refine kVt ?_ | refine kVf ?_ ?_ | refine kVc ?_ ?_ | exact VLeL.nil | exact OLe.row _ _ | rfl | refine VLe.rsle rfl ?_ ?_ ?_ | refine kQw ?_ ?_ | refine kQm ?_ ?_ | refine kQj ?_ ?_ | refine kQc ?_ ?_ | refine kQs ?_ ?_ ?_ | exact OLe.mapS0 rfl)) <;> try exact kZ
    | true =>
      repeat' (first | exact cl1 | (refine stx ?_; first | exact exHM _ | refine exU8 ?_) | ((with_reducible show callX _ _ _ _ _); (first | refine call_i [0, 1, 2, 3, 4, 5] (q2) (by kernel_rfl) rfl rfl (by decide) cl6 (fun i hi => by match i, hi with | 0, _ => rfl | 1, _ => rfl | 2, _ => rfl | 3, _ => rfl | 4, _ => rfl | 5, _ => rfl) cl7 cl8 (by simp [keys]) ?_)) | ((fail_if_success refine stp ?_); (conv => whnf) <;> (first | exact cl2 | refine kBn h3 fun hc => ?_ | refine kX ?_ | refine kP ?_ | refine kBd (fun hc => ?_) (fun hc => ?_) | refine kT ?_ | refine kF ?_ | refine kN ?_ | refine kBm (fun hc => ?_) (fun hc => ?_) | refine kO ?_ | refine kS ?_ | refine kA ?_ | exact PV.leL_nil | refine kC ?_ ?_ | refine And.intro ?_ ?_ | refine ix_map (fun x hx => ?_) | refine exU8 ?_ | refine nilc (fun hn => ?_) ?_ | exact cl3 | refine imp0 (fun hpos => ?_) | refine kG ?_ ?_ | exact rfl | exact trivial | (first | refine stq ?_ | fail)))) <;> (try exact cl5)
      refine Wpc.loopA (α := Unit) mixed [0, 1, 2, 6, 7, 8, 9, 13, 30, 35, 54] (fun _ => []) (fun _ => []) (fun _ => 0) (fun _ => 0) () ?_ ?_
      · (first | refine Ent.ofA [] ?_ | refine Ent.ofC [] ?_) <;> (repeat' (first | exact trivial | refine kHd ?_ | refine kHm rfl (by simp) rfl (fun h => AObj.noConfusion h) ?_ ?_ | refine And.intro ?_ ?_ | exact cl9 | refine kVp ?_ | refine kVa ?_ | refine kVt ?_ | refine kVf ?_ ?_ | refine kVc ?_ ?_ | exact VLeL.nil | exact OLe.row _ _ | rfl | refine VLe.rsle rfl ?_ ?_ ?_ | refine kQw ?_ ?_ | refine kQm ?_ ?_ | refine kQj ?_ ?_ | refine kQc ?_ ?_ | refine kQs ?_ ?_ ?_ | exact OLe.mapS0 rfl)) <;> try exact kZ
      intro _
      repeat' (first | exact cl1 | (refine stx ?_; first | exact exHM _ | refine exU8 ?_) | ((fail_if_success refine stp ?_); (conv => whnf) <;> (first | exact cl2 | refine kBn h2 fun hc => ?_ | refine kX ?_ | refine kP ?_ | refine kBd (fun hc => ?_) (fun hc => ?_) | refine kT ?_ | refine kF ?_ | refine kN ?_ | refine kBm (fun hc => ?_) (fun hc => ?_) | refine kO ?_ | refine kS ?_ | refine kA ?_ | exact PV.leL_nil | refine kC ?_ ?_ | refine And.intro ?_ ?_ | refine ix_map (fun x hx => ?_) | refine exU8 ?_ | refine nilc (fun hn => ?_) ?_ | exact cl3 | refine imp0 (fun hpos => ?_) | refine kG ?_ ?_ | exact rfl | exact trivial | (first | refine stq ?_ | fail)))) <;> (try exact cl5)
      refine ⟨[], [(0, 0), (1, 1), (2, 2), (3, 3), (4, 4), (5, 5)], ?_, ?_, by decide, by simp, fun i hi => by match i, hi with | 0, _ => rfl | 1, _ => rfl | 2, _ => rfl | 3, _ => rfl | 4, _ => rfl | 5, _ => rfl⟩ <;> (repeat' (first | exact trivial | refine kHd ?_ | refine kHm rfl (by simp) rfl (fun h => AObj.noConfusion h) ?_ ?_ | refine And.intro ?_ ?_ | exact cl9 | refine kVp ?_ | refine kVa ?_ | refine kVt ?_ | refine kVf ?_ ?_ | refine kVc ?_ ?_ | exact VLeL.nil | exact OLe.row _ _ | rfl | refine VLe.rsle rfl ?_ ?_ ?_ | refine kQw ?_ ?_ | refine kQm ?_ ?_ | refine kQj ?_ ?_ | refine kQc ?_ ?_ | refine kQs ?_ ?_ ?_ | exact OLe.mapS0 rfl))
  · have h1 : ¬ (20 : Int) ≤ (xs.length : Int) := by omega
    have q1 := isort_icalls l sg D K n1 n2 xs hx hsl (by omega)
    refine ICalls.of (N := 63) (res := []) mixed Try.func100 rfl rfl rfl (by kernel_rfl) (by simp) [0, 1, 2, 6, 7, 8, 9, 13, 30, 35, 54] (Nat.le_refl _) ?_
    repeat' (first | exact cl1 | (refine stx ?_; first | exact exHM _ | refine exU8 ?_) | ((fail_if_success refine stp ?_); (conv => whnf) <;> (first | exact cl2 | refine kX ?_ | refine kP ?_ | refine kBd (fun hc => ?_) (fun hc => ?_) | refine kT ?_ | refine kF ?_ | refine kN ?_ | refine kBm (fun hc => ?_) (fun hc => ?_) | refine kO ?_ | refine kS ?_ | refine kA ?_ | exact PV.leL_nil | refine kC ?_ ?_ | refine And.intro ?_ ?_ | refine ix_map (fun x hx => ?_) | refine exU8 ?_ | refine nilc (fun hn => ?_) ?_ | exact cl3 | refine imp0 (fun hpos => ?_) | refine kG ?_ ?_ | exact rfl | exact trivial | (first | refine stq ?_ | fail)))) <;> (try exact cl5)
    refine Wpc.loopA (α := Unit) mixed [0, 1, 2, 6, 7, 8, 9, 13, 30, 35, 54] (fun _ => []) (fun _ => []) (fun _ => 0) (fun _ => 0) () ?_ ?_
    · (first | refine Ent.ofA [] ?_ | refine Ent.ofC [] ?_) <;> (repeat' (first | exact trivial | refine kHd ?_ | refine kHm rfl (by simp) rfl (fun h => AObj.noConfusion h) ?_ ?_ | refine And.intro ?_ ?_ | exact cl9 | refine kVp ?_ | refine kVa ?_ | refine kVt ?_ | refine kVf ?_ ?_ | refine kVc ?_ ?_ | exact VLeL.nil | exact OLe.row _ _ | rfl | refine VLe.rsle rfl ?_ ?_ ?_ | refine kQw ?_ ?_ | refine kQm ?_ ?_ | refine kQj ?_ ?_ | refine kQc ?_ ?_ | refine kQs ?_ ?_ ?_ | exact OLe.mapS0 rfl)) <;> try exact kZ
    intro _
    repeat' (first | exact cl1 | (refine stx ?_; first | exact exHM _ | refine exU8 ?_) | ((with_reducible show callX _ _ _ _ _); (first | refine call_i [0, 1, 2, 3, 4, 5] (q1) (by kernel_rfl) rfl rfl (by decide) cl6 (fun i hi => by match i, hi with | 0, _ => rfl | 1, _ => rfl | 2, _ => rfl | 3, _ => rfl | 4, _ => rfl | 5, _ => rfl) cl7 cl8 (by simp [keys]) ?_)) | ((fail_if_success refine stp ?_); (conv => whnf) <;> (first | exact cl2 | refine kBn h1 fun hc => ?_ | refine kX ?_ | refine kP ?_ | refine kBd (fun hc => ?_) (fun hc => ?_) | refine kT ?_ | refine kF ?_ | refine kN ?_ | refine kBm (fun hc => ?_) (fun hc => ?_) | refine kO ?_ | refine kS ?_ | refine kA ?_ | exact PV.leL_nil | refine kC ?_ ?_ | refine And.intro ?_ ?_ | refine ix_map (fun x hx => ?_) | refine exU8 ?_ | refine nilc (fun hn => ?_) ?_ | exact cl3 | refine imp0 (fun hpos => ?_) | refine kG ?_ ?_ | exact rfl | exact trivial | (first | refine stq ?_ | fail)))) <;> (try exact cl5)
    refine Wpc.loopA (α := Unit) mixed [0, 1, 2, 6, 7, 8, 9, 13, 30, 35, 54] (fun _ => []) (fun _ => []) (fun _ => 0) (fun _ => 0) () ?_ ?_
    · (first | refine Ent.ofA [] ?_ | refine Ent.ofC [] ?_) <;> (repeat' (first | exact trivial | refine kHd ?_ | refine kHm rfl (by simp) rfl (fun h => AObj.noConfusion h) ?_ ?_ | refine And.intro ?_ ?_ | exact cl9 | refine kVp ?_ | refine kVa ?_ | refine kVt ?_ | refine kVf ?_ ?_ | refine kVc ?_ ?_ | exact VLeL.nil | exact OLe.row _ _ | rfl | refine VLe.rsle rfl ?_ ?_ ?_ | refine kQw ?_ ?_ | refine kQm ?_ ?_ | refine kQj ?_ ?_ | refine kQc ?_ ?_ | refine kQs ?_ ?_ ?_ | exact OLe.mapS0 rfl)) <;> try exact kZ
    intro _
    repeat' (first | exact cl1 | (refine stx ?_; first | exact exHM _ | refine exU8 ?_) | ((fail_if_success refine stp ?_); (conv => whnf) <;> (first | exact cl2 | refine kBn h2 fun hc => ?_ | refine kX ?_ | refine kP ?_ | refine kBd (fun hc => ?_) (fun hc => ?_) | refine kT ?_ | refine kF ?_ | refine kN ?_ | refine kBm (fun hc => ?_) (fun hc => ?_) | refine kO ?_ | refine kS ?_ | refine kA ?_ | exact PV.leL_nil | refine kC ?_ ?_ | refine And.intro ?_ ?_ | refine ix_map (fun x hx => ?_) | refine exU8 ?_ | refine nilc (fun hn => ?_) ?_ | exact cl3 | refine imp0 (fun hpos => ?_) | refine kG ?_ ?_ | exact rfl | exact trivial | (first | refine stq ?_ | fail)))) <;> (try exact cl5)
    refine ⟨[], [(0, 0), (1, 1), (2, 2), (3, 3), (4, 4), (5, 5)], ?_, ?_, by decide, by simp, fun i hi => by match i, hi with | 0, _ => rfl | 1, _ => rfl | 2, _ => rfl | 3, _ => rfl | 4, _ => rfl | 5, _ => rfl⟩ <;> (repeat' (first | exact trivial | refine kHd ?_ | refine kHm rfl (by simp) rfl (fun h => AObj.noConfusion h) ?_ ?_ | refine And.intro ?_ ?_ | exact cl9 | refine kVp ?_ | refine kVa ?_ | refine kVt ?_ | refine kVf ?_ ?_ | refine kVc ?_ ?_ | exact VLeL.nil | exact OLe.row _ _ | rfl | refine VLe.rsle rfl ?_ ?_ ?_ | refine kQw ?_ ?_ | refine kQm ?_ ?_ | refine kQj ?_ ?_ | refine kQc ?_ ?_ | refine kQs ?_ ?_ ?_ | exact OLe.mapS0 rfl))
theorem sort_icalls (l : List Dc) (sg : List Int) (D K : List PV) (n1 n2 : Nat) (xs : List Nat) (hx : ∀ i ∈ xs, i < sg.length) (hsl : sg.length < 1000000) (hxl : xs.length ≤ 20) :
    ICalls Try.prog 95 6 [(0, pC l sg n1 n2), (1, .row 1 D), (2, .row 1 K), (3, .map KTi []), (4, .cells [.ptr 0 0]), (5, .row 1 (xs.map eN))] [.rsl 5 1 0 xs.length, .fn (.func 96) [] [.ptr 4 0]] (.tup []) [(0, pC l sg n1 n2), (1, .row 1 D), (2, .row 1 K), (3, .map KTi []), (4, .cells [.ptr 0 0]), (5, .row 1 ((xs.foldl (insR (sgF sg)) []).map eN))] := by
  have q1 := stable_icalls l sg D K n1 n2 xs hx hsl hxl
  refine ICalls.of (N := 9) (res := []) mixed Try.func95 rfl rfl rfl (by kernel_rfl) (by simp) [0, 1] (Nat.le_refl _) ?_
  repeat' (first | exact cl1 | (refine stx ?_; first | exact exHM _ | refine exU8 ?_) | ((with_reducible show callX _ _ _ _ _); (first | refine call_i [0, 1, 2, 3, 4, 5] (q1) (by kernel_rfl) rfl rfl (by decide) cl6 (fun i hi => by match i, hi with | 0, _ => rfl | 1, _ => rfl | 2, _ => rfl | 3, _ => rfl | 4, _ => rfl | 5, _ => rfl) cl7 cl8 (by simp [keys]) ?_)) | ((fail_if_success refine stp ?_); (conv => whnf) <;> (first | exact cl2 | refine kX ?_ | refine kP ?_ | refine kBd (fun hc => ?_) (fun hc => ?_) | refine kT ?_ | refine kF ?_ | refine kN ?_ | refine kBm (fun hc => ?_) (fun hc => ?_) | refine kO ?_ | refine kS ?_ | refine kA ?_ | exact PV.leL_nil | refine kC ?_ ?_ | refine And.intro ?_ ?_ | refine ix_map (fun x hx => ?_) | refine exU8 ?_ | refine nilc (fun hn => ?_) ?_ | exact cl3 | refine imp0 (fun hpos => ?_) | refine kG ?_ ?_ | exact rfl | exact trivial | (first | refine stq ?_ | fail)))) <;> (try exact cl5)
  refine ⟨[], [(0, 0), (1, 1), (2, 2), (3, 3), (4, 4), (5, 5)], ?_, ?_, by decide, by simp, fun i hi => by match i, hi with | 0, _ => rfl | 1, _ => rfl | 2, _ => rfl | 3, _ => rfl | 4, _ => rfl | 5, _ => rfl⟩ <;> (repeat' (first | exact trivial | refine kHd ?_ | refine kHm rfl (by simp) rfl (fun h => AObj.noConfusion h) ?_ ?_ | refine And.intro ?_ ?_ | exact cl9 | refine kVp ?_ | refine kVa ?_ | refine kVt ?_ | refine kVf ?_ ?_ | refine kVc ?_ ?_ | exact VLeL.nil | exact OLe.row _ _ | rfl | refine VLe.rsle rfl ?_ ?_ ?_ | refine kQw ?_ ?_ | refine kQm ?_ ?_ | refine kQj ?_ ?_ | refine kQc ?_ ?_ | refine kQs ?_ ?_ ?_ | exact OLe.mapS0 rfl))
end Go.Proofs.Ytgclicahmbgfiaa

namespace Go.Proofs.Ytgclicahmbgfiaa
open Go Go.Sg
def oV (n : Nat) : List Nat → AV
  | [] => .p (.sl 0 true [])
  | _ :: r => .rsl n 1 0 (r.length + 1)
def oH (n : Nat) : List Nat → Heap
  | [] => []
  | a :: r => [(n, .row 1 ((a :: r).map eN))]
theorem upL_succ (sg : List Int) (at_ : Int) (n : Nat) : upL sg at_ (n + 1) = upL sg at_ n ++ if upB sg at_ n then [n] else [] := by
  unfold upL; rw [List.range_succ, List.filter_append]
  congr 1
  cases h : upB sg at_ n <;> simp [h]
theorem upL_lt {sg : List Int} {at_ : Int} {n i : Nat} (h : i ∈ upL sg at_ n) : i < n ∧ upB sg at_ i = true := by
  unfold upL at h; rw [List.mem_filter, List.mem_range] at h; exact h
theorem upL_len (sg : List Int) (at_ : Int) (n : Nat) : (upL sg at_ n).length ≤ n := by
  unfold upL; have := List.length_filter_le (upB sg at_) (List.range n); rw [List.length_range] at this; exact this
theorem signings_icalls (l : List Dc) (sg : List Int) (D K : List PV) (n1 n2 : Nat) (at_ : Int) (hsl : sg.length ≤ 20) :
    ICalls Try.prog 73 4 [(0, pC l sg n1 n2), (1, .row 1 D), (2, .row 1 K), (3, .map KTi [])] [.ptr 0 0, .p (eI at_)] (.p (.fn (.func 101) [] [.ro [eNs (ordL sg at_)]])) [(0, pC l sg n1 n2), (1, .row 1 D), (2, .row 1 K), (3, .map KTi [])] := by
  refine ICalls.of (N := 35) (res := [.tmp 4]) mixed Try.func73 rfl rfl rfl (by kernel_rfl) (by simp) [0, 1, 2, 4, 5, 6, 7, 11, 12, 13, 14, 24] (Nat.le_refl _) ?_
  repeat' (first | exact cl1 | (refine stx ?_; first | exact exHM _ | refine exU8 ?_) | ((fail_if_success refine stp ?_); (conv => whnf) <;> (first | exact cl2 | refine kX ?_ | refine kP ?_ | refine kBd (fun hc => ?_) (fun hc => ?_) | refine kT ?_ | refine kF ?_ | refine kN ?_ | refine kBm (fun hc => ?_) (fun hc => ?_) | refine kO ?_ | refine kS ?_ | refine kA ?_ | exact PV.leL_nil | refine kC ?_ ?_ | refine And.intro ?_ ?_ | refine ix_map (fun x hx => ?_) | refine exU8 ?_ | refine nilc (fun hn => ?_) ?_ | exact cl3 | refine imp0 (fun hpos => ?_) | refine kG ?_ ?_ | exact rfl | exact trivial | (first | refine stq ?_ | fail)))) <;> (try exact cl5)
  refine Wpc.loopA (α := {i : Nat // i ≤ sg.length}) mixed [0, 1, 2, 4, 5, 6, 7, 11, 12, 13, 14, 24] (fun i => [(5, oV 5 (upL sg at_ i.1)), (13, .p (eI i.1))]) (fun i => oH 5 (upL sg at_ i.1)) (fun _ => 0) (fun i => sg.length - i.1) ⟨0, by omega⟩ ?_ ?_
  · (first | refine Ent.ofA [] ?_ | refine Ent.ofC [] ?_) <;> (repeat' (first | exact trivial | refine kHd ?_ | refine kHm rfl (by simp) rfl (fun h => AObj.noConfusion h) ?_ ?_ | refine And.intro ?_ ?_ | exact cl9 | refine kVp ?_ | refine kVa ?_ | refine kVt ?_ | refine kVf ?_ ?_ | refine kVc ?_ ?_ | exact VLeL.nil | exact OLe.row _ _ | rfl | refine VLe.rsle rfl ?_ ?_ ?_ | refine kQw ?_ ?_ | refine kQm ?_ ?_ | refine kQj ?_ ?_ | refine kQc ?_ ?_ | refine kQs ?_ ?_ ?_ | exact OLe.mapS0 rfl)) <;> try exact kZ
  rintro ⟨i, hi⟩
  have hi : i ≤ sg.length := hi
  show lpE [(5, oV 5 (upL sg at_ i)), (13, _)] _ _ fun e => lpH (oH 5 (upL sg at_ i)) _ [] fun h => _
  have hul := upL_len sg at_ i
  cases hxi : sg[i]? with
  | some y =>
    have hlt : i < sg.length := (List.getElem?_eq_some_iff.1 hxi).1
    have hyes : ((i : Int) < ((sg.map eI).length : Int)) := by rw [List.length_map]; omega
    have hsf : sgF sg i = y := by simp [sgF, List.getD, hxi]
    have hfa := upL_succ sg at_ i
    have hy1 : upB sg at_ i = (decide (0 ≤ y) && decide (y ≤ at_)) := by unfold upB; rw [hsf]
    cases hG : upL sg at_ i with
    | nil =>
      repeat' (first | exact cl1 | (refine stx ?_; first | exact exHM _ | refine exU8 ?_) | ((fail_if_success refine stp ?_); (conv => whnf) <;> (first | exact cl2 | refine kBy hyes fun hc => ?_ | refine ix_at hxi ?_ | refine kX ?_ | refine kP ?_ | refine kBd (fun hc => ?_) (fun hc => ?_) | refine kT ?_ | refine kF ?_ | refine kN ?_ | refine kBm (fun hc => ?_) (fun hc => ?_) | refine kO ?_ | refine kS ?_ | refine kA ?_ | exact PV.leL_nil | refine kC ?_ ?_ | refine And.intro ?_ ?_ | refine ix_map (fun x hx => ?_) | refine exU8 ?_ | refine nilc (fun hn => ?_) ?_ | exact cl3 | refine imp0 (fun hpos => ?_) | refine kG ?_ ?_ | exact rfl | exact trivial | (first | refine stq ?_ | fail)))) <;> (try exact cl5)
      all_goals first
      | (have hs1 : upB sg at_ i = true := by rw [hy1]; simp; omega
         refine ⟨⟨i + 1, hlt⟩, by show sg.length - (i + 1) < sg.length - i; omega, ?_⟩
         show Ent _ _ (hdS [0, 1, 2, 4, 5, 6, 7, 11, 12, 13, 14, 24] _ _ _ [(5, oV 5 (upL sg at_ (i + 1))), (13, .p (eI ((i + 1 : Nat) : Int)))] (oH 5 (upL sg at_ (i + 1))) _)
         rw [hfa, hG, if_pos hs1]
         (first | refine Ent.ofA [] ?_ | refine Ent.ofC [] ?_) <;> (repeat' (first | exact trivial | refine kHd ?_ | refine kHm rfl (by simp) rfl (fun h => AObj.noConfusion h) ?_ ?_ | refine And.intro ?_ ?_ | exact cl9 | refine kVp ?_ | refine kVa ?_ | refine kVt ?_ | refine kVf ?_ ?_ | refine kVc ?_ ?_ | exact VLeL.nil | exact OLe.row _ _ | rfl | refine VLe.rsle rfl ?_ ?_ ?_ | refine kQw ?_ ?_ | refine kQm ?_ ?_ | refine kQj ?_ ?_ | refine kQc ?_ ?_ | refine kQs ?_ ?_ ?_ | exact OLe.mapS0 rfl)) <;> try exact kZ)
      | (have hs1 : upB sg at_ i = false := by rw [hy1]; simp; omega
         refine ⟨⟨i + 1, hlt⟩, by show sg.length - (i + 1) < sg.length - i; omega, ?_⟩
         show Ent _ _ (hdS [0, 1, 2, 4, 5, 6, 7, 11, 12, 13, 14, 24] _ _ _ [(5, oV 5 (upL sg at_ (i + 1))), (13, .p (eI ((i + 1 : Nat) : Int)))] (oH 5 (upL sg at_ (i + 1))) _)
         rw [hfa, hG, if_neg (by rw [hs1]; exact Bool.false_ne_true), List.append_nil]
         (first | refine Ent.ofA [] ?_ | refine Ent.ofC [] ?_) <;> (repeat' (first | exact trivial | refine kHd ?_ | refine kHm rfl (by simp) rfl (fun h => AObj.noConfusion h) ?_ ?_ | refine And.intro ?_ ?_ | exact cl9 | refine kVp ?_ | refine kVa ?_ | refine kVt ?_ | refine kVf ?_ ?_ | refine kVc ?_ ?_ | exact VLeL.nil | exact OLe.row _ _ | rfl | refine VLe.rsle rfl ?_ ?_ ?_ | refine kQw ?_ ?_ | refine kQm ?_ ?_ | refine kQj ?_ ?_ | refine kQc ?_ ?_ | refine kQs ?_ ?_ ?_ | exact OLe.mapS0 rfl)) <;> try exact kZ)
      | trace_state
    | cons g gr =>
      have hgl : gr.length ≤ 20 := by have h := hul; rw [hG] at h; simp at h; omega
      repeat' (first | exact cl1 | (refine stx ?_; first | exact exHM _ | refine exU8 ?_) | ((fail_if_success refine stp ?_); (conv => whnf) <;> (first | exact cl2 | refine kBy hyes fun hc => ?_ | refine ix_at hxi ?_ | refine kX ?_ | refine kP ?_ | refine kBd (fun hc => ?_) (fun hc => ?_) | refine kT ?_ | refine kF ?_ | refine kN ?_ | refine kBm (fun hc => ?_) (fun hc => ?_) | refine kO ?_ | refine kS ?_ | refine kA ?_ | exact PV.leL_nil | refine kC ?_ ?_ | refine And.intro ?_ ?_ | refine ix_map (fun x hx => ?_) | refine exU8 ?_ | refine nilc (fun hn => ?_) ?_ | exact cl3 | refine imp0 (fun hpos => ?_) | refine kG ?_ ?_ | exact rfl | exact trivial | (first | refine stq ?_ | fail)))) <;> (try exact cl5)
      all_goals first
      | (have hs1 : upB sg at_ i = true := by rw [hy1]; simp; omega
         refine ⟨⟨i + 1, hlt⟩, by show sg.length - (i + 1) < sg.length - i; omega, ?_⟩
         show Ent _ _ (hdS [0, 1, 2, 4, 5, 6, 7, 11, 12, 13, 14, 24] _ _ _ [(5, oV 5 (upL sg at_ (i + 1))), (13, .p (eI ((i + 1 : Nat) : Int)))] (oH 5 (upL sg at_ (i + 1))) _)
         rw [hfa, hG, if_pos hs1]
         (first | refine Ent.ofA [] ?_ | refine Ent.ofC [] ?_) <;> (repeat' (first | exact trivial | refine kHd ?_ | refine kHm rfl (by simp) rfl (fun h => AObj.noConfusion h) ?_ ?_ | refine And.intro ?_ ?_ | exact cl9 | refine kVp ?_ | refine kVa ?_ | refine kVt ?_ | refine kVf ?_ ?_ | refine kVc ?_ ?_ | exact VLeL.nil | exact OLe.row _ _ | rfl | refine VLe.rsle rfl ?_ ?_ ?_ | refine kQw ?_ ?_ | refine kQm ?_ ?_ | refine kQj ?_ ?_ | refine kQc ?_ ?_ | refine kQs ?_ ?_ ?_ | exact OLe.mapS0 rfl)) <;> try exact kZ
         all_goals (try (show List.map eN (g :: gr) ++ [eN i] = List.map eN (g :: (gr ++ [i])); simp; done)))
      | (have hs1 : upB sg at_ i = false := by rw [hy1]; simp; omega
         refine ⟨⟨i + 1, hlt⟩, by show sg.length - (i + 1) < sg.length - i; omega, ?_⟩
         show Ent _ _ (hdS [0, 1, 2, 4, 5, 6, 7, 11, 12, 13, 14, 24] _ _ _ [(5, oV 5 (upL sg at_ (i + 1))), (13, .p (eI ((i + 1 : Nat) : Int)))] (oH 5 (upL sg at_ (i + 1))) _)
         rw [hfa, hG, if_neg (by rw [hs1]; exact Bool.false_ne_true), List.append_nil]
         (first | refine Ent.ofA [] ?_ | refine Ent.ofC [] ?_) <;> (repeat' (first | exact trivial | refine kHd ?_ | refine kHm rfl (by simp) rfl (fun h => AObj.noConfusion h) ?_ ?_ | refine And.intro ?_ ?_ | exact cl9 | refine kVp ?_ | refine kVa ?_ | refine kVt ?_ | refine kVf ?_ ?_ | refine kVc ?_ ?_ | exact VLeL.nil | exact OLe.row _ _ | rfl | refine VLe.rsle rfl ?_ ?_ ?_ | refine kQw ?_ ?_ | refine kQm ?_ ?_ | refine kQj ?_ ?_ | refine kQc ?_ ?_ | refine kQs ?_ ?_ ?_ | exact OLe.mapS0 rfl)) <;> try exact kZ)
      | trace_state
  | none =>
    have hge : sg.length ≤ i := List.getElem?_eq_none_iff.1 hxi
    have hno : ¬ ((i : Int) < ((sg.map eI).length : Int)) := by rw [List.length_map]; omega
    have hil : i = sg.length := by omega
    have ho : ordL sg at_ = (upL sg at_ i).foldl (insR (sgF sg)) [] := by rw [hil]; rfl
    have hx : ∀ j ∈ upL sg at_ i, j < sg.length := fun j hj => by have := (upL_lt hj).1; omega
    rw [ho]
    cases hG : upL sg at_ i with
    | nil =>
      have q := sortN_icalls l sg D K n1 n2
      have q2 := values_calls []
      repeat' (first | exact cl1 | (refine stx ?_; first | exact exHM _ | refine exU8 ?_) | ((with_reducible show callX _ _ _ _ _); (first | refine call_i [0, 1, 2, 3, 4] (q) (by kernel_rfl) rfl rfl (by decide) cl6 (fun i hi => by match i, hi with | 0, _ => rfl | 1, _ => rfl | 2, _ => rfl | 3, _ => rfl | 4, _ => rfl) cl7 cl8 (by simp [keys]) ?_ | (refine call_z (q2) (by kernel_rfl) rfl ?_; (repeat' (first | exact PV.leL_nil | refine kC ?_ ?_ | refine And.intro ?_ ?_ | exact Nat.zero_lt_succ _ | exact Nat.le_of_ble_eq_true rfl | exact PV.le_refl _ | exact PV.le_nil _ _ _ | exact PV.le_clip _ _ _ | refine PV.le_agg ?_ | refine PV.le_tup ?_ | rfl)); fail_if_success (any_goals (refine PV.le_of ?_))))) | ((fail_if_success refine stp ?_); (conv => whnf) <;> (first | exact cl2 | refine kBn hno fun hc => ?_ | refine kX ?_ | refine kP ?_ | refine kBd (fun hc => ?_) (fun hc => ?_) | refine kT ?_ | refine kF ?_ | refine kN ?_ | refine kBm (fun hc => ?_) (fun hc => ?_) | refine kO ?_ | refine kS ?_ | refine kA ?_ | exact PV.leL_nil | refine kC ?_ ?_ | refine And.intro ?_ ?_ | refine ix_map (fun x hx => ?_) | refine exU8 ?_ | refine nilc (fun hn => ?_) ?_ | exact cl3 | refine imp0 (fun hpos => ?_) | refine kG ?_ ?_ | exact rfl | exact trivial | (first | refine stq ?_ | fail)))) <;> (try exact cl5)
      refine ⟨[], [(0, 0), (1, 1), (2, 2), (3, 3)], ?_, ?_, by decide, by simp, fun i hi => by match i, hi with | 0, _ => rfl | 1, _ => rfl | 2, _ => rfl | 3, _ => rfl⟩ <;> (repeat' (first | exact trivial | refine kHd ?_ | refine kHm rfl (by simp) rfl (fun h => AObj.noConfusion h) ?_ ?_ | refine And.intro ?_ ?_ | exact cl9 | refine kVp ?_ | refine kVa ?_ | refine kVt ?_ | refine kVf ?_ ?_ | refine kVc ?_ ?_ | exact VLeL.nil | exact OLe.row _ _ | rfl | refine VLe.rsle rfl ?_ ?_ ?_ | refine kQw ?_ ?_ | refine kQm ?_ ?_ | refine kQj ?_ ?_ | refine kQc ?_ ?_ | refine kQs ?_ ?_ ?_ | exact OLe.mapS0 rfl))
    | cons g gr =>
      rw [hG] at hx hul
      have q := sort_icalls l sg D K n1 n2 (g :: gr) hx (by omega) (by omega)
      have q2 := values_calls ((g :: gr).foldl (insR (sgF sg)) [])
      have hfl : ((g :: gr).foldl (insR (sgF sg)) []).length = gr.length + 1 := by rw [foldl_len]; simp
      repeat' (first | exact cl1 | (refine stx ?_; first | exact exHM _ | refine exU8 ?_) | ((with_reducible show callX _ _ _ _ _); (first | refine call_i [0, 1, 2, 3, 4, 5] (q) (by kernel_rfl) rfl rfl (by decide) cl6 (fun i hi => by match i, hi with | 0, _ => rfl | 1, _ => rfl | 2, _ => rfl | 3, _ => rfl | 4, _ => rfl | 5, _ => rfl) cl7 cl8 (by simp [keys]) ?_ | (refine call_z q2 (by kernel_rfl) rfl ?_; refine And.intro ⟨rfl, Nat.zero_lt_succ _, (by simp only [List.length_map, hfl]; omega)⟩ ?_))) | ((fail_if_success refine stp ?_); (conv => whnf) <;> (first | exact cl2 | refine kBn hno fun hc => ?_ | refine kX ?_ | refine kP ?_ | refine kBd (fun hc => ?_) (fun hc => ?_) | refine kT ?_ | refine kF ?_ | refine kN ?_ | refine kBm (fun hc => ?_) (fun hc => ?_) | refine kO ?_ | refine kS ?_ | refine kA ?_ | exact PV.leL_nil | refine kC ?_ ?_ | refine And.intro ?_ ?_ | refine ix_map (fun x hx => ?_) | refine exU8 ?_ | refine nilc (fun hn => ?_) ?_ | (refine call_z q2 (by kernel_rfl) rfl ?_; refine And.intro ⟨rfl, Nat.zero_lt_succ _, (by simp only [List.length_map, hfl]; omega)⟩ ?_) | exact cl3 | refine imp0 (fun hpos => ?_) | refine kG ?_ ?_ | exact rfl | exact trivial | (first | refine stq ?_ | fail)))) <;> (try exact cl5)
      · rw [List.drop_zero, List.take_of_length_le (by rw [List.length_map, hfl]; exact Nat.le_refl _)]; exact PV.le_refl _
      · refine ⟨[], [(0, 0), (1, 1), (2, 2), (3, 3)], ?_, ?_, by decide, by simp, fun i hi => by match i, hi with | 0, _ => rfl | 1, _ => rfl | 2, _ => rfl | 3, _ => rfl⟩ <;> (repeat' (first | exact trivial | refine kHd ?_ | refine kHm rfl (by simp) rfl (fun h => AObj.noConfusion h) ?_ ?_ | refine And.intro ?_ ?_ | exact cl9 | refine kVp ?_ | refine kVa ?_ | refine kVt ?_ | refine kVf ?_ ?_ | refine kVc ?_ ?_ | exact VLeL.nil | exact OLe.row _ _ | rfl | refine VLe.rsle rfl ?_ ?_ ?_ | refine kQw ?_ ?_ | refine kQm ?_ ?_ | refine kQj ?_ ?_ | refine kQc ?_ ?_ | refine kQs ?_ ?_ ?_ | exact OLe.mapS0 rfl))
end Go.Proofs.Ytgclicahmbgfiaa

namespace Go.Proofs.Ytgclicahmbgfiaa
open Go Go.Sg
def goneB (L : List Dc) (t : Int) : Bool := (aget t (atM L)).isNone
def capS (L : List Dc) : PV := .ro [eL L, eAt (atM L)]
theorem gone_calls (L : List Dc) (t : Int) : PCalls Try.prog 63 [eI t, capS L] (.bool (goneB L t)) := by
  refine PCalls.of (N := 15) (res := [.tmp 3]) mixed Try.func63 rfl rfl rfl (by kernel_rfl) (by simp) [0, 1, 3, 5] ?_
  repeat' (first | exact cl1 | (refine stx ?_; first | exact exHM _ | refine exU8 ?_) | ((fail_if_success refine stp ?_); (conv => whnf) <;> (first | exact cl2 | refine Opt.of (mfind_map eI keyI t (atM L)) (fun z hz => ?_) (fun hz => ?_) | refine kX ?_ | refine kP ?_ | refine kBd (fun hc => ?_) (fun hc => ?_) | refine kT ?_ | refine kF ?_ | refine kN ?_ | refine kBm (fun hc => ?_) (fun hc => ?_) | refine kO ?_ | refine kS ?_ | refine kA ?_ | exact PV.leL_nil | refine kC ?_ ?_ | refine And.intro ?_ ?_ | refine ix_map (fun x hx => ?_) | refine exU8 ?_ | refine nilc (fun hn => ?_) ?_ | exact cl3 | refine imp0 (fun hpos => ?_) | refine kG ?_ ?_ | exact rfl | exact trivial | (first | refine stq ?_ | fail)))) <;> (try exact cl5)
  all_goals (refine LeG.bool ?_; unfold goneB; rw [hz]; rfl)
theorem indexGone_calls (L : List Dc) (l : List Int) (hl : l.length < 1000000) : PCalls Try.prog 64 [eIs l, .fn (.func 63) [] [capS L]] (.bool (l.any fun t => goneB L t)) := by
  have q1 : ∃ k : Int, PCalls Try.prog 83 [eIs l, .fn (.func 63) [] [capS L]] (eI k) ∧ (decide (0 ≤ k) = l.any fun t => goneB L t) := by
    generalize hP : (fun t : Int => goneB L t) = p
    have hp : ∀ t, PCalls Try.prog 63 [eI t, capS L] (.bool (p t)) := fun t => by rw [← hP]; exact gone_calls L t
    cases hF : l.findIdx? p with
    | none =>
      have hn : ∀ x ∈ l, p x = false := fun x hx => by simpa using List.findIdx?_eq_none_iff.1 hF x hx
      refine ⟨-1, ?_, ?_⟩
      · refine PCalls.of (N := 19) (res := [.tmp 4]) mixed Try.func83 rfl rfl rfl (by kernel_rfl) (by simp) [0, 1, 4, 5, 7, 8, 9, 16] ?_
        repeat' (first | exact cl1 | (refine stx ?_; first | exact exHM _ | refine exU8 ?_) | ((fail_if_success refine stp ?_); (conv => whnf) <;> (first | exact cl2 | refine kX ?_ | refine kP ?_ | refine kBd (fun hc => ?_) (fun hc => ?_) | refine kT ?_ | refine kF ?_ | refine kN ?_ | refine kBm (fun hc => ?_) (fun hc => ?_) | refine kO ?_ | refine kS ?_ | refine kA ?_ | exact PV.leL_nil | refine kC ?_ ?_ | refine And.intro ?_ ?_ | refine ix_map (fun x hx => ?_) | refine exU8 ?_ | refine nilc (fun hn => ?_) ?_ | exact cl3 | refine imp0 (fun hpos => ?_) | refine kG ?_ ?_ | exact rfl | exact trivial | (first | refine stq ?_ | fail)))) <;> (try exact cl5)
        refine Wpc.loopB (α := {i : Nat // i ≤ l.length}) mixed [0, 1, 4, 5, 7, 8, 9, 16] (fun i => [(8, .p (eI i.1))]) (fun i => l.length - i.1) ⟨0, by omega⟩ ?_ ?_
        · (first | refine Ent.ofA [] ?_ | refine Ent.ofC [] ?_) <;> (repeat' (first | exact trivial | refine kHd ?_ | refine kHm rfl (by simp) rfl (fun h => AObj.noConfusion h) ?_ ?_ | refine And.intro ?_ ?_ | exact cl9 | refine kVp ?_ | refine kVa ?_ | refine kVt ?_ | refine kVf ?_ ?_ | refine kVc ?_ ?_ | exact VLeL.nil | exact OLe.row _ _ | rfl | refine VLe.rsle rfl ?_ ?_ ?_ | refine kQw ?_ ?_ | refine kQm ?_ ?_ | refine kQj ?_ ?_ | refine kQc ?_ ?_ | refine kQs ?_ ?_ ?_ | exact OLe.mapS0 rfl)) <;> try exact kZ
        rintro ⟨i, hi⟩
        have hi : i ≤ l.length := hi
        cases hx : l[i]? with
        | none =>
          have hge : l.length ≤ i := List.getElem?_eq_none_iff.1 hx
          have hno : ¬ ((i : Int) < ((l.map eI).length : Int)) := by rw [List.length_map]; omega
          repeat' (first | exact cl1 | (refine stx ?_; first | exact exHM _ | refine exU8 ?_) | ((fail_if_success refine stp ?_); (conv => whnf) <;> (first | exact cl2 | refine kBn hno fun hc => ?_ | refine kX ?_ | refine kP ?_ | refine kBd (fun hc => ?_) (fun hc => ?_) | refine kT ?_ | refine kF ?_ | refine kN ?_ | refine kBm (fun hc => ?_) (fun hc => ?_) | refine kO ?_ | refine kS ?_ | refine kA ?_ | exact PV.leL_nil | refine kC ?_ ?_ | refine And.intro ?_ ?_ | refine ix_map (fun x hx => ?_) | refine exU8 ?_ | refine nilc (fun hn => ?_) ?_ | exact cl3 | refine imp0 (fun hpos => ?_) | refine kG ?_ ?_ | exact rfl | exact trivial | (first | refine stq ?_ | fail)))) <;> (try exact cl5)
        | some x =>
          have hlt : i < l.length := (List.getElem?_eq_some_iff.1 hx).1
          have hyes : ((i : Int) < ((l.map eI).length : Int)) := by rw [List.length_map]; omega
          have q := hp x
          rw [hn x (List.mem_of_getElem? hx)] at q
          repeat' (first | exact cl1 | (refine stx ?_; first | exact exHM _ | refine exU8 ?_) | ((with_reducible show callX _ _ _ _ _); (first | refine call_p (q) (by kernel_rfl) rfl ?_)) | ((fail_if_success refine stp ?_); (conv => whnf) <;> (first | exact cl2 | refine kBy hyes fun hc => ?_ | refine ix_at hx ?_ | refine kX ?_ | refine kP ?_ | refine kBd (fun hc => ?_) (fun hc => ?_) | refine kT ?_ | refine kF ?_ | refine kN ?_ | refine kBm (fun hc => ?_) (fun hc => ?_) | refine kO ?_ | refine kS ?_ | refine kA ?_ | exact PV.leL_nil | refine kC ?_ ?_ | refine And.intro ?_ ?_ | refine ix_map (fun x hx => ?_) | refine exU8 ?_ | refine nilc (fun hn => ?_) ?_ | exact cl3 | refine imp0 (fun hpos => ?_) | refine kG ?_ ?_ | exact rfl | exact trivial | (first | refine stq ?_ | fail)))) <;> (try exact cl5)
          refine ⟨⟨i + 1, hlt⟩, by show l.length - (i + 1) < l.length - i; omega, ?_⟩
          (first | refine Ent.ofA [] ?_ | refine Ent.ofC [] ?_) <;> (repeat' (first | exact trivial | refine kHd ?_ | refine kHm rfl (by simp) rfl (fun h => AObj.noConfusion h) ?_ ?_ | refine And.intro ?_ ?_ | exact cl9 | refine kVp ?_ | refine kVa ?_ | refine kVt ?_ | refine kVf ?_ ?_ | refine kVc ?_ ?_ | exact VLeL.nil | exact OLe.row _ _ | rfl | refine VLe.rsle rfl ?_ ?_ ?_ | refine kQw ?_ ?_ | refine kQm ?_ ?_ | refine kQj ?_ ?_ | refine kQc ?_ ?_ | refine kQs ?_ ?_ ?_ | exact OLe.mapS0 rfl)) <;> try exact kZ
      · rw [show l.any p = false from List.any_eq_false.2 fun x hx => by rw [hn x hx]; exact Bool.false_ne_true]; rfl
    | some n =>
      obtain ⟨hnl, hpn, hbef⟩ := List.findIdx?_eq_some_iff_getElem.1 hF
      refine ⟨n, ?_, ?_⟩
      · refine PCalls.of (N := 19) (res := [.tmp 4]) mixed Try.func83 rfl rfl rfl (by kernel_rfl) (by simp) [0, 1, 4, 5, 7, 8, 9, 16] ?_
        repeat' (first | exact cl1 | (refine stx ?_; first | exact exHM _ | refine exU8 ?_) | ((fail_if_success refine stp ?_); (conv => whnf) <;> (first | exact cl2 | refine kX ?_ | refine kP ?_ | refine kBd (fun hc => ?_) (fun hc => ?_) | refine kT ?_ | refine kF ?_ | refine kN ?_ | refine kBm (fun hc => ?_) (fun hc => ?_) | refine kO ?_ | refine kS ?_ | refine kA ?_ | exact PV.leL_nil | refine kC ?_ ?_ | refine And.intro ?_ ?_ | refine ix_map (fun x hx => ?_) | refine exU8 ?_ | refine nilc (fun hn => ?_) ?_ | exact cl3 | refine imp0 (fun hpos => ?_) | refine kG ?_ ?_ | exact rfl | exact trivial | (first | refine stq ?_ | fail)))) <;> (try exact cl5)
        refine Wpc.loopB (α := {i : Nat // i ≤ n}) mixed [0, 1, 4, 5, 7, 8, 9, 16] (fun i => [(8, .p (eI i.1))]) (fun i => l.length - i.1) ⟨0, by omega⟩ ?_ ?_
        · (first | refine Ent.ofA [] ?_ | refine Ent.ofC [] ?_) <;> (repeat' (first | exact trivial | refine kHd ?_ | refine kHm rfl (by simp) rfl (fun h => AObj.noConfusion h) ?_ ?_ | refine And.intro ?_ ?_ | exact cl9 | refine kVp ?_ | refine kVa ?_ | refine kVt ?_ | refine kVf ?_ ?_ | refine kVc ?_ ?_ | exact VLeL.nil | exact OLe.row _ _ | rfl | refine VLe.rsle rfl ?_ ?_ ?_ | refine kQw ?_ ?_ | refine kQm ?_ ?_ | refine kQj ?_ ?_ | refine kQc ?_ ?_ | refine kQs ?_ ?_ ?_ | exact OLe.mapS0 rfl)) <;> try exact kZ
        rintro ⟨i, hi⟩
        have hi : i ≤ n := hi
        have hlt : i < l.length := by omega
        have hx : l[i]? = some l[i] := List.getElem?_eq_getElem hlt
        have hyes : ((i : Int) < ((l.map eI).length : Int)) := by rw [List.length_map]; omega
        have q := hp l[i]
        by_cases hin : i = n
        · subst hin
          rw [hpn] at q
          repeat' (first | exact cl1 | (refine stx ?_; first | exact exHM _ | refine exU8 ?_) | ((with_reducible show callX _ _ _ _ _); (first | refine call_p (q) (by kernel_rfl) rfl ?_)) | ((fail_if_success refine stp ?_); (conv => whnf) <;> (first | exact cl2 | refine kBy hyes fun hc => ?_ | refine ix_at hx ?_ | refine kX ?_ | refine kP ?_ | refine kBd (fun hc => ?_) (fun hc => ?_) | refine kT ?_ | refine kF ?_ | refine kN ?_ | refine kBm (fun hc => ?_) (fun hc => ?_) | refine kO ?_ | refine kS ?_ | refine kA ?_ | exact PV.leL_nil | refine kC ?_ ?_ | refine And.intro ?_ ?_ | refine ix_map (fun x hx => ?_) | refine exU8 ?_ | refine nilc (fun hn => ?_) ?_ | exact cl3 | refine imp0 (fun hpos => ?_) | refine kG ?_ ?_ | exact rfl | exact trivial | (first | refine stq ?_ | fail)))) <;> (try exact cl5)
        · have hb := hbef i (by omega)
          rw [show p l[i] = false by simpa using hb] at q
          repeat' (first | exact cl1 | (refine stx ?_; first | exact exHM _ | refine exU8 ?_) | ((with_reducible show callX _ _ _ _ _); (first | refine call_p (q) (by kernel_rfl) rfl ?_)) | ((fail_if_success refine stp ?_); (conv => whnf) <;> (first | exact cl2 | refine kBy hyes fun hc => ?_ | refine ix_at hx ?_ | refine kX ?_ | refine kP ?_ | refine kBd (fun hc => ?_) (fun hc => ?_) | refine kT ?_ | refine kF ?_ | refine kN ?_ | refine kBm (fun hc => ?_) (fun hc => ?_) | refine kO ?_ | refine kS ?_ | refine kA ?_ | exact PV.leL_nil | refine kC ?_ ?_ | refine And.intro ?_ ?_ | refine ix_map (fun x hx => ?_) | refine exU8 ?_ | refine nilc (fun hn => ?_) ?_ | exact cl3 | refine imp0 (fun hpos => ?_) | refine kG ?_ ?_ | exact rfl | exact trivial | (first | refine stq ?_ | fail)))) <;> (try exact cl5)
          refine ⟨⟨i + 1, by omega⟩, by show l.length - (i + 1) < l.length - i; omega, ?_⟩
          (first | refine Ent.ofA [] ?_ | refine Ent.ofC [] ?_) <;> (repeat' (first | exact trivial | refine kHd ?_ | refine kHm rfl (by simp) rfl (fun h => AObj.noConfusion h) ?_ ?_ | refine And.intro ?_ ?_ | exact cl9 | refine kVp ?_ | refine kVa ?_ | refine kVt ?_ | refine kVf ?_ ?_ | refine kVc ?_ ?_ | exact VLeL.nil | exact OLe.row _ _ | rfl | refine VLe.rsle rfl ?_ ?_ ?_ | refine kQw ?_ ?_ | refine kQm ?_ ?_ | refine kQj ?_ ?_ | refine kQc ?_ ?_ | refine kQs ?_ ?_ ?_ | exact OLe.mapS0 rfl)) <;> try exact kZ
      · rw [show l.any p = true from List.any_eq_true.2 ⟨l[n], List.getElem_mem hnl, hpn⟩, decide_eq_true (by omega)]
  obtain ⟨k, q1, e⟩ := q1
  rw [← e]
  refine PCalls.of (N := 9) (res := [.tmp 4]) mixed Try.func64 rfl rfl rfl (by kernel_rfl) (by simp) [0, 1, 4] ?_
  repeat' (first | exact cl1 | (refine stx ?_; first | exact exHM _ | refine exU8 ?_) | ((with_reducible show callX _ _ _ _ _); (first | refine call_p (q1) (by kernel_rfl) rfl ?_)) | ((fail_if_success refine stp ?_); (conv => whnf) <;> (first | exact cl2 | refine kX ?_ | refine kP ?_ | refine kBd (fun hc => ?_) (fun hc => ?_) | refine kT ?_ | refine kF ?_ | refine kN ?_ | refine kBm (fun hc => ?_) (fun hc => ?_) | refine kO ?_ | refine kS ?_ | refine kA ?_ | exact PV.leL_nil | refine kC ?_ ?_ | refine And.intro ?_ ?_ | refine ix_map (fun x hx => ?_) | refine exU8 ?_ | refine nilc (fun hn => ?_) ?_ | exact cl3 | refine imp0 (fun hpos => ?_) | refine kG ?_ ?_ | exact rfl | exact trivial | (first | refine stq ?_ | fail)))) <;> (try exact cl5)
  all_goals (refine LeG.bool ?_; simp)
theorem atF_none {L : List Dc} {t : Int} : ∀ n, aget t (atF L n) = none ↔ ∀ j w, j < n → L[j]? = some w → w.no ≠ t
  | 0 => ⟨fun _ j w h => by omega, fun _ => rfl⟩
  | n + 1 => by
    have ih := atF_none (L := L) (t := t) n
    cases hn : L[n]? with
    | none =>
      rw [atF, hn]
      refine ih.trans ⟨fun h j w hj hw => ?_, fun h j w hj hw => h j w (by omega) hw⟩
      rcases Nat.lt_succ_iff_lt_or_eq.1 hj with h1 | h1
      · exact h j w h1 hw
      · rw [h1, hn] at hw; cases hw
    | some d =>
      rw [atF_succ hn, aget_put]
      by_cases hd : t = d.no
      · rw [if_pos hd]
        exact ⟨fun h => (by cases h), fun h => absurd hd.symm (h n d (by omega) hn)⟩
      · rw [if_neg hd]
        refine ih.trans ⟨fun h j w hj hw => ?_, fun h j w hj hw => h j w (by omega) hw⟩
        rcases Nat.lt_succ_iff_lt_or_eq.1 hj with h1 | h1
        · exact h j w h1 hw
        · rw [h1, hn] at hw; injection hw with hw; subst hw; exact fun e => hd e.symm
theorem atF_some {L : List Dc} {t k : Int} : ∀ n, aget t (atF L n) = some k → ∃ (j : Nat) (w : Dc), k = j ∧ j < n ∧ L[j]? = some w ∧ w.no = t
  | 0, h => by cases h
  | n + 1, h => by
    have ih := atF_some (L := L) (t := t) (k := k) n
    cases hn : L[n]? with
    | none =>
      rw [atF, hn] at h
      obtain ⟨j, w, h1, h2, h3⟩ := ih h
      exact ⟨j, w, h1, by omega, h3⟩
    | some d =>
      rw [atF_succ hn, aget_put] at h
      by_cases hd : t = d.no
      · rw [if_pos hd] at h
        injection h with h
        exact ⟨n, d, h.symm, by omega, hn, hd.symm⟩
      · rw [if_neg hd] at h
        obtain ⟨j, w, h1, h2, h3⟩ := ih h
        exact ⟨j, w, h1, by omega, h3⟩
theorem goneB_eq (L : List Dc) (t : Int) : goneB L t = !(L.any fun x => decide (x.no = t)) := by
  unfold goneB atM
  cases h : aget t (atF L L.length) with
  | none =>
    have h1 := (atF_none L.length).1 h
    rw [List.any_eq_false.2 fun x hx e => by
      obtain ⟨j, hj⟩ := List.getElem?_of_mem hx
      exact h1 j x (List.getElem?_eq_some_iff.1 hj).1 hj (of_decide_eq_true e)]
    rfl
  | some k =>
    obtain ⟨j, w, _, _, hw, e⟩ := atF_some L.length h
    rw [List.any_eq_true.2 ⟨w, List.mem_of_getElem? hw, decide_eq_true e⟩]
    rfl
theorem gone_all (L : List Dc) : ∀ P : List Int, (!P.any (goneB L)) = thB L P
  | [] => rfl
  | n :: r => by
    have ih := gone_all L r
    have e : thB L (n :: r) = ((L.any fun x => decide (x.no = n)) && thB L r) := rfl
    rw [e, ← ih, List.any_cons, goneB_eq]
    cases (L.any fun x => decide (x.no = n)) <;> simp
theorem has_shelf_calls (L : List Dc) (x : Dc) (h2 : x.rev.length < 1000000) (h3 : x.need.length < 1000000) : PCalls Try.prog 40 [eSh L, eA x] (.bool (namB L x)) := by
  have e : namB L x = (!x.rev.any (goneB L) && !x.need.any (goneB L)) := by unfold namB; rw [gone_all, gone_all]
  rw [e]
  have q1 := indexGone_calls L x.rev h2
  have q2 := indexGone_calls L x.need h3
  refine PCalls.of (N := 19) (res := [.tmp 4]) mixed Try.func40 rfl rfl rfl (by kernel_rfl) (by simp) [0, 1, 2, 3, 4, 5] ?_
  repeat' (first | exact cl1 | (refine stx ?_; first | exact exHM _ | refine exU8 ?_) | ((with_reducible show callX _ _ _ _ _); (first | refine call_p (q1) (by kernel_rfl) rfl ?_ | refine call_p (q2) (by kernel_rfl) rfl ?_)) | ((fail_if_success refine stp ?_); (conv => whnf) <;> (first | exact cl2 | refine Sq.fz (id := 2) [(5, false)] ?_ | refine kX ?_ | refine kP ?_ | refine kBd (fun hc => ?_) (fun hc => ?_) | refine kT ?_ | refine kF ?_ | refine kN ?_ | refine kBm (fun hc => ?_) (fun hc => ?_) | refine kO ?_ | refine kS ?_ | refine kA ?_ | exact PV.leL_nil | refine kC ?_ ?_ | refine And.intro ?_ ?_ | refine ix_map (fun x hx => ?_) | refine exU8 ?_ | refine nilc (fun hn => ?_) ?_ | exact cl3 | refine imp0 (fun hpos => ?_) | refine kG ?_ ?_ | exact rfl | exact trivial | (first | refine stq ?_ | fail)))) <;> (try exact cl5)
  · refine LeG.bool ?_
    rw [show x.rev.any (goneB L) = true from hc]; rfl
  · refine LeG.bool ?_
    rw [show x.rev.any (goneB L) = false from hc]; rfl
end Go.Proofs.Ytgclicahmbgfiaa

namespace Go.Proofs.Ytgclicahmbgfiaa
open Go Go.Sg
def pl0 (l : List Dc) : Pl := ⟨List.replicate l.length false, List.replicate l.length 0, []⟩
def ixF (l : List Dc) (no : Int) : Nat := ((aget no (atM l)).getD 0).toNat
def lackS (l : List Dc) (p : Pl) (t acc no : Int) : Int := if (stA l p (ixF l no) t).1 ≠ 0 then no else acc
def needF (l : List Dc) (p : Pl) (t : Int) (needs : List Int) : Int := needs.reverse.foldl (lackS l p t) (-1)
def addR (no : Int) (m : List (Int × List Int)) (n : Int) : List (Int × List Int) := aput n ((aget n m).getD [] ++ [no]) m
def stepP (l : List Dc) (sg : List Int) (p : Pl) (i : Nat) : Pl :=
  match l[i]? with
  | none => p
  | some d => ⟨p.dn.set i true, p.lk.set i (needF l p (sgF sg i) d.need), if needF l p (sgF sg i) d.need < 0 then d.rev.foldl (addR d.no) p.rv else p.rv⟩
def playP (l : List Dc) (sg : List Int) (o : List Nat) : Pl := o.foldl (stepP l sg) (pl0 l)
theorem playP_take {l : List Dc} {sg : List Int} {O : List Nat} {k i : Nat} (h : O[k]? = some i) : playP l sg (O.take (k + 1)) = stepP l sg (playP l sg (O.take k)) i := by
  unfold playP; rw [List.take_add_one, h]; simp [List.foldl_append]
theorem getD_set {α : Type} (l : List α) (i j : Nat) (v z : α) (h : i < l.length) : (l.set i v).getD j z = if j = i then v else l.getD j z := by
  simp only [List.getD, List.getElem?_set]
  by_cases hij : j = i
  · subst hij; simp [h]
  · rw [if_neg (fun e => hij e.symm), if_neg hij]
theorem stA_set {l : List Dc} {p : Pl} {i j : Nat} {v t : Int} (hi : i < p.lk.length) (h : p.dn.getD i false = false) : stA l ⟨p.dn, p.lk.set i v, p.rv⟩ j t = stA l p j t := by
  unfold stA
  cases l[j]? with
  | none => rfl
  | some d =>
    show (if p.dn.getD j false = false then _ else if 0 ≤ (p.lk.set i v).getD j 0 then (4, (p.lk.set i v).getD j 0) else _) = _
    by_cases hj : j = i
    · subst hj; rw [if_pos h]; show _ = (if p.dn.getD j false = false then _ else _); rw [if_pos h]
    · rw [getD_set _ _ _ _ _ hi, if_neg hj]
def Bd (m : List (Int × List Int)) (B : Nat) : Prop := ∀ n ls, aget n m = some ls → ls ≠ [] ∧ ls.length ≤ B
theorem Bd_add {no : Int} : ∀ (R : List Int) (m : List (Int × List Int)) (B : Nat), Bd m B → Bd (R.foldl (addR no) m) (B + R.length)
  | [], m, B, h => h
  | n :: r, m, B, h => by
    have h1 : Bd (addR no m n) (B + 1) := fun k ls hk => by
      unfold addR at hk
      rw [aget_put] at hk
      by_cases e : k = n
      · rw [if_pos e] at hk
        injection hk with hk; subst hk
        refine ⟨by simp, ?_⟩
        cases hg : aget n m with
        | none => simp
        | some z => have := (h n z hg).2; simp; omega
      · rw [if_neg e] at hk
        exact ⟨(h k ls hk).1, by have := (h k ls hk).2; omega⟩
    have := Bd_add (no := no) r _ _ h1
    rw [List.foldl_cons, List.length_cons]
    intro k ls hk
    have h2 := this k ls hk
    exact ⟨h2.1, by omega⟩
structure InP (l : List Dc) (p : Pl) (B : Nat) : Prop where
  dl : p.dn.length = l.length
  ll : p.lk.length = l.length
  bd : Bd p.rv B
theorem InP.step {l : List Dc} {sg : List Int} {p : Pl} {B : Nat} (hr : ∀ x ∈ l, x.rev.length ≤ 20) (h : InP l p B) (i : Nat) : InP l (stepP l sg p i) (B + 20) := by
  unfold stepP
  cases hd : l[i]? with
  | none => exact ⟨h.dl, h.ll, fun n ls hn => ⟨(h.bd n ls hn).1, by have := (h.bd n ls hn).2; omega⟩⟩
  | some d =>
    refine ⟨by simp [h.dl], by simp [h.ll], fun n ls hn => ?_⟩
    have hrl := hr d (List.mem_of_getElem? hd)
    simp only at hn
    split at hn
    · have := Bd_add (no := d.no) d.rev _ _ h.bd n ls hn
      exact ⟨this.1, by omega⟩
    · exact ⟨(h.bd n ls hn).1, by have := (h.bd n ls hn).2; omega⟩
theorem InP.fold {l : List Dc} {sg : List Int} (hr : ∀ x ∈ l, x.rev.length ≤ 20) : ∀ (o : List Nat) (p : Pl) (B : Nat), InP l p B → InP l (o.foldl (stepP l sg) p) (B + 20 * o.length)
  | [], p, B, h => h
  | i :: r, p, B, h => by
    have := InP.fold (sg := sg) hr r _ _ (h.step (sg := sg) hr i)
    rw [List.foldl_cons, List.length_cons, show B + 20 * (r.length + 1) = B + 20 + 20 * r.length by omega]
    exact this
theorem InP.play {l : List Dc} {sg : List Int} (hr : ∀ x ∈ l, x.rev.length ≤ 20) (o : List Nat) : InP l (playP l sg o) (20 * o.length) := by
  have := InP.fold (sg := sg) hr o (pl0 l) 0 ⟨by simp [pl0], by simp [pl0], fun n ls h => by cases h⟩
  rwa [Nat.zero_add] at this
theorem InP.ok {l : List Dc} {p : Pl} {B : Nat} (h : InP l p B) (hB : B < 1000000) : OkP l p := ⟨h.dl, h.ll, fun n ls hn => ⟨(h.bd n ls hn).1, by have := (h.bd n ls hn).2; omega⟩⟩
theorem dn_fold {l : List Dc} {sg : List Int} : ∀ (o : List Nat) (p : Pl), p.dn.length = l.length → (∀ i ∈ o, i < l.length) → ∀ j, (o.foldl (stepP l sg) p).dn.getD j false = (p.dn.getD j false || decide (j ∈ o))
  | [], p, _, _, j => by simp
  | i :: r, p, hp, ho, j => by
    have hil := ho i (by simp)
    have hd : l[i]? = some l[i] := List.getElem?_eq_getElem hil
    have e : (stepP l sg p i).dn = p.dn.set i true := by unfold stepP; rw [hd]
    rw [List.foldl_cons, dn_fold r _ (by rw [e]; simpa using hp) (fun x hx => ho x (by simp [hx])) j, e, getD_set _ _ _ _ _ (by omega)]
    by_cases hj : j = i
    · subst hj; simp
    · rw [if_neg hj]; simp [hj]
theorem play_dn {l : List Dc} {sg : List Int} (o : List Nat) (ho : ∀ i ∈ o, i < l.length) (j : Nat) : (playP l sg o).dn.getD j false = decide (j ∈ o) := by
  unfold playP
  rw [dn_fold o (pl0 l) (by simp [pl0]) ho j]
  have : (pl0 l).dn.getD j false = false := by
    simp only [pl0, List.getD, List.getElem?_replicate]
    split <;> rfl
  rw [this, Bool.false_or]
theorem insR_perm {f : Nat → Int} (out : List Nat) (x : Nat) : (insR f out x).Perm (x :: out) := by
  unfold insR
  refine List.perm_middle.trans ?_
  rw [List.take_append_drop]
theorem foldl_perm {f : Nat → Int} : ∀ (xs out : List Nat), (xs.foldl (insR f) out).Perm (xs ++ out)
  | [], out => List.Perm.refl _
  | x :: r, out => by
    rw [List.foldl_cons]
    refine (foldl_perm r _).trans ?_
    refine ((insR_perm out x).append_left r).trans ?_
    exact List.perm_middle
theorem ordL_perm (sg : List Int) (at_ : Int) : (ordL sg at_).Perm (upL sg at_ sg.length) := by
  have := foldl_perm (f := sgF sg) (upL sg at_ sg.length) []
  rwa [List.append_nil] at this
theorem ordL_nodup (sg : List Int) (at_ : Int) : (ordL sg at_).Nodup := by
  rw [(ordL_perm sg at_).nodup_iff]
  unfold upL
  exact List.Nodup.sublist List.filter_sublist List.nodup_range
theorem ordL_len (sg : List Int) (at_ : Int) : (ordL sg at_).length ≤ sg.length := by
  rw [(ordL_perm sg at_).length_eq]; exact upL_len sg at_ _
theorem ordL_mem {sg : List Int} {at_ : Int} {i : Nat} : i ∈ ordL sg at_ ↔ i < sg.length ∧ upB sg at_ i = true := by
  rw [(ordL_perm sg at_).mem_iff]; unfold upL; rw [List.mem_filter, List.mem_range]
theorem take_not {O : List Nat} {k i : Nat} (h : O[k]? = some i) (hn : O.Nodup) : i ∉ O.take k := by
  have hlt := (List.getElem?_eq_some_iff.1 h).1
  have e := (List.getElem?_eq_some_iff.1 h).2
  have hO : O.take k ++ i :: O.drop (k + 1) = O := by
    rw [← e, ← List.drop_eq_getElem_cons hlt, List.take_append_drop]
  rw [← hO] at hn
  intro hm
  exact (List.nodup_append.1 hn).2.2 i hm i (by simp) rfl
theorem need_take {α : Type} {need : List α} {k : Nat} (f : Int → α → Int) (hk : k < need.length) (z : Int) (x : α) (hx : need[need.length - 1 - k]? = some x) : (need.reverse.take (k + 1)).foldl f z = f ((need.reverse.take k).foldl f z) x := by
  have : need.reverse[k]? = some x := by rw [List.getElem?_reverse hk]; exact hx
  rw [List.take_add_one, this]; simp [List.foldl_append]
theorem addR_take {no : Int} {R : List Int} {m : List (Int × List Int)} {k : Nat} {x : Int} (h : R[k]? = some x) : (R.take (k + 1)).foldl (addR no) m = addR no ((R.take k).foldl (addR no) m) x := by
  rw [List.take_add_one, h]; simp [List.foldl_append]
theorem rvM_put (n : Int) (ls : List Int) (m : List (Int × List Int)) : mput (eI n) (.h (ls.map eI)) (hM (rvM m)) = hM (rvM (aput n ls m)) := by
  rw [mput_hM]
  exact congrArg hM (mput_map (fun l : List Int => l.map eI) keyI n ls m)
theorem ixF_of {l : List Dc} {no : Int} (h : (l.any fun x => decide (x.no = no)) = true) : ∃ (d : Dc), aget no (atM l) = some ((ixF l no : Nat) : Int) ∧ l[ixF l no]? = some d ∧ d.no = no := by
  have hg := goneB_eq l no
  rw [h] at hg
  unfold goneB at hg
  cases ha : aget no (atM l) with
  | none => rw [ha] at hg; cases hg
  | some k =>
    obtain ⟨j, w, e, _, hw, e2⟩ := atF_some l.length ha
    have e3 : ixF l no = j := by unfold ixF; rw [ha, e]; rfl
    exact ⟨w, by rw [e3, e], by rw [e3]; exact hw, e2⟩
end Go.Proofs.Ytgclicahmbgfiaa

namespace Go.Proofs.Ytgclicahmbgfiaa
open Go Go.Sg
def bef1 (s : Int) (i k : Nat) (t : Int) : Int := if s < t ∨ (t = s ∧ i ≤ k) then -1 else t
def befL (sg : List Int) (i : Nat) : List Int := sg.mapIdx fun k t => bef1 (sgF sg i) i k t
end Go.Proofs.Ytgclicahmbgfiaa

namespace Go.Proofs.Ytgclicahmbgfiaa
open Go Go.Sg
theorem played_icalls (l : List Dc) (sg : List Int) (at_ : Int) (hl : l.length ≤ 20) (hsl : sg.length = l.length) (hr : ∀ x ∈ l, x.rev.length ≤ 20 ∧ x.need.length ≤ 20) (hnm : ∀ x ∈ l, namB l x = true) :
    ICalls Try.prog 54 0 [] [.p (eL l), .p (eIs sg), .p (eI at_)] (.ptr 0 0) (hP l sg (playP l sg (ordL sg at_))) := by
  have hPi := InP.play (sg := sg) (fun x hx => (hr x hx).1) (ordL sg at_)
  have ePd : (playP l sg (ordL sg at_)).dn.length = l.length := hPi.dl
  have ePl : (playP l sg (ordL sg at_)).lk.length = l.length := hPi.ll
  have hnd := ordL_nodup sg at_
  show ICalls Try.prog 54 0 [] [.p (eL l), .p (eIs sg), .p (eI at_)] (.ptr 0 0) [(0, pC l sg (playP l sg (ordL sg at_)).dn.length (playP l sg (ordL sg at_)).lk.length), (1, .row 1 ((playP l sg (ordL sg at_)).dn.map PV.bool)), (2, .row 1 ((playP l sg (ordL sg at_)).lk.map eI)), (3, .mapS KTi 1 (hM (rvM (playP l sg (ordL sg at_)).rv)))]
  rw [ePd, ePl]
  have q1 := newShelf_calls l (by omega)
  have hn : (((l.map eA).length : Nat) : Int).toNat = l.length := by simp
  refine ICalls.of (N := 114) (res := [.tmp 6]) mixed Try.func54 rfl rfl rfl (by kernel_rfl) (by simp) [0, 1, 2, 4, 6, 7, 8, 9, 11, 12, 15, 30, 31, 48, 50, 68, 89, 91, 92, 93, 94] (Nat.le_refl _) ?_
  repeat' (first | exact cl1 | (refine stx ?_; first | exact exHM _ | refine exU8 ?_) | ((with_reducible show callX _ _ _ _ _); (first | refine call_p (q1) (by kernel_rfl) rfl ?_)) | ((fail_if_success refine stp ?_); (conv => whnf) <;> (first | exact cl2 | refine kX ?_ | refine kP ?_ | refine kBd (fun hc => ?_) (fun hc => ?_) | refine kT ?_ | refine kF ?_ | refine kN ?_ | refine kBm (fun hc => ?_) (fun hc => ?_) | refine kO ?_ | refine kS ?_ | refine kA ?_ | exact PV.leL_nil | refine kC ?_ ?_ | refine And.intro ?_ ?_ | refine ix_map (fun x hx => ?_) | refine exU8 ?_ | refine nilc (fun hn => ?_) ?_ | exact cl3 | refine imp0 (fun hpos => ?_) | refine kG ?_ ?_ | exact rfl | exact trivial | (first | refine stq ?_ | fail) | rw [tM85]))) <;> (try exact cl5)
  refine call_iE [832, 448, 640, 704] [(832, .cells [.p (eL l), .p (eAt (atM l)), .p (eIs sg), .rsl 448 1 0 l.length, .rsl 640 1 0 l.length, .mp 704]), (448, .row 1 ((pl0 l).dn.map PV.bool)), (640, .row 1 ((pl0 l).lk.map eI)), (704, .map KTi [])] (signings_icalls l sg ((pl0 l).dn.map PV.bool) ((pl0 l).lk.map eI) l.length l.length at_ (by omega)) (by kernel_rfl) rfl rfl (by decide) cl6
    (fun i hi => by
      match i, hi with
      | 0, _ =>
        show AObj.cells [.p (eL l), .p (eAt (atM l)), .p (eIs sg), .rsl 448 1 0 (((l.map eA).length : Nat) : Int).toNat, .rsl 640 1 0 (((l.map eA).length : Nat) : Int).toNat, .mp 704] = _
        rw [hn]; rfl
      | 1, _ =>
        show AObj.row 1 (List.replicate (((l.map eA).length : Nat) : Int).toNat (PV.bool false)) = AObj.row 1 ((pl0 l).dn.map PV.bool)
        rw [hn]; simp [pl0]
      | 2, _ =>
        show AObj.row 1 (List.replicate (((l.map eA).length : Nat) : Int).toNat (eI 0)) = AObj.row 1 ((pl0 l).lk.map eI)
        rw [hn]; simp [pl0]
      | 3, _ => rfl) cl7 cl8 (by simp [keys]) rfl ?_
  repeat' (first | exact cl1 | (refine stx ?_; first | exact exHM _ | refine exU8 ?_) | ((fail_if_success refine stp ?_); (conv => whnf) <;> (first | exact cl2 | refine kX ?_ | refine kP ?_ | refine kBd (fun hc => ?_) (fun hc => ?_) | refine kT ?_ | refine kF ?_ | refine kN ?_ | refine kBm (fun hc => ?_) (fun hc => ?_) | refine kO ?_ | refine kS ?_ | refine kA ?_ | exact PV.leL_nil | refine kC ?_ ?_ | refine And.intro ?_ ?_ | refine ix_map (fun x hx => ?_) | refine exU8 ?_ | refine nilc (fun hn => ?_) ?_ | exact cl3 | refine imp0 (fun hpos => ?_) | refine kG ?_ ?_ | exact rfl | exact trivial | (first | refine stq ?_ | fail)))) <;> (try exact cl5)
  have hol : (ordL sg at_).length ≤ 20 := by have := ordL_len sg at_; omega
  have hit := values_iter (ordL sg at_) (by omega)
  have hOl : ∀ i ∈ ordL sg at_, i < l.length := fun i hi => by have := (ordL_mem.1 hi).1; omega
  generalize hO : ordL sg at_ = O at *
  have hxs : ∀ x ∈ (O.map fun i => [eN i]), x.length = 1 := fun x hx => by
    obtain ⟨y, _, rfl⟩ := List.mem_map.1 hx; rfl
  have hget : ∀ k i, O[k]? = some i → (O.map fun i => [eN i]).getD k [] = [eN i] := fun k i h => by simp [List.getD, h]
  refine Lp.mapS0 704 1 rfl ?_
  refine Wpc.range mixed hit (by kernel_rfl) rfl [0, 1, 2, 4, 6, 7, 8, 9, 11, 12, 15, 30, 31, 48, 50, 68, 89, 91, 92, 93, 94] O.length [0, 832, 448, 640, 704, 896] (fun k => ([(704, .mapS KTi 1 (hM (rvM (playP l sg (O.take k)).rv))), (832, .cells [.p (eL l), .p (eAt (atM l)), .p (eIs sg), .rsl 448 1 0 l.length, .rsl 640 1 0 l.length, .mp 704]), (448, .row 1 ((playP l sg (O.take k)).dn.map PV.bool)), (640, .row 1 ((playP l sg (O.take k)).lk.map eI)), (896, .cells [.ptr 832 0]), (0, .cells [.p (eIs sg)])], 1216)) rfl (hen_of rfl) (by simp) (by simp) hxs (fun k hk hm => ?_) (fun _ => ?_)
  · rw [List.length_map] at hk
    obtain ⟨i, hi⟩ : ∃ i, O[k]? = some i := ⟨_, List.getElem?_eq_getElem hk⟩
    rw [hget k i hi]
    dsimp only
    have hil := hOl i (List.mem_of_getElem? hi)
    obtain ⟨d, hd⟩ : ∃ d, l[i]? = some d := ⟨_, List.getElem?_eq_getElem hil⟩
    have hd2 : l[(i : Int).toNat]? = some d := by rw [Int.toNat_natCast]; exact hd
    have hq := InP.play (l := l) (sg := sg) (fun x hx => (hr x hx).1) (O.take k)
    have hdi : (playP l sg (O.take k)).dn.getD i false = false := by
      rw [play_dn _ (fun x hx => hOl x (List.mem_of_mem_take hx))]
      exact decide_eq_false (take_not hi hnd)
    have hstep := playP_take (l := l) (sg := sg) hi
    have htl : (O.take k).length ≤ 20 := by rw [List.length_take]; omega
    generalize playP l sg (O.take k) = p at *
    have hkl : i < p.lk.length := by rw [hq.ll]; exact hil
    have hlk : p.lk.length = l.length := hq.ll
    have q2 := backward_calls d.need
    have hsl2 : i < sg.length := by omega
    have hsy : sg[(i : Int).toNat]? = some (sgF sg i) := by rw [Int.toNat_natCast]; simp [sgF, List.getD, hsl2]
    have hnl := (hr d (List.mem_of_getElem? hd)).2
    have hrl := (hr d (List.mem_of_getElem? hd)).1
    have hnb : thB l d.need = true := by have := hnm d (List.mem_of_getElem? hd); unfold namB at this; rw [Bool.and_eq_true] at this; exact this.2
    repeat' (first | exact cl1 | (refine stx ?_; first | exact exHM _ | refine exU8 ?_) | ((with_reducible show callX _ _ _ _ _); (first | refine call_p (q2) (by kernel_rfl) rfl ?_)) | ((fail_if_success refine stp ?_); (conv => whnf) <;> (first | exact cl2 | refine ix_at hd2 ?_ | refine kX ?_ | refine kP ?_ | refine kBd (fun hc => ?_) (fun hc => ?_) | refine kT ?_ | refine kF ?_ | refine kN ?_ | refine kBm (fun hc => ?_) (fun hc => ?_) | refine kO ?_ | refine kS ?_ | refine kA ?_ | exact PV.leL_nil | refine kC ?_ ?_ | refine And.intro ?_ ?_ | refine ix_map (fun x hx => ?_) | refine exU8 ?_ | refine nilc (fun hn => ?_) ?_ | exact cl3 | refine imp0 (fun hpos => ?_) | refine kG ?_ ?_ | exact rfl | exact trivial | (first | refine stq ?_ | fail)))) <;> (try exact cl5)
    have hit2 := backward_iter d.need (by omega)
    have hxs2 : ∀ x ∈ bwX d.need, x.length = 2 := fun x hx => by
      obtain ⟨y, _, rfl⟩ := List.mem_map.1 hx; rfl
    have hget2 : ∀ k, k < d.need.length → (bwX d.need).getD k [] = [eI ((d.need.length - 1 - k : Nat) : Int), eI (d.need.getD (d.need.length - 1 - k) 0)] := fun k h => by simp [bwX, List.getD, h]
    refine Lp.put 640 (.row 1 ((p.lk.set i (-1)).map eI)) (by
      show AObj.row 1 ((p.lk.map eI).set (0 + (i : Int).toNat) (eI (-1))) = AObj.row 1 ((p.lk.set i (-1)).map eI)
      rw [show 0 + (i : Int).toNat = i by omega, List.map_set]) ?_
    refine Wpc.range mixed hit2 (by kernel_rfl) rfl [0, 1, 2, 4, 6, 7, 8, 9, 11, 12, 15, 30, 31, 48, 50, 68, 89, 91, 92, 93, 94] d.need.length [0, 832, 448, 640, 704, 896, 1216, 1856] (fun m => ([(640, .row 1 ((p.lk.set i ((d.need.reverse.take m).foldl (lackS l p (sgF sg i)) (-1))).map eI)), (1856, .cells [.p (eI d.no), .p (eI d.tm), .p (eI d.kind), .p (eI d.val), .p (eI d.frm), .p (eI d.til), .p (eIs d.par), .p (eIs d.rev), .p (eIs d.need), .p (u8 (d.tx 0)), .p (u8 (d.tx 1)), .p (u8 (d.tx 2)), .p (u8 (d.tx 3)), .p (u8 (d.tx 4)), .p (u8 (d.tx 5)), .p (u8 (d.tx 6)), .p (u8 (d.tx 7)), .p (u8 (d.tx 8)), .p (u8 (d.tx 9)), .p (u8 (d.tx 10)), .p (u8 (d.tx 11)), .p (u8 (d.tx 12)), .p (u8 (d.tx 13)), .p (u8 (d.tx 14)), .p (u8 (d.tx 15)), .p (u8 (d.tx 16)), .p (u8 (d.tx 17)), .p (u8 (d.tx 18)), .p (u8 (d.tx 19)), .p (u8 (d.tx 20)), .p (u8 (d.tx 21)), .p (u8 (d.tx 22)), .p (u8 (d.tx 23)), .p (u8 (d.tx 24)), .p (u8 (d.tx 25)), .p (u8 (d.tx 26)), .p (u8 (d.tx 27)), .p (u8 (d.tx 28)), .p (u8 (d.tx 29)), .p (u8 (d.tx 30)), .p (u8 (d.tx 31))]), (1216, .cells [.p (eN i)]), (704, .mapS KTi 1 (hM (rvM p.rv))), (832, .cells [.p (eL l), .p (eAt (atM l)), .p (eIs sg), .rsl 448 1 0 l.length, .rsl 640 1 0 l.length, .mp 704]), (448, .row 1 (p.dn.map PV.bool)), (896, .cells [.ptr 832 0]), (0, .cells [.p (eIs sg)])], 2624)) rfl (hen_of rfl) (by simp) (by simp) hxs2 (fun m hm1 hm2 => ?_) (fun _ => ?_)
    · have hm1 : m < d.need.length := by simpa [bwX] using hm1
      rw [hget2 m hm1]
      dsimp only
      obtain ⟨no, hno⟩ : ∃ no, d.need[d.need.length - 1 - m]? = some no := ⟨_, List.getElem?_eq_getElem (by omega)⟩
      have hnod : d.need.getD (d.need.length - 1 - m) 0 = no := by simp [List.getD, hno]
      rw [hnod]
      obtain ⟨d', ha, hd', hdn⟩ := ixF_of (List.all_eq_true.1 hnb no (List.mem_of_getElem? hno))
      have hat : mfind (eI no) (eM eI eI (atM l)) = some (eN (ixF l no)) := by rw [mfind_map eI keyI, ha]; rfl
      have hfold := need_take (lackS l p (sgF sg i)) hm1 (-1) no hno
      generalize hv : (d.need.reverse.take m).foldl (lackS l p (sgF sg i)) (-1) = v at *
      have okp : OkP l ⟨p.dn, p.lk.set i v, p.rv⟩ := (InP.mk (p := ⟨p.dn, p.lk.set i v, p.rv⟩) hq.dl (by simpa using hq.ll) hq.bd).ok (by omega)
      have q3 := state_icalls l sg ⟨p.dn, p.lk.set i v, p.rv⟩ (ixF l no) (sgF sg i) d' hd' okp (by omega)
      rw [stA_set hkl hdi] at q3
      have e1 : p.dn.length = l.length := hq.dl
      have e2 : (p.lk.set i v).length = l.length := by simpa using hq.ll
      simp only [hP, e1, e2] at q3
      repeat' (first | exact cl1 | (refine stx ?_; first | exact exHM _ | refine exU8 ?_) | ((with_reducible show callX _ _ _ _ _); (first | refine call_iE [832, 448, 640, 704] ([(832, .cells [.p (eL l), .p (eAt (atM l)), .p (eIs sg), .rsl 448 1 0 l.length, .rsl 640 1 0 l.length, .mp 704]), (448, .row 1 (p.dn.map PV.bool)), (640, .row 1 ((p.lk.set i v).map eI)), (704, .mapS KTi 1 (hM (rvM p.rv)))]) (q3) (by kernel_rfl) rfl rfl (by decide) cl6 (fun i hi => by match i, hi with | 0, _ => (first | rfl | exact (renO_hM _ _ _ _).symm) | 1, _ => (first | rfl | exact (renO_hM _ _ _ _).symm) | 2, _ => (first | rfl | exact (renO_hM _ _ _ _).symm) | 3, _ => (first | rfl | exact (renO_hM _ _ _ _).symm)) cl7 cl8 (by simp [keys]) (by (try simp only [hP]); simp only [List.map_cons, List.map_nil, renO_hM]; rfl) ?_)) | ((fail_if_success refine stp ?_); (conv => whnf) <;> (first | exact cl2 | refine Opt.at hat ?_ | refine ix_at hsy ?_ | refine kX ?_ | refine kP ?_ | refine kBd (fun hc => ?_) (fun hc => ?_) | refine kT ?_ | refine kF ?_ | refine kN ?_ | refine kBm (fun hc => ?_) (fun hc => ?_) | refine kO ?_ | refine kS ?_ | refine kA ?_ | exact PV.leL_nil | refine kC ?_ ?_ | refine And.intro ?_ ?_ | refine ix_map (fun x hx => ?_) | refine exU8 ?_ | refine nilc (fun hn => ?_) ?_ | exact cl3 | refine imp0 (fun hpos => ?_) | refine kG ?_ ?_ | exact rfl | exact trivial | (first | refine stq ?_ | fail)))) <;> (try exact cl5)
      all_goals (refine Ent.ofK [] ?_) <;> (repeat' (first | exact trivial | refine kHd ?_ | refine kHm rfl (by simp) rfl (fun h => AObj.noConfusion h) ?_ ?_ | refine And.intro ?_ ?_ | exact cl9 | refine kVp ?_ | refine kVa ?_ | refine kVt ?_ | refine kVf ?_ ?_ | refine kVc ?_ ?_ | exact VLeL.nil | exact OLe.row _ _ | rfl | refine VLe.rsle rfl ?_ ?_ ?_ | refine kQw ?_ ?_ | refine kQm ?_ ?_ | refine kQj ?_ ?_ | refine kQc ?_ ?_ | refine kQs ?_ ?_ ?_ | exact OLe.mapS0 rfl)) <;> try exact kZ
      · rw [show 0 + (i : Int).toNat = i by omega, ← List.map_set, List.set_set, hfold]
        unfold lackS
        rw [if_pos hc]
      · rw [hfold]
        unfold lackS
        rw [if_neg hc]
    · have eT : d.need.reverse.take (bwX d.need).length = d.need.reverse := by rw [List.take_of_length_le (by simp [bwX])]
      have eNd : d.need.reverse.foldl (lackS l p (sgF sg i)) (-1) = needF l p (sgF sg i) d.need := rfl
      show Kt.n _ ⟨_, [(640, .row 1 ((p.lk.set i ((d.need.reverse.take ((bwX d.need).length)).foldl (lackS l p (sgF sg i)) (-1))).map eI)), (1856, .cells [.p (eI d.no), .p (eI d.tm), .p (eI d.kind), .p (eI d.val), .p (eI d.frm), .p (eI d.til), .p (eIs d.par), .p (eIs d.rev), .p (eIs d.need), .p (u8 (d.tx 0)), .p (u8 (d.tx 1)), .p (u8 (d.tx 2)), .p (u8 (d.tx 3)), .p (u8 (d.tx 4)), .p (u8 (d.tx 5)), .p (u8 (d.tx 6)), .p (u8 (d.tx 7)), .p (u8 (d.tx 8)), .p (u8 (d.tx 9)), .p (u8 (d.tx 10)), .p (u8 (d.tx 11)), .p (u8 (d.tx 12)), .p (u8 (d.tx 13)), .p (u8 (d.tx 14)), .p (u8 (d.tx 15)), .p (u8 (d.tx 16)), .p (u8 (d.tx 17)), .p (u8 (d.tx 18)), .p (u8 (d.tx 19)), .p (u8 (d.tx 20)), .p (u8 (d.tx 21)), .p (u8 (d.tx 22)), .p (u8 (d.tx 23)), .p (u8 (d.tx 24)), .p (u8 (d.tx 25)), .p (u8 (d.tx 26)), .p (u8 (d.tx 27)), .p (u8 (d.tx 28)), .p (u8 (d.tx 29)), .p (u8 (d.tx 30)), .p (u8 (d.tx 31))]), (1216, .cells [.p (eN i)]), (704, .mapS KTi 1 (hM (rvM p.rv))), (832, .cells [.p (eL l), .p (eAt (atM l)), .p (eIs sg), .rsl 448 1 0 l.length, .rsl 640 1 0 l.length, .mp 704]), (448, .row 1 (p.dn.map PV.bool)), (896, .cells [.ptr 832 0]), (0, .cells [.p (eIs sg)])], 2624, 0⟩
      rw [eT, eNd]
      have hs1 : stepP l sg p i = ⟨p.dn.set i true, p.lk.set i (needF l p (sgF sg i) d.need), if needF l p (sgF sg i) d.need < 0 then d.rev.foldl (addR d.no) p.rv else p.rv⟩ := by unfold stepP; rw [hd]
      generalize needF l p (sgF sg i) d.need = V at *
      have hVi : (p.lk.set i V)[0 + (i : Int).toNat]? = some V := by rw [show 0 + (i : Int).toNat = i by omega, List.getElem?_set_self hkl]
      have hdl : p.dn.length = l.length := hq.dl
      have hll : (p.lk.set i V).length = l.length := by simpa using hq.ll
      have hdil : i < p.dn.length := by omega
      (conv => whnf)
      by_cases hV0 : V < 0
      · rw [if_pos hV0] at hs1
        repeat' (first | exact cl1 | (refine stx ?_; first | exact exHM _ | refine exU8 ?_) | ((fail_if_success refine stp ?_); (conv => whnf) <;> (first | exact cl2 | refine ix_at hVi ?_ | refine kBy hV0 fun hc => ?_ | refine kX ?_ | refine kP ?_ | refine kBd (fun hc => ?_) (fun hc => ?_) | refine kT ?_ | refine kF ?_ | refine kN ?_ | refine kBm (fun hc => ?_) (fun hc => ?_) | refine kO ?_ | refine kS ?_ | refine kA ?_ | exact PV.leL_nil | refine kC ?_ ?_ | refine And.intro ?_ ?_ | refine ix_map (fun x hx => ?_) | refine exU8 ?_ | refine nilc (fun hn => ?_) ?_ | exact cl3 | refine imp0 (fun hpos => ?_) | refine kG ?_ ?_ | exact rfl | exact trivial | (first | refine stq ?_ | fail)))) <;> (try exact cl5)
        refine Wpc.loopA (α := {m : Nat // m ≤ d.rev.length}) mixed [0, 1, 2, 4, 6, 7, 8, 9, 11, 12, 15, 30, 31, 48, 50, 68, 89, 91, 92, 93, 94] (fun m => [(93, .p (eI m.1))]) (fun m => [(704, .mapS KTi 1 (hM (rvM ((d.rev.take m.1).foldl (addR d.no) p.rv))))]) (fun _ => 0) (fun m => d.rev.length - m.1) ⟨0, by omega⟩ ?_ ?_
        · (refine Ent.ofAK [] ?_) <;> (repeat' (first | exact trivial | refine kHd ?_ | refine kHm rfl (by simp) rfl (fun h => AObj.noConfusion h) ?_ ?_ | refine And.intro ?_ ?_ | exact cl9 | refine kVp ?_ | refine kVa ?_ | refine kVt ?_ | refine kVf ?_ ?_ | refine kVc ?_ ?_ | exact VLeL.nil | exact OLe.row _ _ | rfl | refine VLe.rsle rfl ?_ ?_ ?_ | refine kQw ?_ ?_ | refine kQm ?_ ?_ | refine kQj ?_ ?_ | refine kQc ?_ ?_ | refine kQs ?_ ?_ ?_ | exact OLe.mapS0 rfl)) <;> try exact kZ
        rintro ⟨m, hm3⟩
        have hm3 : m ≤ d.rev.length := hm3
        cases hx : d.rev[m]? with
        | none =>
          have hge : d.rev.length ≤ m := List.getElem?_eq_none_iff.1 hx
          have hno : ¬ ((m : Int) < ((d.rev.map eI).length : Int)) := by rw [List.length_map]; omega
          have em : d.rev.take m = d.rev := List.take_of_length_le hge
          repeat' (first | exact cl1 | (refine stx ?_; first | exact exHM _ | refine exU8 ?_) | ((fail_if_success refine stp ?_); (conv => whnf) <;> (first | exact cl2 | refine kBn hno fun hc => ?_ | refine kX ?_ | refine kP ?_ | refine kBd (fun hc => ?_) (fun hc => ?_) | refine kT ?_ | refine kF ?_ | refine kN ?_ | refine kBm (fun hc => ?_) (fun hc => ?_) | refine kO ?_ | refine kS ?_ | refine kA ?_ | exact PV.leL_nil | refine kC ?_ ?_ | refine And.intro ?_ ?_ | refine ix_map (fun x hx => ?_) | refine exU8 ?_ | refine nilc (fun hn => ?_) ?_ | exact cl3 | refine imp0 (fun hpos => ?_) | refine kG ?_ ?_ | exact rfl | exact trivial | (first | refine stq ?_ | fail)))) <;> (try exact cl5)
          all_goals (refine Ent.ofK [] ?_) <;> (repeat' (first | exact trivial | refine kHd ?_ | refine kHm rfl (by simp) rfl (fun h => AObj.noConfusion h) ?_ ?_ | refine And.intro ?_ ?_ | exact cl9 | refine kVp ?_ | refine kVa ?_ | refine kVt ?_ | refine kVf ?_ ?_ | refine kVc ?_ ?_ | exact VLeL.nil | exact OLe.row _ _ | rfl | refine VLe.rsle rfl ?_ ?_ ?_ | refine kQw ?_ ?_ | refine kQm ?_ ?_ | refine kQj ?_ ?_ | refine kQc ?_ ?_ | refine kQs ?_ ?_ ?_ | exact OLe.mapS0 rfl)) <;> try exact kZ
          all_goals (rw [hstep, hs1])
          · show hM (rvM ((d.rev.take m).foldl (addR d.no) p.rv)) = _
            rw [em]
          · show (List.map PV.bool p.dn).set (0 + (i : Int).toNat) (PV.bool true) = List.map PV.bool (p.dn.set i true)
            rw [show 0 + (i : Int).toNat = i by omega, List.map_set]
        | some n =>
          have hltm : m < d.rev.length := (List.getElem?_eq_some_iff.1 hx).1
          have hyes : ((m : Int) < ((d.rev.map eI).length : Int)) := by rw [List.length_map]; omega
          have hft := addR_take (no := d.no) (m := p.rv) hx
          have hbm := Bd_add (no := d.no) (d.rev.take m) _ _ hq.bd
          have htm : (d.rev.take m).length ≤ 20 := by rw [List.length_take]; omega
          generalize (d.rev.take m).foldl (addR d.no) p.rv = M at *
          cases hz : aget n M with
          | none =>
            have hm : mfind (eI n) (hM (rvM M)) = none := by rw [mfind_rv, hz]; rfl
            repeat' (first | exact cl1 | (refine stx ?_; first | exact exHM _ | refine exU8 ?_) | ((fail_if_success refine stp ?_); (conv => whnf) <;> (first | exact cl2 | refine kBy hyes fun hc => ?_ | refine ix_at hx ?_ | refine Opt.no hm ?_ | refine kX ?_ | refine kP ?_ | refine kBd (fun hc => ?_) (fun hc => ?_) | refine kT ?_ | refine kF ?_ | refine kN ?_ | refine kBm (fun hc => ?_) (fun hc => ?_) | refine kO ?_ | refine kS ?_ | refine kA ?_ | exact PV.leL_nil | refine kC ?_ ?_ | refine And.intro ?_ ?_ | refine ix_map (fun x hx => ?_) | refine exU8 ?_ | refine nilc (fun hn => ?_) ?_ | exact cl3 | refine imp0 (fun hpos => ?_) | refine kG ?_ ?_ | exact rfl | exact trivial | (first | refine stq ?_ | fail) | rw [tM85]))) <;> (try exact cl5)
            refine ⟨⟨m + 1, hltm⟩, by show d.rev.length - (m + 1) < d.rev.length - m; omega, ?_⟩
            (refine Ent.ofAK [] ?_) <;> (repeat' (first | exact trivial | refine kHd ?_ | refine kHm rfl (by simp) rfl (fun h => AObj.noConfusion h) ?_ ?_ | refine And.intro ?_ ?_ | exact cl9 | refine kVp ?_ | refine kVa ?_ | refine kVt ?_ | refine kVf ?_ ?_ | refine kVc ?_ ?_ | exact VLeL.nil | exact OLe.row _ _ | rfl | refine VLe.rsle rfl ?_ ?_ ?_ | refine kQw ?_ ?_ | refine kQm ?_ ?_ | refine kQj ?_ ?_ | refine kQc ?_ ?_ | refine kQs ?_ ?_ ?_ | exact OLe.mapS0 rfl)) <;> try exact kZ
            show mput (eI n) (.h [eI d.no]) (hM (rvM M)) = hM (rvM ((d.rev.take (m + 1)).foldl (addR d.no) p.rv))
            rw [hft]
            refine (rvM_put n [d.no] M).trans ?_
            unfold addR; rw [hz]; rfl
          | some z =>
            have hm : mfind (eI n) (hM (rvM M)) = some (MV.h (z.map eI)) := by rw [mfind_rv, hz]; rfl
            have hzl : (z.map eI).length < 1000000 := by rw [List.length_map]; have := (hbm n z hz).2; omega
            repeat' (first | exact cl1 | (refine stx ?_; first | exact exHM _ | refine exU8 ?_) | ((fail_if_success refine stp ?_); (conv => whnf) <;> (first | exact cl2 | refine kBy hyes fun hc => ?_ | refine ix_at hx ?_ | refine Opt.at hm ?_ | refine kX ?_ | refine kP ?_ | refine kBd (fun hc => ?_) (fun hc => ?_) | refine kT ?_ | refine kF ?_ | refine kN ?_ | refine kBm (fun hc => ?_) (fun hc => ?_) | refine kO ?_ | refine kS ?_ | refine kA ?_ | exact PV.leL_nil | refine kC ?_ ?_ | refine And.intro ?_ ?_ | refine ix_map (fun x hx => ?_) | refine exU8 ?_ | refine nilc (fun hn => ?_) ?_ | exact cl3 | refine imp0 (fun hpos => ?_) | refine kG ?_ ?_ | exact rfl | exact trivial | (first | refine stq ?_ | fail) | rw [tM85]))) <;> (try exact cl5)
            refine ⟨⟨m + 1, hltm⟩, by show d.rev.length - (m + 1) < d.rev.length - m; omega, ?_⟩
            (refine Ent.ofAK [] ?_) <;> (repeat' (first | exact trivial | refine kHd ?_ | refine kHm rfl (by simp) rfl (fun h => AObj.noConfusion h) ?_ ?_ | refine And.intro ?_ ?_ | exact cl9 | refine kVp ?_ | refine kVa ?_ | refine kVt ?_ | refine kVf ?_ ?_ | refine kVc ?_ ?_ | exact VLeL.nil | exact OLe.row _ _ | rfl | refine VLe.rsle rfl ?_ ?_ ?_ | refine kQw ?_ ?_ | refine kQm ?_ ?_ | refine kQj ?_ ?_ | refine kQc ?_ ?_ | refine kQs ?_ ?_ ?_ | exact OLe.mapS0 rfl)) <;> try exact kZ
            refine (mput_mput (eqI1 n) _ _ _).trans ?_
            show mput (eI n) (.h (z.map eI ++ [eI d.no])) (hM (rvM M)) = hM (rvM ((d.rev.take (m + 1)).foldl (addR d.no) p.rv))
            rw [hft, show z.map eI ++ [eI d.no] = (z ++ [d.no]).map eI by simp]
            refine (rvM_put n (z ++ [d.no]) M).trans ?_
            unfold addR; rw [hz]; rfl
      · rw [if_neg hV0] at hs1
        repeat' (first | exact cl1 | (refine stx ?_; first | exact exHM _ | refine exU8 ?_) | ((fail_if_success refine stp ?_); (conv => whnf) <;> (first | exact cl2 | refine ix_at hVi ?_ | refine kBn hV0 fun hc => ?_ | refine kX ?_ | refine kP ?_ | refine kBd (fun hc => ?_) (fun hc => ?_) | refine kT ?_ | refine kF ?_ | refine kN ?_ | refine kBm (fun hc => ?_) (fun hc => ?_) | refine kO ?_ | refine kS ?_ | refine kA ?_ | exact PV.leL_nil | refine kC ?_ ?_ | refine And.intro ?_ ?_ | refine ix_map (fun x hx => ?_) | refine exU8 ?_ | refine nilc (fun hn => ?_) ?_ | exact cl3 | refine imp0 (fun hpos => ?_) | refine kG ?_ ?_ | exact rfl | exact trivial | (first | refine stq ?_ | fail)))) <;> (try exact cl5)
        all_goals (refine Ent.ofK [] ?_) <;> (repeat' (first | exact trivial | refine kHd ?_ | refine kHm rfl (by simp) rfl (fun h => AObj.noConfusion h) ?_ ?_ | refine And.intro ?_ ?_ | exact cl9 | refine kVp ?_ | refine kVa ?_ | refine kVt ?_ | refine kVf ?_ ?_ | refine kVc ?_ ?_ | exact VLeL.nil | exact OLe.row _ _ | rfl | refine VLe.rsle rfl ?_ ?_ ?_ | refine kQw ?_ ?_ | refine kQm ?_ ?_ | refine kQj ?_ ?_ | refine kQc ?_ ?_ | refine kQs ?_ ?_ ?_ | exact OLe.mapS0 rfl)) <;> try exact kZ
        all_goals (rw [hstep, hs1])
        show (List.map PV.bool p.dn).set (0 + (i : Int).toNat) (PV.bool true) = List.map PV.bool (p.dn.set i true)
        rw [show 0 + (i : Int).toNat = i by omega, List.map_set]
  · have eT : O.take (O.map fun i => [eN i]).length = O := by rw [List.length_map, List.take_length]
    show Kt.n _ ⟨_, [(704, .mapS KTi 1 (hM (rvM (playP l sg (O.take ((O.map fun i => [eN i]).length))).rv))), (832, .cells [.p (eL l), .p (eAt (atM l)), .p (eIs sg), .rsl 448 1 0 l.length, .rsl 640 1 0 l.length, .mp 704]), (448, .row 1 ((playP l sg (O.take ((O.map fun i => [eN i]).length))).dn.map PV.bool)), (640, .row 1 ((playP l sg (O.take ((O.map fun i => [eN i]).length))).lk.map eI)), (896, .cells [.ptr 832 0]), (0, .cells [.p (eIs sg)])], 1216, 0⟩
    rw [eT]
    (conv => whnf)
    repeat' (first | exact cl1 | (refine stx ?_; first | exact exHM _ | refine exU8 ?_) | ((fail_if_success refine stp ?_); (conv => whnf) <;> (first | exact cl2 | refine kX ?_ | refine kP ?_ | refine kBd (fun hc => ?_) (fun hc => ?_) | refine kT ?_ | refine kF ?_ | refine kN ?_ | refine kBm (fun hc => ?_) (fun hc => ?_) | refine kO ?_ | refine kS ?_ | refine kA ?_ | exact PV.leL_nil | refine kC ?_ ?_ | refine And.intro ?_ ?_ | refine ix_map (fun x hx => ?_) | refine exU8 ?_ | refine nilc (fun hn => ?_) ?_ | exact cl3 | refine imp0 (fun hpos => ?_) | refine kG ?_ ?_ | exact rfl | exact trivial | (first | refine stq ?_ | fail)))) <;> (try exact cl5)
    refine ⟨[], [(0, 832), (1, 448), (2, 640), (3, 704)], ?_, ?_, by decide, by simp, fun i hi => by omega⟩ <;> (repeat' (first | exact trivial | refine kHd ?_ | refine kHm rfl (by simp) rfl (fun h => AObj.noConfusion h) ?_ ?_ | refine And.intro ?_ ?_ | exact cl9 | refine kVp ?_ | refine kVa ?_ | refine kVt ?_ | refine kVf ?_ ?_ | refine kVc ?_ ?_ | exact VLeL.nil | exact OLe.row _ _ | rfl | refine VLe.rsle rfl ?_ ?_ ?_ | refine kQw ?_ ?_ | refine kQm ?_ ?_ | refine kQj ?_ ?_ | refine kQc ?_ ?_ | refine kQs ?_ ?_ ?_ | exact OLe.mapS0 rfl))
end Go.Proofs.Ytgclicahmbgfiaa

namespace Go.Proofs.Ytgclicahmbgfiaa
open Go Go.Sg
theorem odd_calls (t : Int) : PCalls Try.prog 72 [eI t] (.bool (!decide (t = -1) && !wiB TM t)) := by
  have q := time_calls t
  refine PCalls.of (N := 10) (res := [.tmp 2]) mixed Try.func72 rfl rfl rfl (by kernel_rfl) (by simp) [0, 2] ?_
  repeat' (first | exact cl1 | (refine stx ?_; first | exact exHM _ | refine exU8 ?_) | ((with_reducible show callX _ _ _ _ _); (first | refine call_p (q) (by kernel_rfl) rfl ?_)) | ((fail_if_success refine stp ?_); (conv => whnf) <;> (first | exact cl2 | refine kX ?_ | refine kP ?_ | refine kBd (fun hc => ?_) (fun hc => ?_) | refine kT ?_ | refine kF ?_ | refine kN ?_ | refine kBm (fun hc => ?_) (fun hc => ?_) | refine kO ?_ | refine kS ?_ | refine kA ?_ | exact PV.leL_nil | refine kC ?_ ?_ | refine And.intro ?_ ?_ | refine ix_map (fun x hx => ?_) | refine exU8 ?_ | refine nilc (fun hn => ?_) ?_ | exact cl3 | refine imp0 (fun hpos => ?_) | refine kG ?_ ?_ | exact rfl | exact trivial | (first | refine stq ?_ | fail)))) <;> (try exact cl5)
  all_goals (refine LeG.bool ?_; simp_all)
theorem indexOdd_calls (l : List Int) (hl : l.length < 1000000) : PCalls Try.prog 64 [eIs l, .fn (.func 72) [] []] (.bool (l.any fun t => !decide (t = -1) && !wiB TM t)) := by
  have q1 : ∃ k : Int, PCalls Try.prog 83 [eIs l, .fn (.func 72) [] []] (eI k) ∧ (decide (0 ≤ k) = l.any fun t => !decide (t = -1) && !wiB TM t) := by
    generalize hP : (fun t : Int => !decide (t = -1) && !wiB TM t) = p
    have hp : ∀ t, PCalls Try.prog 72 [eI t] (.bool (p t)) := fun t => by rw [← hP]; exact odd_calls t
    cases hF : l.findIdx? p with
    | none =>
      have hn : ∀ x ∈ l, p x = false := fun x hx => by simpa using List.findIdx?_eq_none_iff.1 hF x hx
      refine ⟨-1, ?_, ?_⟩
      · refine PCalls.of (N := 19) (res := [.tmp 4]) mixed Try.func83 rfl rfl rfl (by kernel_rfl) (by simp) [0, 1, 4, 5, 7, 8, 9, 16] ?_
        repeat' (first | exact cl1 | (refine stx ?_; first | exact exHM _ | refine exU8 ?_) | ((fail_if_success refine stp ?_); (conv => whnf) <;> (first | exact cl2 | refine kX ?_ | refine kP ?_ | refine kBd (fun hc => ?_) (fun hc => ?_) | refine kT ?_ | refine kF ?_ | refine kN ?_ | refine kBm (fun hc => ?_) (fun hc => ?_) | refine kO ?_ | refine kS ?_ | refine kA ?_ | exact PV.leL_nil | refine kC ?_ ?_ | refine And.intro ?_ ?_ | refine ix_map (fun x hx => ?_) | refine exU8 ?_ | refine nilc (fun hn => ?_) ?_ | exact cl3 | refine imp0 (fun hpos => ?_) | refine kG ?_ ?_ | exact rfl | exact trivial | (first | refine stq ?_ | fail)))) <;> (try exact cl5)
        refine Wpc.loopB (α := {i : Nat // i ≤ l.length}) mixed [0, 1, 4, 5, 7, 8, 9, 16] (fun i => [(8, .p (eI i.1))]) (fun i => l.length - i.1) ⟨0, by omega⟩ ?_ ?_
        · (first | refine Ent.ofA [] ?_ | refine Ent.ofC [] ?_) <;> (repeat' (first | exact trivial | refine kHd ?_ | refine kHm rfl (by simp) rfl (fun h => AObj.noConfusion h) ?_ ?_ | refine And.intro ?_ ?_ | exact cl9 | refine kVp ?_ | refine kVa ?_ | refine kVt ?_ | refine kVf ?_ ?_ | refine kVc ?_ ?_ | exact VLeL.nil | exact OLe.row _ _ | rfl | refine VLe.rsle rfl ?_ ?_ ?_ | refine kQw ?_ ?_ | refine kQm ?_ ?_ | refine kQj ?_ ?_ | refine kQc ?_ ?_ | refine kQs ?_ ?_ ?_ | exact OLe.mapS0 rfl)) <;> try exact kZ
        rintro ⟨i, hi⟩
        have hi : i ≤ l.length := hi
        cases hx : l[i]? with
        | none =>
          have hge : l.length ≤ i := List.getElem?_eq_none_iff.1 hx
          have hno : ¬ ((i : Int) < ((l.map eI).length : Int)) := by rw [List.length_map]; omega
          repeat' (first | exact cl1 | (refine stx ?_; first | exact exHM _ | refine exU8 ?_) | ((fail_if_success refine stp ?_); (conv => whnf) <;> (first | exact cl2 | refine kBn hno fun hc => ?_ | refine kX ?_ | refine kP ?_ | refine kBd (fun hc => ?_) (fun hc => ?_) | refine kT ?_ | refine kF ?_ | refine kN ?_ | refine kBm (fun hc => ?_) (fun hc => ?_) | refine kO ?_ | refine kS ?_ | refine kA ?_ | exact PV.leL_nil | refine kC ?_ ?_ | refine And.intro ?_ ?_ | refine ix_map (fun x hx => ?_) | refine exU8 ?_ | refine nilc (fun hn => ?_) ?_ | exact cl3 | refine imp0 (fun hpos => ?_) | refine kG ?_ ?_ | exact rfl | exact trivial | (first | refine stq ?_ | fail)))) <;> (try exact cl5)
        | some x =>
          have hlt : i < l.length := (List.getElem?_eq_some_iff.1 hx).1
          have hyes : ((i : Int) < ((l.map eI).length : Int)) := by rw [List.length_map]; omega
          have q := hp x
          rw [hn x (List.mem_of_getElem? hx)] at q
          repeat' (first | exact cl1 | (refine stx ?_; first | exact exHM _ | refine exU8 ?_) | ((with_reducible show callX _ _ _ _ _); (first | refine call_p (q) (by kernel_rfl) rfl ?_)) | ((fail_if_success refine stp ?_); (conv => whnf) <;> (first | exact cl2 | refine kBy hyes fun hc => ?_ | refine ix_at hx ?_ | refine kX ?_ | refine kP ?_ | refine kBd (fun hc => ?_) (fun hc => ?_) | refine kT ?_ | refine kF ?_ | refine kN ?_ | refine kBm (fun hc => ?_) (fun hc => ?_) | refine kO ?_ | refine kS ?_ | refine kA ?_ | exact PV.leL_nil | refine kC ?_ ?_ | refine And.intro ?_ ?_ | refine ix_map (fun x hx => ?_) | refine exU8 ?_ | refine nilc (fun hn => ?_) ?_ | exact cl3 | refine imp0 (fun hpos => ?_) | refine kG ?_ ?_ | exact rfl | exact trivial | (first | refine stq ?_ | fail)))) <;> (try exact cl5)
          refine ⟨⟨i + 1, hlt⟩, by show l.length - (i + 1) < l.length - i; omega, ?_⟩
          (first | refine Ent.ofA [] ?_ | refine Ent.ofC [] ?_) <;> (repeat' (first | exact trivial | refine kHd ?_ | refine kHm rfl (by simp) rfl (fun h => AObj.noConfusion h) ?_ ?_ | refine And.intro ?_ ?_ | exact cl9 | refine kVp ?_ | refine kVa ?_ | refine kVt ?_ | refine kVf ?_ ?_ | refine kVc ?_ ?_ | exact VLeL.nil | exact OLe.row _ _ | rfl | refine VLe.rsle rfl ?_ ?_ ?_ | refine kQw ?_ ?_ | refine kQm ?_ ?_ | refine kQj ?_ ?_ | refine kQc ?_ ?_ | refine kQs ?_ ?_ ?_ | exact OLe.mapS0 rfl)) <;> try exact kZ
      · rw [show l.any p = false from List.any_eq_false.2 fun x hx => by rw [hn x hx]; exact Bool.false_ne_true]; rfl
    | some n =>
      obtain ⟨hnl, hpn, hbef⟩ := List.findIdx?_eq_some_iff_getElem.1 hF
      refine ⟨n, ?_, ?_⟩
      · refine PCalls.of (N := 19) (res := [.tmp 4]) mixed Try.func83 rfl rfl rfl (by kernel_rfl) (by simp) [0, 1, 4, 5, 7, 8, 9, 16] ?_
        repeat' (first | exact cl1 | (refine stx ?_; first | exact exHM _ | refine exU8 ?_) | ((fail_if_success refine stp ?_); (conv => whnf) <;> (first | exact cl2 | refine kX ?_ | refine kP ?_ | refine kBd (fun hc => ?_) (fun hc => ?_) | refine kT ?_ | refine kF ?_ | refine kN ?_ | refine kBm (fun hc => ?_) (fun hc => ?_) | refine kO ?_ | refine kS ?_ | refine kA ?_ | exact PV.leL_nil | refine kC ?_ ?_ | refine And.intro ?_ ?_ | refine ix_map (fun x hx => ?_) | refine exU8 ?_ | refine nilc (fun hn => ?_) ?_ | exact cl3 | refine imp0 (fun hpos => ?_) | refine kG ?_ ?_ | exact rfl | exact trivial | (first | refine stq ?_ | fail)))) <;> (try exact cl5)
        refine Wpc.loopB (α := {i : Nat // i ≤ n}) mixed [0, 1, 4, 5, 7, 8, 9, 16] (fun i => [(8, .p (eI i.1))]) (fun i => l.length - i.1) ⟨0, by omega⟩ ?_ ?_
        · (first | refine Ent.ofA [] ?_ | refine Ent.ofC [] ?_) <;> (repeat' (first | exact trivial | refine kHd ?_ | refine kHm rfl (by simp) rfl (fun h => AObj.noConfusion h) ?_ ?_ | refine And.intro ?_ ?_ | exact cl9 | refine kVp ?_ | refine kVa ?_ | refine kVt ?_ | refine kVf ?_ ?_ | refine kVc ?_ ?_ | exact VLeL.nil | exact OLe.row _ _ | rfl | refine VLe.rsle rfl ?_ ?_ ?_ | refine kQw ?_ ?_ | refine kQm ?_ ?_ | refine kQj ?_ ?_ | refine kQc ?_ ?_ | refine kQs ?_ ?_ ?_ | exact OLe.mapS0 rfl)) <;> try exact kZ
        rintro ⟨i, hi⟩
        have hi : i ≤ n := hi
        have hlt : i < l.length := by omega
        have hx : l[i]? = some l[i] := List.getElem?_eq_getElem hlt
        have hyes : ((i : Int) < ((l.map eI).length : Int)) := by rw [List.length_map]; omega
        have q := hp l[i]
        by_cases hin : i = n
        · subst hin
          rw [hpn] at q
          repeat' (first | exact cl1 | (refine stx ?_; first | exact exHM _ | refine exU8 ?_) | ((with_reducible show callX _ _ _ _ _); (first | refine call_p (q) (by kernel_rfl) rfl ?_)) | ((fail_if_success refine stp ?_); (conv => whnf) <;> (first | exact cl2 | refine kBy hyes fun hc => ?_ | refine ix_at hx ?_ | refine kX ?_ | refine kP ?_ | refine kBd (fun hc => ?_) (fun hc => ?_) | refine kT ?_ | refine kF ?_ | refine kN ?_ | refine kBm (fun hc => ?_) (fun hc => ?_) | refine kO ?_ | refine kS ?_ | refine kA ?_ | exact PV.leL_nil | refine kC ?_ ?_ | refine And.intro ?_ ?_ | refine ix_map (fun x hx => ?_) | refine exU8 ?_ | refine nilc (fun hn => ?_) ?_ | exact cl3 | refine imp0 (fun hpos => ?_) | refine kG ?_ ?_ | exact rfl | exact trivial | (first | refine stq ?_ | fail)))) <;> (try exact cl5)
        · have hb := hbef i (by omega)
          rw [show p l[i] = false by simpa using hb] at q
          repeat' (first | exact cl1 | (refine stx ?_; first | exact exHM _ | refine exU8 ?_) | ((with_reducible show callX _ _ _ _ _); (first | refine call_p (q) (by kernel_rfl) rfl ?_)) | ((fail_if_success refine stp ?_); (conv => whnf) <;> (first | exact cl2 | refine kBy hyes fun hc => ?_ | refine ix_at hx ?_ | refine kX ?_ | refine kP ?_ | refine kBd (fun hc => ?_) (fun hc => ?_) | refine kT ?_ | refine kF ?_ | refine kN ?_ | refine kBm (fun hc => ?_) (fun hc => ?_) | refine kO ?_ | refine kS ?_ | refine kA ?_ | exact PV.leL_nil | refine kC ?_ ?_ | refine And.intro ?_ ?_ | refine ix_map (fun x hx => ?_) | refine exU8 ?_ | refine nilc (fun hn => ?_) ?_ | exact cl3 | refine imp0 (fun hpos => ?_) | refine kG ?_ ?_ | exact rfl | exact trivial | (first | refine stq ?_ | fail)))) <;> (try exact cl5)
          refine ⟨⟨i + 1, by omega⟩, by show l.length - (i + 1) < l.length - i; omega, ?_⟩
          (first | refine Ent.ofA [] ?_ | refine Ent.ofC [] ?_) <;> (repeat' (first | exact trivial | refine kHd ?_ | refine kHm rfl (by simp) rfl (fun h => AObj.noConfusion h) ?_ ?_ | refine And.intro ?_ ?_ | exact cl9 | refine kVp ?_ | refine kVa ?_ | refine kVt ?_ | refine kVf ?_ ?_ | refine kVc ?_ ?_ | exact VLeL.nil | exact OLe.row _ _ | rfl | refine VLe.rsle rfl ?_ ?_ ?_ | refine kQw ?_ ?_ | refine kQm ?_ ?_ | refine kQj ?_ ?_ | refine kQc ?_ ?_ | refine kQs ?_ ?_ ?_ | exact OLe.mapS0 rfl)) <;> try exact kZ
      · rw [show l.any p = true from List.any_eq_true.2 ⟨l[n], List.getElem_mem hnl, hpn⟩, decide_eq_true (by omega)]
  obtain ⟨k, q1, e⟩ := q1
  rw [← e]
  refine PCalls.of (N := 9) (res := [.tmp 4]) mixed Try.func64 rfl rfl rfl (by kernel_rfl) (by simp) [0, 1, 4] ?_
  repeat' (first | exact cl1 | (refine stx ?_; first | exact exHM _ | refine exU8 ?_) | ((with_reducible show callX _ _ _ _ _); (first | refine call_p (q1) (by kernel_rfl) rfl ?_)) | ((fail_if_success refine stp ?_); (conv => whnf) <;> (first | exact cl2 | refine kX ?_ | refine kP ?_ | refine kBd (fun hc => ?_) (fun hc => ?_) | refine kT ?_ | refine kF ?_ | refine kN ?_ | refine kBm (fun hc => ?_) (fun hc => ?_) | refine kO ?_ | refine kS ?_ | refine kA ?_ | exact PV.leL_nil | refine kC ?_ ?_ | refine And.intro ?_ ?_ | refine ix_map (fun x hx => ?_) | refine exU8 ?_ | refine nilc (fun hn => ?_) ?_ | exact cl3 | refine imp0 (fun hpos => ?_) | refine kG ?_ ?_ | exact rfl | exact trivial | (first | refine stq ?_ | fail)))) <;> (try exact cl5)
  all_goals (refine LeG.bool ?_; simp)
end Go.Proofs.Ytgclicahmbgfiaa
