/- A part of the proof: contracts of the functions that the statement reaches. -/
import Derived.Test.YtgclicahmbgfiaaChp0
set_option linter.unusedSimpArgs false
set_option linter.unusedVariables false
set_option linter.unnecessarySimpa false
set_option maxRecDepth 100000
set_option maxHeartbeats 40000000
open Go.Sg.XAlt renaming l → kX
open Go.Sg.Sq renaming pr → kP
open Go.Sg.Br renaming tt → kT, ff → kF, not → kN, dec → kBd, mk → kBm
open Go.Sg.Opt renaming nn → kO, ss → kS
open Go.Sg.AltA renaming l → kA
open Go.Sg.PV renaming leL_cons → kC
open Go.Sg renaming fits_i64 → kG
open Go.Sg.VLe renaming pe → kVp, agg → kVa, tup → kVt, fn → kVf
open Go.Sg.VLeL renaming cons → kVc
open Go.Sg.OLe renaming rowe2 → kQw, mape → kQm, itere → kQj, chane → kQc, mapSe → kQs
open Go.Sg.HpLe renaming dd → kHd, mk → kHm
namespace Go.Proofs.Ytgclicahmbgfiaa
open Go Go.Sg
def okE (x : Dc) : Prop := x.par.length < 140737488355328 ∧ x.rev.length < 1000000 ∧ x.need.length < 1000000
theorem okE.d {x : Dc} (h : okE x) : okD x := ⟨h.1, by have := h.2.1; omega, by have := h.2.2; omega⟩
theorem check_calls (l : List Dc) (hl : l.length < 1000000) (hd : ∀ x ∈ l, okE x) : PCalls Try.prog 17 [eL l] (eI (chkA l)) := by
  by_cases h96 : (4096 : Int) < l.length
  · have h96' : (4096 : Int) < ((l.map eA).length : Int) := by rw [List.length_map]; exact h96
    rw [chkA_lim h96]
    refine PCalls.of (N := 43) (res := [.tmp 2]) mixed Try.func17 rfl rfl rfl (by kernel_rfl) (by simp) [0, 2, 3, 4, 5, 8, 11, 12, 13, 14, 41] ?_
    repeat' (first | exact cl1 | exact kE | (refine stx ?_; refine exU8 ?_) | ((fail_if_success refine stp ?_); (conv => whnf) <;> (first | exact cl2 | refine kBd (fun hc => ?_) (fun hc => absurd h96' hc) | refine kX ?_ | refine kP ?_ | refine kBd (fun hc => ?_) (fun hc => ?_) | refine kT ?_ | refine kF ?_ | refine kN ?_ | refine kBm (fun hc => ?_) (fun hc => ?_) | refine kO ?_ | refine kS ?_ | refine kA ?_ | refine kC ?_ ?_ | refine And.intro ?_ ?_ | refine ix_map (fun x hx => ?_) | refine exU8 ?_ | refine nilc (fun hn => ?_) ?_ | exact kW1 | refine imp0 (fun hpos => ?_) | refine kG ?_ ?_ | exact kW2 | (first | refine stq ?_ | fail)))) <;> (try exact cl5)
  have h96' : ¬ (4096 : Int) < ((l.map eA).length : Int) := by rw [List.length_map]; exact h96
  have q0 := newShelf_calls l hl
  refine PCalls.of (N := 43) (res := [.tmp 2]) mixed Try.func17 rfl rfl rfl (by kernel_rfl) (by simp) [0, 2, 3, 4, 5, 8, 11, 12, 13, 14, 41] ?_
  repeat' (first | exact cl1 | exact kE | (refine stx ?_; refine exU8 ?_) | ((with_reducible show callX _ _ _ _ _); (first | refine call_p (q0) (by kernel_rfl) rfl ?_)) | ((fail_if_success refine stp ?_); (conv => whnf) <;> (first | exact cl2 | refine kBd (fun hc => absurd hc h96') (fun hc => ?_) | refine kX ?_ | refine kP ?_ | refine kBd (fun hc => ?_) (fun hc => ?_) | refine kT ?_ | refine kF ?_ | refine kN ?_ | refine kBm (fun hc => ?_) (fun hc => ?_) | refine kO ?_ | refine kS ?_ | refine kA ?_ | refine kC ?_ ?_ | refine And.intro ?_ ?_ | refine ix_map (fun x hx => ?_) | refine exU8 ?_ | refine nilc (fun hn => ?_) ?_ | exact kW1 | refine imp0 (fun hpos => ?_) | refine kG ?_ ?_ | exact kW2 | (first | refine stq ?_ | fail)))) <;> (try exact cl5)
  refine Wpc.loopB (α := {i : Nat // i ≤ l.length ∧ okFrom rightA Dc.no (lastNo Dc.no l i) (l.drop i) = okFrom rightA Dc.no (-1) l ∧ ∀ j w, j < i → l[j]? = some w → namB l w = true}) mixed [0, 2, 3, 4, 5, 8, 11, 12, 13, 14, 41] (fun i => [(13, .p (eI i.1))]) (fun i => l.length - i.1) ⟨0, by omega, rfl, by intro j w h; omega⟩ ?_ ?_
  · (first | refine Ent.ofA [] ?_ | refine Ent.ofC [] ?_) <;> (repeat' (first | exact kQ1 | refine kHd ?_ | refine kHm rfl (by simp) rfl (fun h => AObj.noConfusion h) ?_ ?_ | refine And.intro ?_ ?_ | refine kVp ?_ | refine kVa ?_ | refine kVt ?_ | refine kVf ?_ ?_ | refine kVc ?_ ?_ | exact kQ2 | refine VLe.rsle rfl ?_ ?_ ?_ | refine kQw ?_ ?_ | refine kQm ?_ ?_ | refine kQj ?_ ?_ | refine kQc ?_ ?_ | refine kQs ?_ ?_ ?_)) <;> try exact kZ
  rintro ⟨i, hi, hq, hn⟩
  have hi : i ≤ l.length := hi
  have hq : okFrom rightA Dc.no (lastNo Dc.no l i) (l.drop i) = okFrom rightA Dc.no (-1) l := hq
  have hn : ∀ j w, j < i → l[j]? = some w → namB l w = true := hn
  cases hxi : l[i]? with
  | none =>
    have hge : l.length ≤ i := List.getElem?_eq_none_iff.1 hxi
    have hno : ¬ ((i : Int) < ((l.map eA).length : Int)) := by rw [List.length_map]; omega
    repeat' (first | exact cl1 | exact kE | (refine stx ?_; refine exU8 ?_) | ((fail_if_success refine stp ?_); (conv => whnf) <;> (first | exact cl2 | refine kBn hno fun hc => ?_ | refine kX ?_ | refine kP ?_ | refine kBd (fun hc => ?_) (fun hc => ?_) | refine kT ?_ | refine kF ?_ | refine kN ?_ | refine kBm (fun hc => ?_) (fun hc => ?_) | refine kO ?_ | refine kS ?_ | refine kA ?_ | refine kC ?_ ?_ | refine And.intro ?_ ?_ | refine ix_map (fun x hx => ?_) | refine exU8 ?_ | refine nilc (fun hn => ?_) ?_ | exact kW1 | refine imp0 (fun hpos => ?_) | refine kG ?_ ?_ | exact kW2 | (first | refine stq ?_ | fail)))) <;> (try exact cl5)
    rw [chkA_ok h96 (okFrom_fin rightA Dc.no hq hge) fun x hx => by
      obtain ⟨j, hj⟩ := List.getElem?_of_mem hx
      exact hn j x (by have := (List.getElem?_eq_some_iff.1 hj).1; omega) hj]
    exact LeG.refl _
  | some z =>
    have hlt : i < l.length := (List.getElem?_eq_some_iff.1 hxi).1
    have hyes : ((i : Int) < ((l.map eA).length : Int)) := by rw [List.length_map]; omega
    have hm := List.mem_of_getElem? hxi
    obtain ⟨d1, d2, d3⟩ := hd z hm
    have q1 := right_calls z d1 (by omega) (by omega)
    have q2 := has_shelf_calls l z d2 d3
    have hbad : (rightA z && decide (lastNo Dc.no l i < z.no)) = false → chkA l = 170 := fun h => chkA_bad h96 (okFrom_no rightA Dc.no hxi hq h)
    have hgood : (rightA z && decide (lastNo Dc.no l i < z.no)) = true → okFrom rightA Dc.no (lastNo Dc.no l (i + 1)) (l.drop (i + 1)) = okFrom rightA Dc.no (-1) l := fun h => okFrom_yes rightA Dc.no hxi hq h
    have hnn : namB l z = true → ∀ j w, j < i + 1 → l[j]? = some w → namB l w = true := fun h j w hj hw => by
      rcases Nat.lt_succ_iff_lt_or_eq.1 hj with h1 | h1
      · exact hn j w h1 hw
      · rw [h1, hxi] at hw; injection hw with hw; rw [← hw]; exact h
    cases hr : rightA z with
    | false =>
      rw [hr] at q1
      rw [hbad (by rw [hr]; rfl)]
      repeat' (first | exact cl1 | exact kE | (refine stx ?_; refine exU8 ?_) | ((with_reducible show callX _ _ _ _ _); (first | refine call_p (q1) (by kernel_rfl) rfl ?_)) | ((fail_if_success refine stp ?_); (conv => whnf) <;> (first | exact cl2 | refine kBy hyes fun hc => ?_ | refine ix_at hxi ?_ | refine kX ?_ | refine kP ?_ | refine kBd (fun hc => ?_) (fun hc => ?_) | refine kT ?_ | refine kF ?_ | refine kN ?_ | refine kBm (fun hc => ?_) (fun hc => ?_) | refine kO ?_ | refine kS ?_ | refine kA ?_ | refine kC ?_ ?_ | refine And.intro ?_ ?_ | refine ix_map (fun x hx => ?_) | refine exU8 ?_ | refine nilc (fun hn => ?_) ?_ | exact kW1 | refine imp0 (fun hpos => ?_) | refine kG ?_ ?_ | exact kW2 | (first | refine stq ?_ | fail)))) <;> (try exact cl5)
    | true =>
      rw [hr] at q1
      have h0 := rightA_no hr
      cases i with
      | zero =>
        have hg := hgood (by rw [hr]; show (true && decide ((-1 : Int) < z.no)) = true; rw [decide_eq_true (by omega)]; rfl)
        have hi0 : ¬ (0 : Int) < ((0 : Nat) : Int) := by decide
        cases h2 : namB l z with
        | false =>
          rw [h2] at q2
          rw [chkA_nam h96 hm h2]
          repeat' (first | exact cl1 | exact kE | (refine stx ?_; refine exU8 ?_) | ((with_reducible show callX _ _ _ _ _); (first | refine call_p (q1) (by kernel_rfl) rfl ?_ | refine call_p (q2) (by kernel_rfl) rfl ?_)) | ((fail_if_success refine stp ?_); (conv => whnf) <;> (first | exact cl2 | refine kBy hyes fun hc => ?_ | refine ix_at hxi ?_ | refine kBn hi0 fun hc => ?_ | refine kX ?_ | refine kP ?_ | refine kBd (fun hc => ?_) (fun hc => ?_) | refine kT ?_ | refine kF ?_ | refine kN ?_ | refine kBm (fun hc => ?_) (fun hc => ?_) | refine kO ?_ | refine kS ?_ | refine kA ?_ | refine kC ?_ ?_ | refine And.intro ?_ ?_ | refine ix_map (fun x hx => ?_) | refine exU8 ?_ | refine nilc (fun hn => ?_) ?_ | exact kW1 | refine imp0 (fun hpos => ?_) | refine kG ?_ ?_ | exact kW2 | (first | refine stq ?_ | fail)))) <;> (try exact cl5)
        | true =>
          rw [h2] at q2
          repeat' (first | exact cl1 | exact kE | (refine stx ?_; refine exU8 ?_) | ((with_reducible show callX _ _ _ _ _); (first | refine call_p (q1) (by kernel_rfl) rfl ?_ | refine call_p (q2) (by kernel_rfl) rfl ?_)) | ((fail_if_success refine stp ?_); (conv => whnf) <;> (first | exact cl2 | refine kBy hyes fun hc => ?_ | refine ix_at hxi ?_ | refine kBn hi0 fun hc => ?_ | refine kX ?_ | refine kP ?_ | refine kBd (fun hc => ?_) (fun hc => ?_) | refine kT ?_ | refine kF ?_ | refine kN ?_ | refine kBm (fun hc => ?_) (fun hc => ?_) | refine kO ?_ | refine kS ?_ | refine kA ?_ | refine kC ?_ ?_ | refine And.intro ?_ ?_ | refine ix_map (fun x hx => ?_) | refine exU8 ?_ | refine nilc (fun hn => ?_) ?_ | exact kW1 | refine imp0 (fun hpos => ?_) | refine kG ?_ ?_ | exact kW2 | (first | refine stq ?_ | fail)))) <;> (try exact cl5)
          refine ⟨⟨0 + 1, hlt, hg, hnn h2⟩, by show l.length - (0 + 1) < l.length - 0; omega, ?_⟩
          (first | refine Ent.ofA [] ?_ | refine Ent.ofC [] ?_) <;> (repeat' (first | exact kQ1 | refine kHd ?_ | refine kHm rfl (by simp) rfl (fun h => AObj.noConfusion h) ?_ ?_ | refine And.intro ?_ ?_ | refine kVp ?_ | refine kVa ?_ | refine kVt ?_ | refine kVf ?_ ?_ | refine kVc ?_ ?_ | exact kQ2 | refine VLe.rsle rfl ?_ ?_ ?_ | refine kQw ?_ ?_ | refine kQm ?_ ?_ | refine kQj ?_ ?_ | refine kQc ?_ ?_ | refine kQs ?_ ?_ ?_)) <;> try exact kZ
      | succ k =>
        have hk : k < l.length := by omega
        obtain ⟨y, hy⟩ : ∃ y, l[k]? = some y := ⟨_, List.getElem?_eq_getElem hk⟩
        have hy2 : l[(((k + 1 : Nat) : Int) - 1).toNat]? = some y := by rw [show (((k + 1 : Nat) : Int) - 1).toNat = k by omega]; exact hy
        have hl0 : lastNo Dc.no l (k + 1) = y.no := lastNo_succ Dc.no hy
        have hi1 : (0 : Int) < ((k + 1 : Nat) : Int) := by omega
        by_cases hzy : z.no ≤ y.no
        · rw [hbad (by rw [hl0, decide_eq_false (show ¬ y.no < z.no by omega), Bool.and_false])]
          repeat' (first | exact cl1 | exact kE | (refine stx ?_; refine exU8 ?_) | ((with_reducible show callX _ _ _ _ _); (first | refine call_p (q1) (by kernel_rfl) rfl ?_)) | ((fail_if_success refine stp ?_); (conv => whnf) <;> (first | exact cl2 | refine kBy hyes fun hc => ?_ | refine ix_at hxi ?_ | refine ix_at hy2 ?_ | refine kBy hi1 fun hc => ?_ | refine kBy hzy fun hc => ?_ | refine kX ?_ | refine kP ?_ | refine kBd (fun hc => ?_) (fun hc => ?_) | refine kT ?_ | refine kF ?_ | refine kN ?_ | refine kBm (fun hc => ?_) (fun hc => ?_) | refine kO ?_ | refine kS ?_ | refine kA ?_ | refine kC ?_ ?_ | refine And.intro ?_ ?_ | refine ix_map (fun x hx => ?_) | refine exU8 ?_ | refine nilc (fun hn => ?_) ?_ | exact kW1 | refine imp0 (fun hpos => ?_) | refine kG ?_ ?_ | exact kW2 | (first | refine stq ?_ | fail)))) <;> (try exact cl5)
        · have hg := hgood (by rw [hr, hl0, decide_eq_true (show y.no < z.no by omega)]; rfl)
          cases h2 : namB l z with
          | false =>
            rw [h2] at q2
            rw [chkA_nam h96 hm h2]
            repeat' (first | exact cl1 | exact kE | (refine stx ?_; refine exU8 ?_) | ((with_reducible show callX _ _ _ _ _); (first | refine call_p (q1) (by kernel_rfl) rfl ?_ | refine call_p (q2) (by kernel_rfl) rfl ?_)) | ((fail_if_success refine stp ?_); (conv => whnf) <;> (first | exact cl2 | refine kBy hyes fun hc => ?_ | refine ix_at hxi ?_ | refine ix_at hy2 ?_ | refine kBy hi1 fun hc => ?_ | refine kBn hzy fun hc => ?_ | refine kX ?_ | refine kP ?_ | refine kBd (fun hc => ?_) (fun hc => ?_) | refine kT ?_ | refine kF ?_ | refine kN ?_ | refine kBm (fun hc => ?_) (fun hc => ?_) | refine kO ?_ | refine kS ?_ | refine kA ?_ | refine kC ?_ ?_ | refine And.intro ?_ ?_ | refine ix_map (fun x hx => ?_) | refine exU8 ?_ | refine nilc (fun hn => ?_) ?_ | exact kW1 | refine imp0 (fun hpos => ?_) | refine kG ?_ ?_ | exact kW2 | (first | refine stq ?_ | fail)))) <;> (try exact cl5)
          | true =>
            rw [h2] at q2
            repeat' (first | exact cl1 | exact kE | (refine stx ?_; refine exU8 ?_) | ((with_reducible show callX _ _ _ _ _); (first | refine call_p (q1) (by kernel_rfl) rfl ?_ | refine call_p (q2) (by kernel_rfl) rfl ?_)) | ((fail_if_success refine stp ?_); (conv => whnf) <;> (first | exact cl2 | refine kBy hyes fun hc => ?_ | refine ix_at hxi ?_ | refine ix_at hy2 ?_ | refine kBy hi1 fun hc => ?_ | refine kBn hzy fun hc => ?_ | refine kX ?_ | refine kP ?_ | refine kBd (fun hc => ?_) (fun hc => ?_) | refine kT ?_ | refine kF ?_ | refine kN ?_ | refine kBm (fun hc => ?_) (fun hc => ?_) | refine kO ?_ | refine kS ?_ | refine kA ?_ | refine kC ?_ ?_ | refine And.intro ?_ ?_ | refine ix_map (fun x hx => ?_) | refine exU8 ?_ | refine nilc (fun hn => ?_) ?_ | exact kW1 | refine imp0 (fun hpos => ?_) | refine kG ?_ ?_ | exact kW2 | (first | refine stq ?_ | fail)))) <;> (try exact cl5)
            refine ⟨⟨k + 1 + 1, hlt, hg, hnn h2⟩, by show l.length - (k + 1 + 1) < l.length - (k + 1); omega, ?_⟩
            (first | refine Ent.ofA [] ?_ | refine Ent.ofC [] ?_) <;> (repeat' (first | exact kQ1 | refine kHd ?_ | refine kHm rfl (by simp) rfl (fun h => AObj.noConfusion h) ?_ ?_ | refine And.intro ?_ ?_ | refine kVp ?_ | refine kVa ?_ | refine kVt ?_ | refine kVf ?_ ?_ | refine kVc ?_ ?_ | exact kQ2 | refine VLe.rsle rfl ?_ ?_ ?_ | refine kQw ?_ ?_ | refine kQm ?_ ?_ | refine kQj ?_ ?_ | refine kQc ?_ ?_ | refine kQs ?_ ?_ ?_)) <;> try exact kZ
end Go.Proofs.Ytgclicahmbgfiaa

namespace Go.Proofs.Ytgclicahmbgfiaa
open Go Go.Sg
theorem add1_calls (x : Dc) (n : Int) : PCalls Try.prog 37 [eA x, eI n] (eI (cmpI x.no n)) := by
  refine PCalls.of (N := 9) (res := [.tmp 4]) mixed Try.func37 rfl rfl rfl (by kernel_rfl) (by simp) [0, 1, 2, 4] ?_
  repeat' (first | exact cl1 | (refine stx ?_; first | exact exHM _ | refine exU8 ?_) | ((with_reducible show callX _ _ _ _ _); (first | refine call_p (cmp_calls _ _) (by kernel_rfl) rfl ?_)) | ((fail_if_success refine stp ?_); (conv => whnf) <;> (first | exact cl2 | refine kX ?_ | refine kP ?_ | refine kBd (fun hc => ?_) (fun hc => ?_) | refine kT ?_ | refine kF ?_ | refine kN ?_ | refine kBm (fun hc => ?_) (fun hc => ?_) | refine kO ?_ | refine kS ?_ | refine kA ?_ | exact PV.leL_nil | refine kC ?_ ?_ | refine And.intro ?_ ?_ | refine ix_map (fun x hx => ?_) | refine exU8 ?_ | refine nilc (fun hn => ?_) ?_ | exact cl3 | refine imp0 (fun hpos => ?_) | refine kG ?_ ?_ | exact rfl | exact trivial | (first | refine stq ?_ | fail)))) <;> (try exact cl5)
theorem bs_calls (f : FuncId) (t : PV) (n : Int) (h : ∀ x, PCalls Try.prog f [eA x, t] (eI (cmpI (Dc.no x) n))) (hf : enters Try.prog f = true) (l : List (Dc)) (hl : l.length < 1000000) (hs : l.Pairwise (fun a b => Dc.no a < Dc.no b)) :
    PCalls Try.prog 36 [eL l, t, .fn (.func f) [] []] (.tup [eI (posN Dc.no n l), .bool (hasN Dc.no n l)]) := by
  refine PCalls.of (N := 49) (res := [.tmp 6, .tmp 7]) mixed Try.func36 rfl rfl rfl (by kernel_rfl) (by simp) [0, 1, 2, 6, 7, 8, 9, 10, 11, 17, 31] ?_
  repeat' (first | exact cl1 | (refine stx ?_; first | exact exHM _ | refine exU8 ?_) | ((fail_if_success refine stp ?_); (conv => whnf) <;> (first | exact cl2 | refine kX ?_ | refine kP ?_ | refine kBd (fun hc => ?_) (fun hc => ?_) | refine kT ?_ | refine kF ?_ | refine kN ?_ | refine kBm (fun hc => ?_) (fun hc => ?_) | refine kO ?_ | refine kS ?_ | refine kA ?_ | exact PV.leL_nil | refine kC ?_ ?_ | refine And.intro ?_ ?_ | refine ix_map (fun x hx => ?_) | refine exU8 ?_ | refine nilc (fun hn => ?_) ?_ | exact cl3 | refine imp0 (fun hpos => ?_) | refine kG ?_ ?_ | exact rfl | exact trivial | (first | refine stq ?_ | fail)))) <;> (try exact cl5)
  refine Wpc.loopB (α := {x : Nat × Nat // (x.1 ≤ x.2 ∧ x.2 ≤ l.length) ∧ (∀ j w, j < x.1 → l[j]? = some w → Dc.no w < n) ∧ (∀ j w, x.2 ≤ j → l[j]? = some w → n ≤ Dc.no w)}) mixed [0, 1, 2, 6, 7, 8, 9, 10, 11, 17, 31] (fun x => [(9, .p (eI x.1.1)), (10, .p (eI x.1.2))]) (fun x => x.1.2 - x.1.1) ⟨(0, l.length), by simp, by intro j w h; exact absurd h (by simp), by intro j w h hw; exact absurd (List.getElem?_eq_some_iff.1 hw).1 (by simp at h; omega)⟩ ?_ ?_
  · (first | refine Ent.ofA [] ?_ | refine Ent.ofC [] ?_) <;> (repeat' (first | exact trivial | refine kHd ?_ | refine kHm rfl (by simp) rfl (fun h => AObj.noConfusion h) ?_ ?_ | refine And.intro ?_ ?_ | exact cl9 | refine kVp ?_ | refine kVa ?_ | refine kVt ?_ | refine kVf ?_ ?_ | refine kVc ?_ ?_ | exact VLeL.nil | exact OLe.row _ _ | rfl | refine VLe.rsle rfl ?_ ?_ ?_ | refine kQw ?_ ?_ | refine kQm ?_ ?_ | refine kQj ?_ ?_ | refine kQc ?_ ?_ | refine kQs ?_ ?_ ?_ | exact OLe.mapS0 rfl)) <;> try exact kZ
  rintro ⟨⟨a, b⟩, h1, h2, h3⟩
  have h1 : a ≤ b ∧ b ≤ l.length := h1
  have h2 : ∀ j w, j < a → l[j]? = some w → Dc.no w < n := h2
  have h3 : ∀ j w, b ≤ j → l[j]? = some w → n ≤ Dc.no w := h3
  repeat' (first | exact cl1 | (refine stx ?_; first | exact exHM _ | refine exU8 ?_) | ((with_reducible show callX _ _ _ _ _); (first | refine call_p (h _) hf rfl ?_)) | ((fail_if_success refine stp ?_); (conv => whnf) <;> (first | exact cl2 | refine kX ?_ | refine kP ?_ | refine kBd (fun hc => ?_) (fun hc => ?_) | refine kT ?_ | refine kF ?_ | refine kN ?_ | refine kBm (fun hc => ?_) (fun hc => ?_) | refine kO ?_ | refine kS ?_ | refine kA ?_ | exact PV.leL_nil | refine kC ?_ ?_ | refine And.intro ?_ ?_ | refine ix_map (fun x hx => ?_) | refine exU8 ?_ | refine nilc (fun hn => ?_) ?_ | refine call_p (h _) hf rfl ?_ | exact cl3 | refine imp0 (fun hpos => ?_) | refine kG ?_ ?_ | exact rfl | exact trivial | (first | refine stq ?_ | fail)))) <;> (try exact cl5)
  · show 0 ≤ IntKind.i64.wrap ((IntKind.u64.wrap ((a : Int) + b)).fdiv (2 ^ min (Int.toNat 1) IntKind.u64.bits))
    rw [mid_eq a b (by omega)]; omega
  · show IntKind.i64.wrap ((IntKind.u64.wrap ((a : Int) + b)).fdiv (2 ^ min (Int.toNat 1) IntKind.u64.bits)) < ((l.map eA).length : Int)
    have hc : (a : Int) < (b : Int) := hc
    rw [mid_eq a b (by omega), List.length_map]; omega
  · show -9223372036854775808 ≤ IntKind.i64.wrap ((IntKind.u64.wrap ((a : Int) + b)).fdiv (2 ^ min (Int.toNat 1) IntKind.u64.bits)) + 1
    rw [mid_eq a b (by omega)]; omega
  · show IntKind.i64.wrap ((IntKind.u64.wrap ((a : Int) + b)).fdiv (2 ^ min (Int.toNat 1) IntKind.u64.bits)) + 1 ≤ 9223372036854775807
    rw [mid_eq a b (by omega)]; omega
  · rename_i c1
    have c1 : (a : Int) < (b : Int) := c1
    have hx : l[(IntKind.i64.wrap ((IntKind.u64.wrap ((a : Int) + b)).fdiv (2 ^ min (Int.toNat 1) IntKind.u64.bits))).toNat]? = some x := hx
    rw [mid_eq a b (by omega), Int.toNat_natCast] at hx
    rw [cmpI_lt] at hc
    refine ⟨⟨((a + b) / 2 + 1, b), by show (a + b) / 2 + 1 ≤ b ∧ b ≤ l.length; omega, fun j w hj hw => ?_, h3⟩, by show b - ((a + b) / 2 + 1) < b - a; omega, ?_⟩
    · have hj : j < (a + b) / 2 + 1 := hj
      have := srt_le Dc.no hs (show j ≤ (a + b) / 2 by omega) hw hx
      omega
    · (first | refine Ent.ofA [] ?_ | refine Ent.ofC [] ?_) <;> (repeat' (first | exact trivial | refine kHd ?_ | refine kHm rfl (by simp) rfl (fun h => AObj.noConfusion h) ?_ ?_ | refine And.intro ?_ ?_ | exact cl9 | refine kVp ?_ | refine kVa ?_ | refine kVt ?_ | refine kVf ?_ ?_ | refine kVc ?_ ?_ | exact VLeL.nil | exact OLe.row _ _ | rfl | refine VLe.rsle rfl ?_ ?_ ?_ | refine kQw ?_ ?_ | refine kQm ?_ ?_ | refine kQj ?_ ?_ | refine kQc ?_ ?_ | refine kQs ?_ ?_ ?_ | exact OLe.mapS0 rfl)) <;> try exact kZ
      exact congrArg (PV.int .i64) (show IntKind.i64.wrap ((IntKind.u64.wrap ((a : Int) + b)).fdiv (2 ^ min (Int.toNat 1) IntKind.u64.bits)) + 1 = (((a + b) / 2 + 1 : Nat) : Int) by rw [mid_eq a b (by omega)]; omega)
  · rename_i c1
    have c1 : (a : Int) < (b : Int) := c1
    have hx : l[(IntKind.i64.wrap ((IntKind.u64.wrap ((a : Int) + b)).fdiv (2 ^ min (Int.toNat 1) IntKind.u64.bits))).toNat]? = some x := hx
    rw [mid_eq a b (by omega), Int.toNat_natCast] at hx
    rw [cmpI_lt] at hc
    refine ⟨⟨(a, (a + b) / 2), by show a ≤ (a + b) / 2 ∧ (a + b) / 2 ≤ l.length; omega, h2, fun j w hj hw => ?_⟩, by show (a + b) / 2 - a < b - a; omega, ?_⟩
    · have hj : (a + b) / 2 ≤ j := hj
      have := srt_le Dc.no hs hj hx hw
      omega
    · (first | refine Ent.ofA [] ?_ | refine Ent.ofC [] ?_) <;> (repeat' (first | exact trivial | refine kHd ?_ | refine kHm rfl (by simp) rfl (fun h => AObj.noConfusion h) ?_ ?_ | refine And.intro ?_ ?_ | exact cl9 | refine kVp ?_ | refine kVa ?_ | refine kVt ?_ | refine kVf ?_ ?_ | refine kVc ?_ ?_ | exact VLeL.nil | exact OLe.row _ _ | rfl | refine VLe.rsle rfl ?_ ?_ ?_ | refine kQw ?_ ?_ | refine kQm ?_ ?_ | refine kQj ?_ ?_ | refine kQc ?_ ?_ | refine kQs ?_ ?_ ?_ | exact OLe.mapS0 rfl)) <;> try exact kZ
      exact congrArg (PV.int .i64) (show IntKind.i64.wrap ((IntKind.u64.wrap ((a : Int) + b)).fdiv (2 ^ min (Int.toNat 1) IntKind.u64.bits)) = (((a + b) / 2 : Nat) : Int) by rw [mid_eq a b (by omega)])
  · rename_i c1
    have c1 : ¬ (a : Int) < (b : Int) := c1
    have hx : l[a]? = some x := hx
    have hp : posN Dc.no n l = a := posN_eq Dc.no l n a (by omega) h2 (fun y hy => h3 a y (by omega) hy)
    unfold hasN
    rw [hp, hx]
    simp only
    exact LeG.of (congrArg (fun b => PV.tup [eI (a : Int), PV.bool b]) (decide_eq_decide.2 cmpI_eq))
  · rename_i c1
    have c1 : ¬ (a : Int) < (b : Int) := c1
    have hc : ¬ (a : Int) < ((l.map eA).length : Int) := hc
    rw [List.length_map] at hc
    have hp : posN Dc.no n l = a := posN_eq Dc.no l n a (by omega) h2 (fun y hy => h3 a y (by omega) hy)
    unfold hasN
    rw [hp, List.getElem?_eq_none (by omega)]
    exact LeG.refl _
end Go.Proofs.Ytgclicahmbgfiaa

namespace Go.Proofs.Ytgclicahmbgfiaa
open Go Go.Sg
theorem clone_icalls (l : List Dc) (h1 : l.length < 1000000) (h0 : 0 < l.length) : ICalls Try.prog 42 0 [] [.p (eL l)] (.rsl 0 41 0 l.length) [(0, .row 41 (l.map eA))] := by
  refine ICalls.of (N := 8) (res := [.tmp 2]) mixed Try.func42 rfl rfl rfl (by kernel_rfl) (by simp) [0, 2, 4] (Nat.le_refl _) ?_
  repeat' (first | exact cl1 | (refine stx ?_; first | exact exHM _ | refine exU8 ?_) | ((fail_if_success refine stp ?_); (conv => whnf) <;> (first | exact cl2 | refine kX ?_ | refine kP ?_ | refine kBd (fun hc => ?_) (fun hc => ?_) | refine kT ?_ | refine kF ?_ | refine kN ?_ | refine kBm (fun hc => ?_) (fun hc => ?_) | refine kO ?_ | refine kS ?_ | refine kA ?_ | exact PV.leL_nil | refine kC ?_ ?_ | refine And.intro ?_ ?_ | refine ix_map (fun x hx => ?_) | refine exU8 ?_ | refine nilc (fun hn => ?_) ?_ | exact cl3 | refine imp0 (fun hpos => ?_) | refine kG ?_ ?_ | exact rfl | exact trivial | (first | refine stq ?_ | fail)))) <;> (try exact cl5)
  · simp at hn; subst hn; simp at h0
  · refine ⟨[], [(0, 320)], ?_, ?_, by decide, by decide, fun i hi => by omega⟩ <;> (repeat' (first | exact trivial | refine kHd ?_ | refine kHm rfl (by simp) rfl (fun h => AObj.noConfusion h) ?_ ?_ | refine And.intro ?_ ?_ | exact cl9 | refine kVp ?_ | refine kVa ?_ | refine kVt ?_ | refine kVf ?_ ?_ | refine kVc ?_ ?_ | exact VLeL.nil | exact OLe.row _ _ | rfl | refine VLe.rsle rfl ?_ ?_ ?_ | refine kQw ?_ ?_ | refine kQm ?_ ?_ | refine kQj ?_ ?_ | refine kQc ?_ ?_ | refine kQs ?_ ?_ ?_ | exact OLe.mapS0 rfl)) <;> simp
theorem clone0_icalls : ICalls Try.prog 42 0 [] [.p (eL [])] (.p (.sl 41 true [])) [] := by
  refine ICalls.of (N := 8) (res := [.tmp 2]) mixed Try.func42 rfl rfl rfl (by kernel_rfl) (by simp) [0, 2, 4] (Nat.le_refl _) ?_
  repeat' (first | exact cl1 | (refine stx ?_; first | exact exHM _ | refine exU8 ?_) | ((fail_if_success refine stp ?_); (conv => whnf) <;> (first | exact cl2 | refine AltA.r ?_ | refine kX ?_ | refine kP ?_ | refine kBd (fun hc => ?_) (fun hc => ?_) | refine kT ?_ | refine kF ?_ | refine kN ?_ | refine kBm (fun hc => ?_) (fun hc => ?_) | refine kO ?_ | refine kS ?_ | refine kA ?_ | exact PV.leL_nil | refine kC ?_ ?_ | refine And.intro ?_ ?_ | refine ix_map (fun x hx => ?_) | refine exU8 ?_ | refine nilc (fun hn => ?_) ?_ | exact cl3 | refine imp0 (fun hpos => ?_) | refine kG ?_ ?_ | exact rfl | exact trivial | (first | refine stq ?_ | fail)))) <;> (try exact cl5)
  · exact ⟨[], [], VLe.p (PV.le_nil _ _ _), trivial, by decide, by simp, fun i hi => by omega⟩
  · exact ⟨[], [], VLe.csl0, trivial, by decide, by simp, fun i hi => by omega⟩
theorem insert0_calls (x : Dc) : PCalls Try.prog 41 [.sl 41 true [], eI 0, eL [x]] (eL [x]) := by
  refine PCalls.of (N := 95) (res := [.tmp 6]) mixed Try.func41 rfl rfl rfl (by kernel_rfl) (by simp) [0, 1, 2, 6, 7, 8, 9, 16, 22, 31, 68] ?_
  repeat' (first | exact cl1 | (refine stx ?_; first | exact exHM _ | refine exU8 ?_) | ((fail_if_success refine stp ?_); (conv => whnf) <;> (first | exact cl2 | refine kX ?_ | refine kP ?_ | refine kBd (fun hc => ?_) (fun hc => ?_) | refine kT ?_ | refine kF ?_ | refine kN ?_ | refine kBm (fun hc => ?_) (fun hc => ?_) | refine kO ?_ | refine kS ?_ | refine kA ?_ | exact PV.leL_nil | refine kC ?_ ?_ | refine And.intro ?_ ?_ | refine ix_map (fun x hx => ?_) | refine exU8 ?_ | refine nilc (fun hn => ?_) ?_ | exact cl3 | refine imp0 (fun hpos => ?_) | refine kG ?_ ?_ | exact rfl | exact trivial | (first | refine stq ?_ | fail)))) <;> (try exact cl5)
  · exfalso; simp at hc
  · exact absurd rfl hc
theorem ov : OvFact Try.prog 65 :=
  ⟨Try.f65, 22, 22, 27, 41, tT2 Try.prog 27, Try.func65, by kernel_rfl, by kernel_rfl, by kernel_rfl, by kernel_rfl, by kernel_rfl, by kernel_rfl⟩
/-- An insertion: the row with the copies, the row with the new element. -/
theorem insert_icalls (l : List Dc) (x : Dc) (p : Nat) (hp : p ≤ l.length) (h1 : l.length < 1000000) : ICalls Try.prog 41 2 [(0, .row 41 (l.map eA)), (1, .row 41 [eA x])] [.rsl 0 41 0 l.length, .p (eI p), .rsl 1 41 0 1] (.p (eL (l.take p ++ x :: l.drop p))) [(0, .dead), (1, .dead)] := by
  refine ICalls.csl fun cap hcap => ?_
  have hA : l.map eA = (l.take p).map eA ++ (l.drop p).map eA := by rw [← List.map_append, List.take_append_drop]
  have hR : (l.take p ++ x :: l.drop p).map eA = (l.take p).map eA ++ eA x :: (l.drop p).map eA := by simp
  have hpB : p = ((l.take p).map eA).length := by simp; omega
  have hnB : l.length = ((l.take p).map eA).length + ((l.drop p).map eA).length := by simp; omega
  refine ICalls.of (N := 95) (res := [.tmp 6]) mixed Try.func41 rfl rfl rfl (by kernel_rfl) (by simp) [0, 1, 2, 6, 7, 8, 9, 16, 22, 31, 68] (Nat.le_refl _) ?_
  repeat' (first | exact cl1 | (refine stx ?_; first | exact exHM _ | refine exU8 ?_) | ((with_reducible show callX _ _ _ _ _); (first | refine call_e ov rfl rfl rfl (by decide) rfl rfl (by decide) (by simp; omega) ?_)) | ((fail_if_success refine stp ?_); (conv => whnf) <;> (first | exact cl2 | refine kX ?_ | refine kP ?_ | refine kBd (fun hc => ?_) (fun hc => ?_) | refine kT ?_ | refine kF ?_ | refine kN ?_ | refine kBm (fun hc => ?_) (fun hc => ?_) | refine kO ?_ | refine kS ?_ | refine kA ?_ | exact PV.leL_nil | refine kC ?_ ?_ | refine And.intro ?_ ?_ | refine ix_map (fun x hx => ?_) | refine exU8 ?_ | refine nilc (fun hn => ?_) ?_ | refine call_e ov rfl rfl rfl (by decide) rfl rfl (by decide) (by simp; omega) ?_ | exact cl3 | refine imp0 (fun hpos => ?_) | refine kG ?_ ?_ | exact rfl | exact trivial | (first | refine stq ?_ | fail)))) <;> (try exact cl5)
  · have hc : (p : Int) = l.length := hc
    have hpl : p = l.length := by omega
    refine ⟨[1090], [(0, 0), (1, 1)], VLe.frzR (by simp) rfl (by decide) (by simp) ?_, HpLe.dd (HpLe.dd trivial), by decide, by simp, fun i hi => by match i, hi with | 0, _ => rfl | 1, _ => rfl⟩
    show PV.sl 41 false _ = PV.sl 41 false _
    congr 1
    subst hpl
    rw [List.drop_zero, List.take_of_length_le (by simp)]
    simp
  · rename_i c1 c2
    have c2 : ¬ (p : Int) = l.length := c2
    revert hA hR hpB hnB
    generalize (l.take p).map eA = B
    generalize (l.drop p).map eA = C
    intro hA hR hpB hnB
    subst hpB
    have q1 : ((l.length : Int) + ((1 : Nat) : Int) - (B.length : Int)).toNat = C.length + 1 := by omega
    have q2 : ((B.length : Int) + ((1 : Nat) : Int)).toNat = B.length + 1 := by omega
    have key := fun z => ins_grow B C (eA x) z
    refine ⟨[1858], [(0, 0), (1, 1)], VLe.frzR (by simp) rfl (by decide) ?_ ?_, HpLe.dd (HpLe.dd trivial), by decide, by simp, fun i hi => by match i, hi with | 0, _ => rfl | 1, _ => rfl⟩
    · simp only [Int.toNat_natCast, Int.reduceToNat, Nat.sub_zero, Nat.zero_add, Nat.add_zero, List.drop_zero, q1, q2]
      rw [hA, hnB]
      have := congrArg List.length (key (elemZ (isAggD ((fun x => x.desc) Try.prog.types[27-1])) []))
      simp [List.length_append] at this ⊢
      omega
    · show PV.sl 41 false _ = PV.sl 41 false _
      congr 1
      simp only [Int.toNat_natCast, Int.reduceToNat, Nat.sub_zero, Nat.zero_add, Nat.add_zero, List.drop_zero, q1, q2]
      rw [hR, hA, hnB]
      exact key _
  · rename_i c1 c2
    have c2 : ¬ (p : Int) = l.length := c2
    revert hA hR hpB hnB
    generalize (l.take p).map eA = B
    generalize (l.drop p).map eA = C
    intro hA hR hpB hnB
    subst hpB
    have q1 : ((l.length : Int) + ((1 : Nat) : Int)).toNat = B.length + C.length + 1 := by omega
    have q2 : ((B.length : Int) + ((1 : Nat) : Int)).toNat = B.length + 1 := by omega
    refine ⟨[0], [(0, 0), (1, 1)], VLe.frzC (by simp) rfl (by decide) ?_ ?_, HpLe.dd (HpLe.dd trivial), by decide, by simp, fun i hi => by match i, hi with | 0, _ => rfl | 1, _ => rfl⟩
    · simp only [Int.toNat_natCast, Int.reduceToNat, Nat.sub_zero, Nat.zero_add, Nat.add_zero, List.drop_zero, q1, q2]
      rw [hA]
      simp [List.length_append]
      omega
    · show PV.sl 41 false _ = PV.sl 41 false _
      congr 1
      simp only [Int.toNat_natCast, Int.reduceToNat, Nat.sub_zero, Nat.zero_add, Nat.add_zero, List.drop_zero, q1, q2]
      rw [hR, hA]
      exact ins_place B C (eA x)
end Go.Proofs.Ytgclicahmbgfiaa

namespace Go.Proofs.Ytgclicahmbgfiaa
open Go Go.Sg
def addA (l : List Dc) (x : Dc) : List Dc × Int :=
  if chkA l = 0 then (if rightA x then (if hasN Dc.no x.no l then ([], 151) else if namB l x then (insN Dc.no l x, 0) else ([], 170)) else ([], 170)) else ([], chkA l)
def eR (x : List Dc × Int) : PV := .tup [eL x.1, eI x.2]
theorem chkA_srt {l : List Dc} (h : chkA l = 0) : l.length ≤ 4096 ∧ (∀ x ∈ l, rightA x = true) ∧ l.Pairwise (fun a b => Dc.no a < Dc.no b) ∧ ∀ x ∈ l, namB l x = true := by
  unfold chkA at h
  by_cases h1 : (4096 : Int) < l.length
  · rw [if_pos h1] at h; cases h
  · rw [if_neg h1] at h
    cases hb : (okFrom rightA Dc.no (-1) l && l.all (namB l)) with
    | false => rw [hb] at h; cases h
    | true =>
      rw [Bool.and_eq_true] at hb
      obtain ⟨b1, b2⟩ := hb
      rw [okFrom_iff] at b1
      exact ⟨by omega, fun x hx => (b1.1 x hx).1, b1.2, fun x hx => List.all_eq_true.1 b2 x hx⟩
theorem nilR {z : Nat} (e : PV) : LeG (.tup [.sl z true [], e]) (.tup [eL [], e]) := LeG.mk (PV.le_tup (PV.leL_cons (PV.le_nil _ _ _) (PV.leL_refl _)))
theorem add_calls (l : List Dc) (x : Dc) (hl : l.length < 1000000) (hd : ∀ y ∈ l, okE y) (hx : okE x) : PCalls Try.prog 13 [eL l, eA x] (eR (addA l x)) := by
  have q1 := check_calls l hl hd
  unfold addA
  by_cases hz : chkA l = 0
  · rw [hz] at q1
    rw [if_pos hz]
    obtain ⟨h96, _, hs, _⟩ := chkA_srt hz
    have q2 := right_calls x hx.1 hx.d.2.1 hx.d.2.2
    have q3 := bs_calls 37 (eI x.no) (Dc.no x) (fun y => add1_calls y x.no) (by kernel_rfl) l hl hs
    have q4 := newShelf_calls l hl
    have q5 := has_shelf_calls l x hx.2.1 hx.2.2
    have hp := posN_le Dc.no (Dc.no x) l
    cases hr : rightA x with
    | false =>
      rw [hr] at q2
      refine PCalls.of (N := 38) (res := [.tmp 4, .tmp 5]) mixed Try.func13 rfl rfl rfl (by kernel_rfl) (by simp) [0, 1, 3, 4, 5, 6, 7, 8, 12, 16, 24, 26] ?_
      repeat' (first | exact cl1 | (refine stx ?_; first | exact exHM _ | refine exU8 ?_) | ((with_reducible show callX _ _ _ _ _); (first | refine call_p (q1) (by kernel_rfl) rfl ?_ | refine call_p (q2) (by kernel_rfl) rfl ?_)) | ((fail_if_success refine stp ?_); (conv => whnf) <;> (first | exact cl2 | refine kX ?_ | refine kP ?_ | refine kBd (fun hc => ?_) (fun hc => ?_) | refine kT ?_ | refine kF ?_ | refine kN ?_ | refine kBm (fun hc => ?_) (fun hc => ?_) | refine kO ?_ | refine kS ?_ | refine kA ?_ | exact PV.leL_nil | refine kC ?_ ?_ | refine And.intro ?_ ?_ | refine ix_map (fun x hx => ?_) | refine exU8 ?_ | refine nilc (fun hn => ?_) ?_ | exact cl3 | refine imp0 (fun hpos => ?_) | refine kG ?_ ?_ | exact rfl | exact trivial | (first | refine stq ?_ | fail)))) <;> (try exact cl5)
      all_goals exact nilR _
    | true =>
      rw [hr] at q2
      cases hh : hasN Dc.no x.no l with
      | true =>
        rw [hh] at q3
        refine PCalls.of (N := 38) (res := [.tmp 4, .tmp 5]) mixed Try.func13 rfl rfl rfl (by kernel_rfl) (by simp) [0, 1, 3, 4, 5, 6, 7, 8, 12, 16, 24, 26] ?_
        repeat' (first | exact cl1 | (refine stx ?_; first | exact exHM _ | refine exU8 ?_) | ((with_reducible show callX _ _ _ _ _); (first | refine call_p (q1) (by kernel_rfl) rfl ?_ | refine call_p (q2) (by kernel_rfl) rfl ?_ | refine call_p (q3) (by kernel_rfl) rfl ?_)) | ((fail_if_success refine stp ?_); (conv => whnf) <;> (first | exact cl2 | refine kX ?_ | refine kP ?_ | refine kBd (fun hc => ?_) (fun hc => ?_) | refine kT ?_ | refine kF ?_ | refine kN ?_ | refine kBm (fun hc => ?_) (fun hc => ?_) | refine kO ?_ | refine kS ?_ | refine kA ?_ | exact PV.leL_nil | refine kC ?_ ?_ | refine And.intro ?_ ?_ | refine ix_map (fun x hx => ?_) | refine exU8 ?_ | refine nilc (fun hn => ?_) ?_ | exact cl3 | refine imp0 (fun hpos => ?_) | refine kG ?_ ?_ | exact rfl | exact trivial | (first | refine stq ?_ | fail)))) <;> (try exact cl5)
        all_goals exact nilR _
      | false =>
        rw [hh] at q3
        cases hn : namB l x with
        | false =>
          rw [hn] at q5
          refine PCalls.of (N := 38) (res := [.tmp 4, .tmp 5]) mixed Try.func13 rfl rfl rfl (by kernel_rfl) (by simp) [0, 1, 3, 4, 5, 6, 7, 8, 12, 16, 24, 26] ?_
          repeat' (first | exact cl1 | (refine stx ?_; first | exact exHM _ | refine exU8 ?_) | ((with_reducible show callX _ _ _ _ _); (first | refine call_p (q1) (by kernel_rfl) rfl ?_ | refine call_p (q2) (by kernel_rfl) rfl ?_ | refine call_p (q3) (by kernel_rfl) rfl ?_ | refine call_p (q4) (by kernel_rfl) rfl ?_ | refine call_p (q5) (by kernel_rfl) rfl ?_)) | ((fail_if_success refine stp ?_); (conv => whnf) <;> (first | exact cl2 | refine kX ?_ | refine kP ?_ | refine kBd (fun hc => ?_) (fun hc => ?_) | refine kT ?_ | refine kF ?_ | refine kN ?_ | refine kBm (fun hc => ?_) (fun hc => ?_) | refine kO ?_ | refine kS ?_ | refine kA ?_ | exact PV.leL_nil | refine kC ?_ ?_ | refine And.intro ?_ ?_ | refine ix_map (fun x hx => ?_) | refine exU8 ?_ | refine nilc (fun hn => ?_) ?_ | exact cl3 | refine imp0 (fun hpos => ?_) | refine kG ?_ ?_ | exact rfl | exact trivial | (first | refine stq ?_ | fail)))) <;> (try exact cl5)
          all_goals exact nilR _
        | true =>
          rw [hn] at q5
          rcases List.eq_nil_or_concat l with h0 | h0
          · subst h0
            refine PCalls.of (N := 38) (res := [.tmp 4, .tmp 5]) mixed Try.func13 rfl rfl rfl (by kernel_rfl) (by simp) [0, 1, 3, 4, 5, 6, 7, 8, 12, 16, 24, 26] ?_
            repeat' (first | exact cl1 | (refine stx ?_; first | exact exHM _ | refine exU8 ?_) | ((with_reducible show callX _ _ _ _ _); (first | refine call_p (q1) (by kernel_rfl) rfl ?_ | refine call_p (q2) (by kernel_rfl) rfl ?_ | refine call_p (q3) (by kernel_rfl) rfl ?_ | refine call_p (q4) (by kernel_rfl) rfl ?_ | refine call_p (q5) (by kernel_rfl) rfl ?_ | refine call_i [] (clone0_icalls) (by kernel_rfl) rfl rfl (by simp) (by simp) (by simp) (fun _ _ => rfl) (by simp) (by simp [keys]) ?_ | (refine call_z (insert0_calls x) (by kernel_rfl) rfl ?_; (repeat' (first | exact PV.leL_nil | refine kC ?_ ?_ | refine And.intro ?_ ?_ | exact Nat.zero_lt_succ _ | exact Nat.le_of_ble_eq_true rfl | exact PV.le_refl _ | exact PV.le_nil _ _ _ | exact PV.le_clip _ _ _ | refine PV.le_agg ?_ | refine PV.le_tup ?_ | rfl)); fail_if_success (any_goals (refine PV.le_of ?_))))) | ((fail_if_success refine stp ?_); (conv => whnf) <;> (first | exact cl2 | refine kX ?_ | refine kP ?_ | refine kBd (fun hc => ?_) (fun hc => ?_) | refine kT ?_ | refine kF ?_ | refine kN ?_ | refine kBm (fun hc => ?_) (fun hc => ?_) | refine kO ?_ | refine kS ?_ | refine kA ?_ | exact PV.leL_nil | refine kC ?_ ?_ | refine And.intro ?_ ?_ | refine ix_map (fun x hx => ?_) | refine exU8 ?_ | refine nilc (fun hn => ?_) ?_ | exact cl3 | refine imp0 (fun hpos => ?_) | refine kG ?_ ?_ | exact rfl | exact trivial | (first | refine stq ?_ | fail)))) <;> (try exact cl5)
          · have hpos : 0 < l.length := by obtain ⟨a, b, rfl⟩ := h0; simp
            refine PCalls.of (N := 38) (res := [.tmp 4, .tmp 5]) mixed Try.func13 rfl rfl rfl (by kernel_rfl) (by simp) [0, 1, 3, 4, 5, 6, 7, 8, 12, 16, 24, 26] ?_
            repeat' (first | exact cl1 | (refine stx ?_; first | exact exHM _ | refine exU8 ?_) | ((with_reducible show callX _ _ _ _ _); (first | refine call_p (q1) (by kernel_rfl) rfl ?_ | refine call_p (q2) (by kernel_rfl) rfl ?_ | refine call_p (q3) (by kernel_rfl) rfl ?_ | refine call_p (q4) (by kernel_rfl) rfl ?_ | refine call_p (q5) (by kernel_rfl) rfl ?_ | refine call_i [] (clone_icalls l hl hpos) (by kernel_rfl) rfl rfl (by simp) (by simp) (by simp) (fun _ _ => rfl) (by simp) (by simp [keys]) ?_ | refine call_i [1856, 2048] (insert_icalls l x _ hp hl) (by kernel_rfl) rfl rfl (by decide) cl6 (fun i hi => by match i, hi with | 0, _ => rfl | 1, _ => rfl) cl7 cl8 (by simp [keys]) ?_)) | ((fail_if_success refine stp ?_); (conv => whnf) <;> (first | exact cl2 | refine kX ?_ | refine kP ?_ | refine kBd (fun hc => ?_) (fun hc => ?_) | refine kT ?_ | refine kF ?_ | refine kN ?_ | refine kBm (fun hc => ?_) (fun hc => ?_) | refine kO ?_ | refine kS ?_ | refine kA ?_ | exact PV.leL_nil | refine kC ?_ ?_ | refine And.intro ?_ ?_ | refine ix_map (fun x hx => ?_) | refine exU8 ?_ | refine nilc (fun hn => ?_) ?_ | exact cl3 | refine imp0 (fun hpos => ?_) | refine kG ?_ ?_ | exact rfl | exact trivial | (first | refine stq ?_ | fail)))) <;> (try exact cl5)
  · rw [if_neg hz]
    refine PCalls.of (N := 38) (res := [.tmp 4, .tmp 5]) mixed Try.func13 rfl rfl rfl (by kernel_rfl) (by simp) [0, 1, 3, 4, 5, 6, 7, 8, 12, 16, 24, 26] ?_
    repeat' (first | exact cl1 | (refine stx ?_; first | exact exHM _ | refine exU8 ?_) | ((with_reducible show callX _ _ _ _ _); (first | refine call_p (q1) (by kernel_rfl) rfl ?_)) | ((fail_if_success refine stp ?_); (conv => whnf) <;> (first | exact cl2 | refine kX ?_ | refine kP ?_ | refine kBd (fun hc => ?_) (fun hc => ?_) | refine kT ?_ | refine kF ?_ | refine kN ?_ | refine kBm (fun hc => ?_) (fun hc => ?_) | refine kO ?_ | refine kS ?_ | refine kA ?_ | exact PV.leL_nil | refine kC ?_ ?_ | refine And.intro ?_ ?_ | refine ix_map (fun x hx => ?_) | refine exU8 ?_ | refine nilc (fun hn => ?_) ?_ | exact cl3 | refine imp0 (fun hpos => ?_) | refine kG ?_ ?_ | exact rfl | exact trivial | (first | refine stq ?_ | fail)))) <;> (try exact cl5)
    all_goals exact nilR _
end Go.Proofs.Ytgclicahmbgfiaa

namespace Go.Proofs.Ytgclicahmbgfiaa
open Go Go.Sg
def oddB (t : Int) : Bool := !decide (t = -1) && !wiB TM t
def sgB (l : List Dc) (sg : List Int) : Bool := decide (sg.length = l.length) && !sg.any oddB
theorem signings_calls (l : List Dc) (sg : List Int) (hsl : sg.length < 1000000) : PCalls Try.prog 52 [eL l, eIs sg] (.bool (sgB l sg)) := by
  have q : PCalls Try.prog 64 [eIs sg, .fn (.func 72) [] []] (.bool (sg.any oddB)) := indexOdd_calls sg hsl
  by_cases h : sg.length = l.length
  · have h2 : ((sg.map eI).length : Int) = ((l.map eA).length : Int) := by simp [h]
    have e : sgB l sg = !sg.any oddB := by unfold sgB; rw [decide_eq_true h, Bool.true_and]
    rw [e]
    refine PCalls.of (N := 17) (res := [.tmp 4]) mixed Try.func52 rfl rfl rfl (by kernel_rfl) (by simp) [0, 1, 4, 5] ?_
    repeat' (first | exact cl1 | (refine stx ?_; first | exact exHM _ | refine exU8 ?_) | ((with_reducible show callX _ _ _ _ _); (first | refine call_p (q) (by kernel_rfl) rfl ?_)) | ((fail_if_success refine stp ?_); (conv => whnf) <;> (first | exact cl2 | refine kBm (fun hc => ?_) (fun hc => absurd (decide_eq_true h2) (by rw [hc]; exact Bool.false_ne_true)) | refine kBy h2 fun hc => ?_ | refine kX ?_ | refine kP ?_ | refine kBd (fun hc => ?_) (fun hc => ?_) | refine kT ?_ | refine kF ?_ | refine kN ?_ | refine kBm (fun hc => ?_) (fun hc => ?_) | refine kO ?_ | refine kS ?_ | refine kA ?_ | exact PV.leL_nil | refine kC ?_ ?_ | refine And.intro ?_ ?_ | refine ix_map (fun x hx => ?_) | refine exU8 ?_ | refine nilc (fun hn => ?_) ?_ | exact cl3 | refine imp0 (fun hpos => ?_) | refine kG ?_ ?_ | exact rfl | exact trivial | (first | refine stq ?_ | fail)))) <;> (try exact cl5)
    all_goals trace_state
  · have h2 : ¬ ((sg.map eI).length : Int) = ((l.map eA).length : Int) := by simp only [List.length_map]; omega
    have e : sgB l sg = false := by unfold sgB; rw [decide_eq_false h, Bool.false_and]
    rw [e]
    refine PCalls.of (N := 17) (res := [.tmp 4]) mixed Try.func52 rfl rfl rfl (by kernel_rfl) (by simp) [0, 1, 4, 5] ?_
    repeat' (first | exact cl1 | (refine stx ?_; first | exact exHM _ | refine exU8 ?_) | ((with_reducible show callX _ _ _ _ _); (first | refine call_p (q) (by kernel_rfl) rfl ?_)) | ((fail_if_success refine stp ?_); (conv => whnf) <;> (first | exact cl2 | refine kBn h2 fun hc => ?_ | refine kX ?_ | refine kP ?_ | refine kBd (fun hc => ?_) (fun hc => ?_) | refine kT ?_ | refine kF ?_ | refine kN ?_ | refine kBm (fun hc => ?_) (fun hc => ?_) | refine kO ?_ | refine kS ?_ | refine kA ?_ | exact PV.leL_nil | refine kC ?_ ?_ | refine And.intro ?_ ?_ | refine ix_map (fun x hx => ?_) | refine exU8 ?_ | refine nilc (fun hn => ?_) ?_ | exact cl3 | refine imp0 (fun hpos => ?_) | refine kG ?_ ?_ | exact rfl | exact trivial | (first | refine stq ?_ | fail)))) <;> (try exact cl5)
    all_goals trace_state
def okF (x : Dc) : Prop := x.par.length ≤ 20 ∧ x.rev.length ≤ 20 ∧ x.need.length ≤ 20
theorem okF.e {x : Dc} (h : okF x) : okE x := ⟨by have := h.1; omega, by have := h.2.1; omega, by have := h.2.2; omega⟩
def finP (l : List Dc) (sg : List Int) (at_ : Int) : Pl := playP l sg (ordL sg at_)
def noF (l : List Dc) (i : Nat) : Int := (l[i]?.map Dc.no).getD 0
def forF (l : List Dc) (p : Pl) (t : Int) (i : Nat) : Bool := decide ((stA l p i t).1 = 0)
def forL (l : List Dc) (p : Pl) (t : Int) (n : Nat) : List Int := ((List.range n).filter (forF l p t)).map (noF l)
def inA (l : List Dc) (sg : List Int) (at_ : Int) : List Int × Int :=
  if chkA l = 0 then (if sgB l sg && wiB TM at_ then (forL l (finP l sg at_) at_ l.length, 0) else ([], 1)) else ([], chkA l)
def whyA (l : List Dc) (sg : List Int) (no at_ : Int) : Int × Int × Int :=
  if chkA l = 0 then (if sgB l sg && wiB TM at_ then (match aget no (atM l) with | none => (0, 0, 1) | some _ => ((stA l (finP l sg at_) (ixF l no) at_).1, (stA l (finP l sg at_) (ixF l no) at_).2, 0)) else (0, 0, 1)) else (0, 0, chkA l)
def eW3 (x : Int × Int × Int) : PV := .tup [eI x.1, eI x.2.1, eI x.2.2]
def eI2 (x : List Int × Int) : PV := .tup [eIs x.1, eI x.2]
theorem sgB_len {l : List Dc} {sg : List Int} (h : sgB l sg = true) : sg.length = l.length := by
  unfold sgB at h; rw [Bool.and_eq_true] at h; exact of_decide_eq_true h.1
theorem why_calls (l : List Dc) (sg : List Int) (no at_ : Int) (hl : l.length ≤ 20) (hd : ∀ x ∈ l, okF x) (hsl : sg.length < 1000000) : PCalls Try.prog 22 [eL l, eIs sg, eI no, eI at_] (eW3 (whyA l sg no at_)) := by
  have q1 := check_calls l (by omega) (fun x hx => (hd x hx).e)
  have q2 := signings_calls l sg hsl
  have q3 := time_calls at_
  unfold whyA
  by_cases hz : chkA l = 0
  · rw [hz] at q1
    rw [if_pos hz]
    cases hs : sgB l sg with
    | false =>
      rw [hs] at q2
      refine PCalls.of (N := 54) (res := [.tmp 8, .tmp 9, .tmp 10]) mixed Try.func22 rfl rfl rfl (by kernel_rfl) (by simp) [0, 1, 2, 3, 8, 9, 10, 11, 12, 13, 14, 18, 28, 44] ?_
      repeat' (first | exact cl1 | (refine stx ?_; first | exact exHM _ | refine exU8 ?_) | ((with_reducible show callX _ _ _ _ _); (first | refine call_p (q1) (by kernel_rfl) rfl ?_ | refine call_p (q2) (by kernel_rfl) rfl ?_ | refine call_p (q3) (by kernel_rfl) rfl ?_)) | ((fail_if_success refine stp ?_); (conv => whnf) <;> (first | exact cl2 | refine kX ?_ | refine kP ?_ | refine kBd (fun hc => ?_) (fun hc => ?_) | refine kT ?_ | refine kF ?_ | refine kN ?_ | refine kBm (fun hc => ?_) (fun hc => ?_) | refine kO ?_ | refine kS ?_ | refine kA ?_ | exact PV.leL_nil | refine kC ?_ ?_ | refine And.intro ?_ ?_ | refine ix_map (fun x hx => ?_) | refine exU8 ?_ | refine nilc (fun hn => ?_) ?_ | exact cl3 | refine imp0 (fun hpos => ?_) | refine kG ?_ ?_ | exact rfl | exact trivial | (first | refine stq ?_ | fail)))) <;> (try exact cl5)
      all_goals trace_state
    | true =>
      rw [hs] at q2
      cases ht : wiB TM at_ with
      | false =>
        rw [ht] at q3
        refine PCalls.of (N := 54) (res := [.tmp 8, .tmp 9, .tmp 10]) mixed Try.func22 rfl rfl rfl (by kernel_rfl) (by simp) [0, 1, 2, 3, 8, 9, 10, 11, 12, 13, 14, 18, 28, 44] ?_
        repeat' (first | exact cl1 | (refine stx ?_; first | exact exHM _ | refine exU8 ?_) | ((with_reducible show callX _ _ _ _ _); (first | refine call_p (q1) (by kernel_rfl) rfl ?_ | refine call_p (q2) (by kernel_rfl) rfl ?_ | refine call_p (q3) (by kernel_rfl) rfl ?_)) | ((fail_if_success refine stp ?_); (conv => whnf) <;> (first | exact cl2 | refine kX ?_ | refine kP ?_ | refine kBd (fun hc => ?_) (fun hc => ?_) | refine kT ?_ | refine kF ?_ | refine kN ?_ | refine kBm (fun hc => ?_) (fun hc => ?_) | refine kO ?_ | refine kS ?_ | refine kA ?_ | exact PV.leL_nil | refine kC ?_ ?_ | refine And.intro ?_ ?_ | refine ix_map (fun x hx => ?_) | refine exU8 ?_ | refine nilc (fun hn => ?_) ?_ | exact cl3 | refine imp0 (fun hpos => ?_) | refine kG ?_ ?_ | exact rfl | exact trivial | (first | refine stq ?_ | fail)))) <;> (try exact cl5)
        all_goals trace_state
      | true =>
        rw [ht] at q3
        have hsz := sgB_len hs
        obtain ⟨h96, _, _, hnm⟩ := chkA_srt hz
        have q4 := played_icalls l sg at_ hl hsz (fun x hx => ⟨(hd x hx).2.1, (hd x hx).2.2⟩) hnm
        have hin := InP.play (l := l) (sg := sg) (fun x hx => (hd x hx).2.1) (ordL sg at_)
        have hol := ordL_len sg at_
        have okp : OkP l (playP l sg (ordL sg at_)) := hin.ok (by omega)
        have q4 : ICalls Try.prog 54 0 [] [.p (eL l), .p (eIs sg), .p (eI at_)] (.ptr 0 0) [(0, pC l sg (playP l sg (ordL sg at_)).dn.length (playP l sg (ordL sg at_)).lk.length), (1, .row 1 ((playP l sg (ordL sg at_)).dn.map PV.bool)), (2, .row 1 ((playP l sg (ordL sg at_)).lk.map eI)), (3, .mapS KTi 1 (hM (rvM (playP l sg (ordL sg at_)).rv)))] := q4
        show PCalls Try.prog 22 [eL l, eIs sg, eI no, eI at_] (eW3 (match aget no (atM l) with | none => (0, 0, 1) | some _ => ((stA l (playP l sg (ordL sg at_)) (ixF l no) at_).1, (stA l (playP l sg (ordL sg at_)) (ixF l no) at_).2, 0)))
        generalize playP l sg (ordL sg at_) = P at *
        cases hg : aget no (atM l) with
        | none =>
          have hm : mfind (eI no) (eM eI eI (atM l)) = none := by rw [mfind_map eI keyI, hg]; rfl
          refine PCalls.of (N := 54) (res := [.tmp 8, .tmp 9, .tmp 10]) mixed Try.func22 rfl rfl rfl (by kernel_rfl) (by simp) [0, 1, 2, 3, 8, 9, 10, 11, 12, 13, 14, 18, 28, 44] ?_
          repeat' (first | exact cl1 | (refine stx ?_; first | exact exHM _ | refine exU8 ?_) | ((with_reducible show callX _ _ _ _ _); (first | refine call_p (q1) (by kernel_rfl) rfl ?_ | refine call_p (q2) (by kernel_rfl) rfl ?_ | refine call_p (q3) (by kernel_rfl) rfl ?_ | refine call_iE [] [(1280, .cells [.p (eL l), .p (eAt (atM l)), .p (eIs sg), .rsl 1281 1 0 P.dn.length, .rsl 1282 1 0 P.lk.length, .mp 1283]), (1281, .row 1 (P.dn.map PV.bool)), (1282, .row 1 (P.lk.map eI)), (1283, .mapS KTi 1 (hM (rvM P.rv)))] q4 (by kernel_rfl) rfl rfl (by simp) (by simp) (by simp) (fun _ _ => rfl) (by simp) (by simp [keys]) (by simp only [List.map_cons, List.map_nil, renO_hM]; rfl) ?_)) | ((fail_if_success refine stp ?_); (conv => whnf) <;> (first | exact cl2 | refine Opt.no hm ?_ | refine kX ?_ | refine kP ?_ | refine kBd (fun hc => ?_) (fun hc => ?_) | refine kT ?_ | refine kF ?_ | refine kN ?_ | refine kBm (fun hc => ?_) (fun hc => ?_) | refine kO ?_ | refine kS ?_ | refine kA ?_ | exact PV.leL_nil | refine kC ?_ ?_ | refine And.intro ?_ ?_ | refine ix_map (fun x hx => ?_) | refine exU8 ?_ | refine nilc (fun hn => ?_) ?_ | refine call_iE [] [(1280, .cells [.p (eL l), .p (eAt (atM l)), .p (eIs sg), .rsl 1281 1 0 P.dn.length, .rsl 1282 1 0 P.lk.length, .mp 1283]), (1281, .row 1 (P.dn.map PV.bool)), (1282, .row 1 (P.lk.map eI)), (1283, .mapS KTi 1 (hM (rvM P.rv)))] q4 (by kernel_rfl) rfl rfl (by simp) (by simp) (by simp) (fun _ _ => rfl) (by simp) (by simp [keys]) (by simp only [List.map_cons, List.map_nil, renO_hM]; rfl) ?_ | exact cl3 | refine imp0 (fun hpos => ?_) | refine kG ?_ ?_ | exact rfl | exact trivial | (first | refine stq ?_ | fail)))) <;> (try exact cl5)
          all_goals trace_state
        | some k =>
          obtain ⟨j, w, e, _, hw, _⟩ := atF_some l.length hg
          have ej : ixF l no = j := by unfold ixF; rw [hg, e]; rfl
          have hm : mfind (eI no) (eM eI eI (atM l)) = some (eN j) := by rw [mfind_map eI keyI, hg, e]; rfl
          rw [ej]
          have q5 := state_icalls l sg P j at_ w hw okp (by omega)
          refine PCalls.of (N := 54) (res := [.tmp 8, .tmp 9, .tmp 10]) mixed Try.func22 rfl rfl rfl (by kernel_rfl) (by simp) [0, 1, 2, 3, 8, 9, 10, 11, 12, 13, 14, 18, 28, 44] ?_
          repeat' (first | exact cl1 | (refine stx ?_; first | exact exHM _ | refine exU8 ?_) | ((with_reducible show callX _ _ _ _ _); (first | refine call_p (q1) (by kernel_rfl) rfl ?_ | refine call_p (q2) (by kernel_rfl) rfl ?_ | refine call_p (q3) (by kernel_rfl) rfl ?_ | refine call_iE [] [(1280, .cells [.p (eL l), .p (eAt (atM l)), .p (eIs sg), .rsl 1281 1 0 P.dn.length, .rsl 1282 1 0 P.lk.length, .mp 1283]), (1281, .row 1 (P.dn.map PV.bool)), (1282, .row 1 (P.lk.map eI)), (1283, .mapS KTi 1 (hM (rvM P.rv)))] q4 (by kernel_rfl) rfl rfl (by simp) (by simp) (by simp) (fun _ _ => rfl) (by simp) (by simp [keys]) (by simp only [List.map_cons, List.map_nil, renO_hM]; rfl) ?_ | refine call_iE [1280, 1281, 1282, 1283] ([(1280, .cells [.p (eL l), .p (eAt (atM l)), .p (eIs sg), .rsl 1281 1 0 P.dn.length, .rsl 1282 1 0 P.lk.length, .mp 1283]), (1281, .row 1 (P.dn.map PV.bool)), (1282, .row 1 (P.lk.map eI)), (1283, .mapS KTi 1 (hM (rvM P.rv)))]) (q5) (by kernel_rfl) rfl rfl (by decide) cl6 (fun i hi => by match i, hi with | 0, _ => (first | rfl | exact (renO_hM _ _ _ _).symm) | 1, _ => (first | rfl | exact (renO_hM _ _ _ _).symm) | 2, _ => (first | rfl | exact (renO_hM _ _ _ _).symm) | 3, _ => (first | rfl | exact (renO_hM _ _ _ _).symm)) cl7 cl8 (by simp [keys]) (by (try simp only [hP]); simp only [List.map_cons, List.map_nil, renO_hM]; rfl) ?_)) | ((fail_if_success refine stp ?_); (conv => whnf) <;> (first | exact cl2 | refine Opt.at hm ?_ | refine kX ?_ | refine kP ?_ | refine kBd (fun hc => ?_) (fun hc => ?_) | refine kT ?_ | refine kF ?_ | refine kN ?_ | refine kBm (fun hc => ?_) (fun hc => ?_) | refine kO ?_ | refine kS ?_ | refine kA ?_ | exact PV.leL_nil | refine kC ?_ ?_ | refine And.intro ?_ ?_ | refine ix_map (fun x hx => ?_) | refine exU8 ?_ | refine nilc (fun hn => ?_) ?_ | refine call_iE [] [(1280, .cells [.p (eL l), .p (eAt (atM l)), .p (eIs sg), .rsl 1281 1 0 P.dn.length, .rsl 1282 1 0 P.lk.length, .mp 1283]), (1281, .row 1 (P.dn.map PV.bool)), (1282, .row 1 (P.lk.map eI)), (1283, .mapS KTi 1 (hM (rvM P.rv)))] q4 (by kernel_rfl) rfl rfl (by simp) (by simp) (by simp) (fun _ _ => rfl) (by simp) (by simp [keys]) (by simp only [List.map_cons, List.map_nil, renO_hM]; rfl) ?_ | exact cl3 | refine imp0 (fun hpos => ?_) | refine kG ?_ ?_ | exact rfl | exact trivial | (first | refine stq ?_ | fail)))) <;> (try exact cl5)
          all_goals trace_state
  · rw [if_neg hz]
    refine PCalls.of (N := 54) (res := [.tmp 8, .tmp 9, .tmp 10]) mixed Try.func22 rfl rfl rfl (by kernel_rfl) (by simp) [0, 1, 2, 3, 8, 9, 10, 11, 12, 13, 14, 18, 28, 44] ?_
    repeat' (first | exact cl1 | (refine stx ?_; first | exact exHM _ | refine exU8 ?_) | ((with_reducible show callX _ _ _ _ _); (first | refine call_p (q1) (by kernel_rfl) rfl ?_)) | ((fail_if_success refine stp ?_); (conv => whnf) <;> (first | exact cl2 | refine kX ?_ | refine kP ?_ | refine kBd (fun hc => ?_) (fun hc => ?_) | refine kT ?_ | refine kF ?_ | refine kN ?_ | refine kBm (fun hc => ?_) (fun hc => ?_) | refine kO ?_ | refine kS ?_ | refine kA ?_ | exact PV.leL_nil | refine kC ?_ ?_ | refine And.intro ?_ ?_ | refine ix_map (fun x hx => ?_) | refine exU8 ?_ | refine nilc (fun hn => ?_) ?_ | exact cl3 | refine imp0 (fun hpos => ?_) | refine kG ?_ ?_ | exact rfl | exact trivial | (first | refine stq ?_ | fail)))) <;> (try exact cl5)
    all_goals trace_state
end Go.Proofs.Ytgclicahmbgfiaa

namespace Go.Proofs.Ytgclicahmbgfiaa
open Go Go.Sg
def oVI (n : Nat) : List Int → AV
  | [] => .p (.sl 0 true [])
  | _ :: r => .rsl n 1 0 (r.length + 1)
def oHI (n : Nat) : List Int → Heap
  | [] => []
  | a :: r => [(n, .row 1 ((a :: r).map eI))]
theorem forL_succ (l : List Dc) (p : Pl) (t : Int) (n : Nat) : forL l p t (n + 1) = forL l p t n ++ if forF l p t n then [noF l n] else [] := by
  unfold forL; rw [List.range_succ, List.filter_append, List.map_append]
  congr 1
  cases h : forF l p t n <;> simp [h]
theorem forL_len (l : List Dc) (p : Pl) (t : Int) (n : Nat) : (forL l p t n).length ≤ n := by
  unfold forL; have := List.length_filter_le (forF l p t) (List.range n); rw [List.length_range] at this; rw [List.length_map]; exact this
theorem nilI {z : Nat} (e : PV) : LeG (.tup [.sl z true [], e]) (.tup [eIs [], e]) := LeG.mk (PV.le_tup (PV.leL_cons (PV.le_nil _ _ _) (PV.leL_refl _)))
theorem inForce_calls (l : List Dc) (sg : List Int) (at_ : Int) (hl : l.length ≤ 20) (hd : ∀ x ∈ l, okF x) (hsl : sg.length < 1000000) : PCalls Try.prog 20 [eL l, eIs sg, eI at_] (eI2 (inA l sg at_)) := by
  have q1 := check_calls l (by omega) (fun x hx => (hd x hx).e)
  have q2 := signings_calls l sg hsl
  have q3 := time_calls at_
  unfold inA
  by_cases hz : chkA l = 0
  · rw [hz] at q1
    rw [if_pos hz]
    cases hs : sgB l sg with
    | false =>
      rw [hs] at q2
      refine PCalls.of (N := 55) (res := [.tmp 6, .tmp 7]) mixed Try.func20 rfl rfl rfl (by kernel_rfl) (by simp) [0, 1, 2, 6, 7, 8, 9, 10, 11, 12, 17, 27, 32, 33, 34, 35, 47] ?_
      repeat' (first | exact cl1 | (refine stx ?_; first | exact exHM _ | refine exU8 ?_) | ((with_reducible show callX _ _ _ _ _); (first | refine call_p (q1) (by kernel_rfl) rfl ?_ | refine call_p (q2) (by kernel_rfl) rfl ?_ | refine call_p (q3) (by kernel_rfl) rfl ?_)) | ((fail_if_success refine stp ?_); (conv => whnf) <;> (first | exact cl2 | refine kX ?_ | refine kP ?_ | refine kBd (fun hc => ?_) (fun hc => ?_) | refine kT ?_ | refine kF ?_ | refine kN ?_ | refine kBm (fun hc => ?_) (fun hc => ?_) | refine kO ?_ | refine kS ?_ | refine kA ?_ | exact PV.leL_nil | refine kC ?_ ?_ | refine And.intro ?_ ?_ | refine ix_map (fun x hx => ?_) | refine exU8 ?_ | refine nilc (fun hn => ?_) ?_ | exact cl3 | refine imp0 (fun hpos => ?_) | refine kG ?_ ?_ | exact rfl | exact trivial | (first | refine stq ?_ | fail)))) <;> (try exact cl5)
      all_goals exact nilI _
    | true =>
      rw [hs] at q2
      cases ht : wiB TM at_ with
      | false =>
        rw [ht] at q3
        refine PCalls.of (N := 55) (res := [.tmp 6, .tmp 7]) mixed Try.func20 rfl rfl rfl (by kernel_rfl) (by simp) [0, 1, 2, 6, 7, 8, 9, 10, 11, 12, 17, 27, 32, 33, 34, 35, 47] ?_
        repeat' (first | exact cl1 | (refine stx ?_; first | exact exHM _ | refine exU8 ?_) | ((with_reducible show callX _ _ _ _ _); (first | refine call_p (q1) (by kernel_rfl) rfl ?_ | refine call_p (q2) (by kernel_rfl) rfl ?_ | refine call_p (q3) (by kernel_rfl) rfl ?_)) | ((fail_if_success refine stp ?_); (conv => whnf) <;> (first | exact cl2 | refine kX ?_ | refine kP ?_ | refine kBd (fun hc => ?_) (fun hc => ?_) | refine kT ?_ | refine kF ?_ | refine kN ?_ | refine kBm (fun hc => ?_) (fun hc => ?_) | refine kO ?_ | refine kS ?_ | refine kA ?_ | exact PV.leL_nil | refine kC ?_ ?_ | refine And.intro ?_ ?_ | refine ix_map (fun x hx => ?_) | refine exU8 ?_ | refine nilc (fun hn => ?_) ?_ | exact cl3 | refine imp0 (fun hpos => ?_) | refine kG ?_ ?_ | exact rfl | exact trivial | (first | refine stq ?_ | fail)))) <;> (try exact cl5)
        all_goals exact nilI _
      | true =>
        rw [ht] at q3
        have hsz := sgB_len hs
        obtain ⟨h96, _, _, hnm⟩ := chkA_srt hz
        have q4 := played_icalls l sg at_ hl hsz (fun x hx => ⟨(hd x hx).2.1, (hd x hx).2.2⟩) hnm
        have hin := InP.play (l := l) (sg := sg) (fun x hx => (hd x hx).2.1) (ordL sg at_)
        have hol := ordL_len sg at_
        have okp : OkP l (playP l sg (ordL sg at_)) := hin.ok (by omega)
        have q4 : ICalls Try.prog 54 0 [] [.p (eL l), .p (eIs sg), .p (eI at_)] (.ptr 0 0) [(0, pC l sg (playP l sg (ordL sg at_)).dn.length (playP l sg (ordL sg at_)).lk.length), (1, .row 1 ((playP l sg (ordL sg at_)).dn.map PV.bool)), (2, .row 1 ((playP l sg (ordL sg at_)).lk.map eI)), (3, .mapS KTi 1 (hM (rvM (playP l sg (ordL sg at_)).rv)))] := q4
        show PCalls Try.prog 20 [eL l, eIs sg, eI at_] (eI2 (forL l (playP l sg (ordL sg at_)) at_ l.length, 0))
        generalize playP l sg (ordL sg at_) = P at *
        refine PCalls.of (N := 55) (res := [.tmp 6, .tmp 7]) mixed Try.func20 rfl rfl rfl (by kernel_rfl) (by simp) [0, 1, 2, 6, 7, 8, 9, 10, 11, 12, 17, 27, 32, 33, 34, 35, 47] ?_
        repeat' (first | exact cl1 | (refine stx ?_; first | exact exHM _ | refine exU8 ?_) | ((with_reducible show callX _ _ _ _ _); (first | refine call_p (q1) (by kernel_rfl) rfl ?_ | refine call_p (q2) (by kernel_rfl) rfl ?_ | refine call_p (q3) (by kernel_rfl) rfl ?_ | refine call_iE [] [(1216, .cells [.p (eL l), .p (eAt (atM l)), .p (eIs sg), .rsl 1217 1 0 P.dn.length, .rsl 1218 1 0 P.lk.length, .mp 1219]), (1217, .row 1 (P.dn.map PV.bool)), (1218, .row 1 (P.lk.map eI)), (1219, .mapS KTi 1 (hM (rvM P.rv)))] q4 (by kernel_rfl) rfl rfl (by simp) (by simp) (by simp) (fun _ _ => rfl) (by simp) (by simp [keys]) (by simp only [List.map_cons, List.map_nil, renO_hM]; rfl) ?_)) | ((fail_if_success refine stp ?_); (conv => whnf) <;> (first | exact cl2 | refine kX ?_ | refine kP ?_ | refine kBd (fun hc => ?_) (fun hc => ?_) | refine kT ?_ | refine kF ?_ | refine kN ?_ | refine kBm (fun hc => ?_) (fun hc => ?_) | refine kO ?_ | refine kS ?_ | refine kA ?_ | exact PV.leL_nil | refine kC ?_ ?_ | refine And.intro ?_ ?_ | refine ix_map (fun x hx => ?_) | refine exU8 ?_ | refine nilc (fun hn => ?_) ?_ | refine call_iE [] [(1216, .cells [.p (eL l), .p (eAt (atM l)), .p (eIs sg), .rsl 1217 1 0 P.dn.length, .rsl 1218 1 0 P.lk.length, .mp 1219]), (1217, .row 1 (P.dn.map PV.bool)), (1218, .row 1 (P.lk.map eI)), (1219, .mapS KTi 1 (hM (rvM P.rv)))] q4 (by kernel_rfl) rfl rfl (by simp) (by simp) (by simp) (fun _ _ => rfl) (by simp) (by simp [keys]) (by simp only [List.map_cons, List.map_nil, renO_hM]; rfl) ?_ | exact cl3 | refine imp0 (fun hpos => ?_) | refine kG ?_ ?_ | exact rfl | exact trivial | (first | refine stq ?_ | fail)))) <;> (try exact cl5)
        refine Wpc.loopA (α := {i : Nat // i ≤ l.length}) mixed [0, 1, 2, 6, 7, 8, 9, 10, 11, 12, 17, 27, 32, 33, 34, 35, 47] (fun i => [(6, oVI 9 (forL l P at_ i.1)), (34, .p (eI i.1))]) (fun i => oHI 9 (forL l P at_ i.1)) (fun _ => 0) (fun i => l.length - i.1) ⟨0, by omega⟩ ?_ ?_
        · (first | refine Ent.ofA [] ?_ | refine Ent.ofC [] ?_) <;> (repeat' (first | exact trivial | refine kHd ?_ | refine kHm rfl (by simp) rfl (fun h => AObj.noConfusion h) ?_ ?_ | refine And.intro ?_ ?_ | exact cl9 | refine kVp ?_ | refine kVa ?_ | refine kVt ?_ | refine kVf ?_ ?_ | refine kVc ?_ ?_ | exact VLeL.nil | exact OLe.row _ _ | rfl | refine VLe.rsle rfl ?_ ?_ ?_ | refine kQw ?_ ?_ | refine kQm ?_ ?_ | refine kQj ?_ ?_ | refine kQc ?_ ?_ | refine kQs ?_ ?_ ?_ | exact OLe.mapS0 rfl)) <;> try exact kZ
        rintro ⟨i, hi⟩
        have hi : i ≤ l.length := hi
        show lpE [(6, oVI 9 (forL l P at_ i)), (34, _)] _ _ fun e => lpH (oHI 9 (forL l P at_ i)) _ [] fun h => _
        cases hxi : l[i]? with
        | some y =>
          have hlt : i < l.length := (List.getElem?_eq_some_iff.1 hxi).1
          have hyes : ((i : Int) < ((l.map eA).length : Int)) := by rw [List.length_map]; omega
          have hfa := forL_succ l P at_ i
          have hfl := forL_len l P at_ i
          have hno : noF l i = y.no := by unfold noF; rw [hxi]; rfl
          have q5 := state_icalls l sg P i at_ y hxi okp (by omega)
          cases hF : forF l P at_ i with
          | true =>
            have hst : (stA l P i at_).1 = 0 := of_decide_eq_true hF
            rw [if_pos hF, hno] at hfa
            cases hG : forL l P at_ i with
            | nil =>
              repeat' (first | exact cl1 | (refine stx ?_; first | exact exHM _ | refine exU8 ?_) | ((with_reducible show callX _ _ _ _ _); (first | refine call_iE [1216, 1217, 1218, 1219] ([(1216, .cells [.p (eL l), .p (eAt (atM l)), .p (eIs sg), .rsl 1217 1 0 P.dn.length, .rsl 1218 1 0 P.lk.length, .mp 1219]), (1217, .row 1 (P.dn.map PV.bool)), (1218, .row 1 (P.lk.map eI)), (1219, .mapS KTi 1 (hM (rvM P.rv)))]) (q5) (by kernel_rfl) rfl rfl (by decide) cl6 (fun i hi => by match i, hi with | 0, _ => (first | rfl | exact (renO_hM _ _ _ _).symm) | 1, _ => (first | rfl | exact (renO_hM _ _ _ _).symm) | 2, _ => (first | rfl | exact (renO_hM _ _ _ _).symm) | 3, _ => (first | rfl | exact (renO_hM _ _ _ _).symm)) cl7 cl8 (by simp [keys]) (by (try simp only [hP]); simp only [List.map_cons, List.map_nil, renO_hM]; rfl) ?_)) | ((fail_if_success refine stp ?_); (conv => whnf) <;> (first | exact cl2 | refine kBy hyes fun hc => ?_ | refine ix_at hxi ?_ | refine kBy hst fun hc => ?_ | refine kX ?_ | refine kP ?_ | refine kBd (fun hc => ?_) (fun hc => ?_) | refine kT ?_ | refine kF ?_ | refine kN ?_ | refine kBm (fun hc => ?_) (fun hc => ?_) | refine kO ?_ | refine kS ?_ | refine kA ?_ | exact PV.leL_nil | refine kC ?_ ?_ | refine And.intro ?_ ?_ | refine ix_map (fun x hx => ?_) | refine exU8 ?_ | refine nilc (fun hn => ?_) ?_ | exact cl3 | refine imp0 (fun hpos => ?_) | refine kG ?_ ?_ | exact rfl | exact trivial | (first | refine stq ?_ | fail)))) <;> (try exact cl5)
              refine ⟨⟨i + 1, hlt⟩, by show l.length - (i + 1) < l.length - i; omega, ?_⟩
              show Ent _ _ (hdS [0, 1, 2, 6, 7, 8, 9, 10, 11, 12, 17, 27, 32, 33, 34, 35, 47] _ _ _ [(6, oVI 9 (forL l P at_ (i + 1))), (34, .p (eI ((i + 1 : Nat) : Int)))] (oHI 9 (forL l P at_ (i + 1))) _)
              rw [hfa, hG]
              (first | refine Ent.ofA [] ?_ | refine Ent.ofC [] ?_) <;> (repeat' (first | exact trivial | refine kHd ?_ | refine kHm rfl (by simp) rfl (fun h => AObj.noConfusion h) ?_ ?_ | refine And.intro ?_ ?_ | exact cl9 | refine kVp ?_ | refine kVa ?_ | refine kVt ?_ | refine kVf ?_ ?_ | refine kVc ?_ ?_ | exact VLeL.nil | exact OLe.row _ _ | rfl | refine VLe.rsle rfl ?_ ?_ ?_ | refine kQw ?_ ?_ | refine kQm ?_ ?_ | refine kQj ?_ ?_ | refine kQc ?_ ?_ | refine kQs ?_ ?_ ?_ | exact OLe.mapS0 rfl)) <;> try exact kZ
            | cons g gr =>
              have hgl : gr.length ≤ 20 := by have h := hfl; rw [hG] at h; simp at h; omega
              repeat' (first | exact cl1 | (refine stx ?_; first | exact exHM _ | refine exU8 ?_) | ((with_reducible show callX _ _ _ _ _); (first | refine call_iE [1216, 1217, 1218, 1219] ([(1216, .cells [.p (eL l), .p (eAt (atM l)), .p (eIs sg), .rsl 1217 1 0 P.dn.length, .rsl 1218 1 0 P.lk.length, .mp 1219]), (1217, .row 1 (P.dn.map PV.bool)), (1218, .row 1 (P.lk.map eI)), (1219, .mapS KTi 1 (hM (rvM P.rv)))]) (q5) (by kernel_rfl) rfl rfl (by decide) cl6 (fun i hi => by match i, hi with | 0, _ => (first | rfl | exact (renO_hM _ _ _ _).symm) | 1, _ => (first | rfl | exact (renO_hM _ _ _ _).symm) | 2, _ => (first | rfl | exact (renO_hM _ _ _ _).symm) | 3, _ => (first | rfl | exact (renO_hM _ _ _ _).symm)) cl7 cl8 (by simp [keys]) (by (try simp only [hP]); simp only [List.map_cons, List.map_nil, renO_hM]; rfl) ?_)) | ((fail_if_success refine stp ?_); (conv => whnf) <;> (first | exact cl2 | refine kBy hyes fun hc => ?_ | refine ix_at hxi ?_ | refine kBy hst fun hc => ?_ | refine kX ?_ | refine kP ?_ | refine kBd (fun hc => ?_) (fun hc => ?_) | refine kT ?_ | refine kF ?_ | refine kN ?_ | refine kBm (fun hc => ?_) (fun hc => ?_) | refine kO ?_ | refine kS ?_ | refine kA ?_ | exact PV.leL_nil | refine kC ?_ ?_ | refine And.intro ?_ ?_ | refine ix_map (fun x hx => ?_) | refine exU8 ?_ | refine nilc (fun hn => ?_) ?_ | exact cl3 | refine imp0 (fun hpos => ?_) | refine kG ?_ ?_ | exact rfl | exact trivial | (first | refine stq ?_ | fail)))) <;> (try exact cl5)
              refine ⟨⟨i + 1, hlt⟩, by show l.length - (i + 1) < l.length - i; omega, ?_⟩
              show Ent _ _ (hdS [0, 1, 2, 6, 7, 8, 9, 10, 11, 12, 17, 27, 32, 33, 34, 35, 47] _ _ _ [(6, oVI 9 (forL l P at_ (i + 1))), (34, .p (eI ((i + 1 : Nat) : Int)))] (oHI 9 (forL l P at_ (i + 1))) _)
              rw [hfa, hG]
              (first | refine Ent.ofA [] ?_ | refine Ent.ofC [] ?_) <;> (repeat' (first | exact trivial | refine kHd ?_ | refine kHm rfl (by simp) rfl (fun h => AObj.noConfusion h) ?_ ?_ | refine And.intro ?_ ?_ | exact cl9 | refine kVp ?_ | refine kVa ?_ | refine kVt ?_ | refine kVf ?_ ?_ | refine kVc ?_ ?_ | exact VLeL.nil | exact OLe.row _ _ | rfl | refine VLe.rsle rfl ?_ ?_ ?_ | refine kQw ?_ ?_ | refine kQm ?_ ?_ | refine kQj ?_ ?_ | refine kQc ?_ ?_ | refine kQs ?_ ?_ ?_ | exact OLe.mapS0 rfl)) <;> try exact kZ
              all_goals (try (show List.map eI (g :: gr) ++ [eI y.no] = List.map eI (g :: (gr ++ [y.no])); simp; done))
          | false =>
            have hst : ¬ (stA l P i at_).1 = 0 := of_decide_eq_false hF
            rw [if_neg (by rw [hF]; exact Bool.false_ne_true), List.append_nil] at hfa
            cases hG : forL l P at_ i with
            | nil =>
              repeat' (first | exact cl1 | (refine stx ?_; first | exact exHM _ | refine exU8 ?_) | ((with_reducible show callX _ _ _ _ _); (first | refine call_iE [1216, 1217, 1218, 1219] ([(1216, .cells [.p (eL l), .p (eAt (atM l)), .p (eIs sg), .rsl 1217 1 0 P.dn.length, .rsl 1218 1 0 P.lk.length, .mp 1219]), (1217, .row 1 (P.dn.map PV.bool)), (1218, .row 1 (P.lk.map eI)), (1219, .mapS KTi 1 (hM (rvM P.rv)))]) (q5) (by kernel_rfl) rfl rfl (by decide) cl6 (fun i hi => by match i, hi with | 0, _ => (first | rfl | exact (renO_hM _ _ _ _).symm) | 1, _ => (first | rfl | exact (renO_hM _ _ _ _).symm) | 2, _ => (first | rfl | exact (renO_hM _ _ _ _).symm) | 3, _ => (first | rfl | exact (renO_hM _ _ _ _).symm)) cl7 cl8 (by simp [keys]) (by (try simp only [hP]); simp only [List.map_cons, List.map_nil, renO_hM]; rfl) ?_)) | ((fail_if_success refine stp ?_); (conv => whnf) <;> (first | exact cl2 | refine kBy hyes fun hc => ?_ | refine ix_at hxi ?_ | refine kBn hst fun hc => ?_ | refine kX ?_ | refine kP ?_ | refine kBd (fun hc => ?_) (fun hc => ?_) | refine kT ?_ | refine kF ?_ | refine kN ?_ | refine kBm (fun hc => ?_) (fun hc => ?_) | refine kO ?_ | refine kS ?_ | refine kA ?_ | exact PV.leL_nil | refine kC ?_ ?_ | refine And.intro ?_ ?_ | refine ix_map (fun x hx => ?_) | refine exU8 ?_ | refine nilc (fun hn => ?_) ?_ | exact cl3 | refine imp0 (fun hpos => ?_) | refine kG ?_ ?_ | exact rfl | exact trivial | (first | refine stq ?_ | fail)))) <;> (try exact cl5)
              refine ⟨⟨i + 1, hlt⟩, by show l.length - (i + 1) < l.length - i; omega, ?_⟩
              show Ent _ _ (hdS [0, 1, 2, 6, 7, 8, 9, 10, 11, 12, 17, 27, 32, 33, 34, 35, 47] _ _ _ [(6, oVI 9 (forL l P at_ (i + 1))), (34, .p (eI ((i + 1 : Nat) : Int)))] (oHI 9 (forL l P at_ (i + 1))) _)
              rw [hfa, hG]
              (first | refine Ent.ofA [] ?_ | refine Ent.ofC [] ?_) <;> (repeat' (first | exact trivial | refine kHd ?_ | refine kHm rfl (by simp) rfl (fun h => AObj.noConfusion h) ?_ ?_ | refine And.intro ?_ ?_ | exact cl9 | refine kVp ?_ | refine kVa ?_ | refine kVt ?_ | refine kVf ?_ ?_ | refine kVc ?_ ?_ | exact VLeL.nil | exact OLe.row _ _ | rfl | refine VLe.rsle rfl ?_ ?_ ?_ | refine kQw ?_ ?_ | refine kQm ?_ ?_ | refine kQj ?_ ?_ | refine kQc ?_ ?_ | refine kQs ?_ ?_ ?_ | exact OLe.mapS0 rfl)) <;> try exact kZ
            | cons g gr =>
              repeat' (first | exact cl1 | (refine stx ?_; first | exact exHM _ | refine exU8 ?_) | ((with_reducible show callX _ _ _ _ _); (first | refine call_iE [1216, 1217, 1218, 1219] ([(1216, .cells [.p (eL l), .p (eAt (atM l)), .p (eIs sg), .rsl 1217 1 0 P.dn.length, .rsl 1218 1 0 P.lk.length, .mp 1219]), (1217, .row 1 (P.dn.map PV.bool)), (1218, .row 1 (P.lk.map eI)), (1219, .mapS KTi 1 (hM (rvM P.rv)))]) (q5) (by kernel_rfl) rfl rfl (by decide) cl6 (fun i hi => by match i, hi with | 0, _ => (first | rfl | exact (renO_hM _ _ _ _).symm) | 1, _ => (first | rfl | exact (renO_hM _ _ _ _).symm) | 2, _ => (first | rfl | exact (renO_hM _ _ _ _).symm) | 3, _ => (first | rfl | exact (renO_hM _ _ _ _).symm)) cl7 cl8 (by simp [keys]) (by (try simp only [hP]); simp only [List.map_cons, List.map_nil, renO_hM]; rfl) ?_)) | ((fail_if_success refine stp ?_); (conv => whnf) <;> (first | exact cl2 | refine kBy hyes fun hc => ?_ | refine ix_at hxi ?_ | refine kBn hst fun hc => ?_ | refine kX ?_ | refine kP ?_ | refine kBd (fun hc => ?_) (fun hc => ?_) | refine kT ?_ | refine kF ?_ | refine kN ?_ | refine kBm (fun hc => ?_) (fun hc => ?_) | refine kO ?_ | refine kS ?_ | refine kA ?_ | exact PV.leL_nil | refine kC ?_ ?_ | refine And.intro ?_ ?_ | refine ix_map (fun x hx => ?_) | refine exU8 ?_ | refine nilc (fun hn => ?_) ?_ | exact cl3 | refine imp0 (fun hpos => ?_) | refine kG ?_ ?_ | exact rfl | exact trivial | (first | refine stq ?_ | fail)))) <;> (try exact cl5)
              refine ⟨⟨i + 1, hlt⟩, by show l.length - (i + 1) < l.length - i; omega, ?_⟩
              show Ent _ _ (hdS [0, 1, 2, 6, 7, 8, 9, 10, 11, 12, 17, 27, 32, 33, 34, 35, 47] _ _ _ [(6, oVI 9 (forL l P at_ (i + 1))), (34, .p (eI ((i + 1 : Nat) : Int)))] (oHI 9 (forL l P at_ (i + 1))) _)
              rw [hfa, hG]
              (first | refine Ent.ofA [] ?_ | refine Ent.ofC [] ?_) <;> (repeat' (first | exact trivial | refine kHd ?_ | refine kHm rfl (by simp) rfl (fun h => AObj.noConfusion h) ?_ ?_ | refine And.intro ?_ ?_ | exact cl9 | refine kVp ?_ | refine kVa ?_ | refine kVt ?_ | refine kVf ?_ ?_ | refine kVc ?_ ?_ | exact VLeL.nil | exact OLe.row _ _ | rfl | refine VLe.rsle rfl ?_ ?_ ?_ | refine kQw ?_ ?_ | refine kQm ?_ ?_ | refine kQj ?_ ?_ | refine kQc ?_ ?_ | refine kQs ?_ ?_ ?_ | exact OLe.mapS0 rfl)) <;> try exact kZ
        | none =>
          have hge : l.length ≤ i := List.getElem?_eq_none_iff.1 hxi
          have hno : ¬ ((i : Int) < ((l.map eA).length : Int)) := by rw [List.length_map]; omega
          have hil : i = l.length := by omega
          cases hG : forL l P at_ i with
          | nil =>
            repeat' (first | exact cl1 | (refine stx ?_; first | exact exHM _ | refine exU8 ?_) | ((fail_if_success refine stp ?_); (conv => whnf) <;> (first | exact cl2 | refine kBn hno fun hc => ?_ | refine kX ?_ | refine kP ?_ | refine kBd (fun hc => ?_) (fun hc => ?_) | refine kT ?_ | refine kF ?_ | refine kN ?_ | refine kBm (fun hc => ?_) (fun hc => ?_) | refine kO ?_ | refine kS ?_ | refine kA ?_ | exact PV.leL_nil | refine kC ?_ ?_ | refine And.intro ?_ ?_ | refine ix_map (fun x hx => ?_) | refine exU8 ?_ | refine nilc (fun hn => ?_) ?_ | exact cl3 | refine imp0 (fun hpos => ?_) | refine kG ?_ ?_ | exact rfl | exact trivial | (first | refine stq ?_ | fail)))) <;> (try exact cl5)
            rw [← hil, hG]; exact nilI _
          | cons g gr =>
            repeat' (first | exact cl1 | (refine stx ?_; first | exact exHM _ | refine exU8 ?_) | ((fail_if_success refine stp ?_); (conv => whnf) <;> (first | exact cl2 | refine kBn hno fun hc => ?_ | refine kX ?_ | refine kP ?_ | refine kBd (fun hc => ?_) (fun hc => ?_) | refine kT ?_ | refine kF ?_ | refine kN ?_ | refine kBm (fun hc => ?_) (fun hc => ?_) | refine kO ?_ | refine kS ?_ | refine kA ?_ | exact PV.leL_nil | refine kC ?_ ?_ | refine And.intro ?_ ?_ | refine ix_map (fun x hx => ?_) | refine exU8 ?_ | refine nilc (fun hn => ?_) ?_ | exact cl3 | refine imp0 (fun hpos => ?_) | refine kG ?_ ?_ | exact rfl | exact trivial | (first | refine stq ?_ | fail)))) <;> (try exact cl5)
            rw [← hil, hG]
            refine LeG.of (congrArg (fun q => PV.tup [PV.sl 1 false q, eI 0]) ?_)
            show List.take (gr.length + 1) (List.drop 0 (List.map eI (g :: gr))) = List.map eI (g :: gr)
            rw [List.drop_zero, List.take_of_length_le (by simp)]
  · rw [if_neg hz]
    refine PCalls.of (N := 55) (res := [.tmp 6, .tmp 7]) mixed Try.func20 rfl rfl rfl (by kernel_rfl) (by simp) [0, 1, 2, 6, 7, 8, 9, 10, 11, 12, 17, 27, 32, 33, 34, 35, 47] ?_
    repeat' (first | exact cl1 | (refine stx ?_; first | exact exHM _ | refine exU8 ?_) | ((with_reducible show callX _ _ _ _ _); (first | refine call_p (q1) (by kernel_rfl) rfl ?_)) | ((fail_if_success refine stp ?_); (conv => whnf) <;> (first | exact cl2 | refine kX ?_ | refine kP ?_ | refine kBd (fun hc => ?_) (fun hc => ?_) | refine kT ?_ | refine kF ?_ | refine kN ?_ | refine kBm (fun hc => ?_) (fun hc => ?_) | refine kO ?_ | refine kS ?_ | refine kA ?_ | exact PV.leL_nil | refine kC ?_ ?_ | refine And.intro ?_ ?_ | refine ix_map (fun x hx => ?_) | refine exU8 ?_ | refine nilc (fun hn => ?_) ?_ | exact cl3 | refine imp0 (fun hpos => ?_) | refine kG ?_ ?_ | exact rfl | exact trivial | (first | refine stq ?_ | fail)))) <;> (try exact cl5)
    all_goals exact nilI _
end Go.Proofs.Ytgclicahmbgfiaa

namespace Go.Proofs.Ytgclicahmbgfiaa.Cd
open Go Go.Sg
/-- A value: a kind, a number, a string, a list. -/
inductive Vl where
  | mk (kind n : Int) (s : ByteArray) (l : List Vl)
namespace Vl
def kind : Vl → Int | mk k _ _ _ => k
def n : Vl → Int | mk _ n _ _ => n
def s : Vl → ByteArray | mk _ _ s _ => s
def l : Vl → List Vl | mk _ _ _ l => l
end Vl
theorem sizeOf_mem {x : Vl} : ∀ {l : List Vl}, x ∈ l → SizeOf.sizeOf x < SizeOf.sizeOf l
  | y :: r, h => by
    rcases List.mem_cons.1 h with h | h
    · subst h; simp; omega
    · have := sizeOf_mem h; simp; omega
theorem Vl.ind {P : Vl → Prop} (h : ∀ v, (∀ x ∈ v.l, P x) → P v) : ∀ v, P v := by
  have key : ∀ m v, SizeOf.sizeOf v < m → P v := by
    intro m
    induction m with
    | zero => intro v hv; omega
    | succ m ih =>
      intro v hv
      refine h v fun x hx => ih x ?_
      have := sizeOf_mem hx
      cases v with
      | mk k n s l =>
        have hx2 : SizeOf.sizeOf x < SizeOf.sizeOf l := sizeOf_mem hx
        simp at hv; omega
  exact fun v => key _ v (Nat.lt_succ_self _)
mutual
def eV : Vl → PV
  | .mk k n s l => .agg [eI k, eI n, .str s, .sl 4 false (eVs l)]
def eVs : List Vl → List PV
  | [] => []
  | x :: r => eV x :: eVs r
end
theorem eVs_map : ∀ l, eVs l = l.map eV
  | [] => rfl
  | x :: r => by rw [eVs, eVs_map r]; rfl
/-- A value, as the walk sees it. -/
def eW (v : Vl) : PV := .agg [eI v.kind, eI v.n, .str v.s, .sl 4 false (v.l.map eV)]
theorem eV_eq (v : Vl) : eV v = eW v := by
  cases v with
  | mk k n s l => rw [eV, eVs_map]; rfl
theorem ix_v {l : List Vl} {n : Nat} {x : Vl} {K : PV → Prop} (hx : l[n]? = some x) (k : K (eW x)) : ∀ p, (l.map eV)[n]? = some p → K p := fun p hp => by
  rw [List.getElem?_map, hx] at hp
  injection hp with hp; subst hp; rw [eV_eq]; exact k
mutual
def frm : Vl → Bool
  | .mk k n s l => if k = 1 then decide (s = ByteArray.empty) && l.isEmpty else if k = 2 then decide (n = 0) && l.isEmpty else if k = 3 then decide (n = 0) && decide (s = ByteArray.empty) && frms l else false
def frms : List Vl → Bool
  | [] => true
  | x :: r => frm x && frms r
end
mutual
def dep : Vl → Nat
  | .mk k _ _ l => if k = 3 then deps l + 1 else 0
def deps : List Vl → Nat
  | [] => 0
  | x :: r => max (dep x) (deps r)
end
theorem frms_all : ∀ l, frms l = l.all frm
  | [] => rfl
  | x :: r => by rw [frms, frms_all r]; rfl
end Go.Proofs.Ytgclicahmbgfiaa.Cd

namespace Go.Proofs.Ytgclicahmbgfiaa.Cd
open Go Go.Sg
mutual
def lens (N : Nat) : Vl → Prop
  | .mk _ _ _ l => l.length ≤ N ∧ lensL N l
def lensL (N : Nat) : List Vl → Prop
  | [] => True
  | x :: r => lens N x ∧ lensL N r
end
theorem lensL_mem {N : Nat} {x : Vl} : ∀ {l : List Vl}, lensL N l → x ∈ l → lens N x
  | y :: r, h, hx => by
    rcases List.mem_cons.1 hx with e | e
    · subst e; exact h.1
    · exact lensL_mem h.2 e
theorem dep_mem {x : Vl} : ∀ {l : List Vl}, x ∈ l → dep x ≤ deps l
  | y :: r, hx => by
    rw [deps]
    rcases List.mem_cons.1 hx with e | e
    · subst e; omega
    · have := dep_mem e; omega
theorem deps_append (a b : List Vl) : deps (a ++ b) = max (deps a) (deps b) := by
  induction a with
  | nil => simp [deps]
  | cons x r ih => simp [deps, ih, Nat.max_assoc]
theorem deps_take {l : List Vl} {i : Nat} {x : Vl} (h : l[i]? = some x) : deps (l.take (i + 1)) = max (deps (l.take i)) (dep x) := by
  rw [List.take_add_one, h, deps_append]; simp [deps]
theorem Depth_calls : ∀ v, lens 5000 v → dep v ≤ 1000000 → PCalls Try.prog 92 [eW v] (eI (dep v)) := by
  refine Vl.ind fun v ih hl hd => ?_
  obtain ⟨k, n, s, l⟩ := v
  obtain ⟨hll, hls⟩ := hl
  have ih : ∀ x ∈ l, lens 5000 x → dep x ≤ 1000000 → PCalls Try.prog 92 [eW x] (eI (dep x)) := ih
  show PCalls Try.prog 92 [.agg [eI k, eI n, .str s, .sl 4 false (l.map eV)]] _
  by_cases hk : k = 3
  · have hde : dep (.mk k n s l) = deps l + 1 := by rw [dep, if_pos hk]
    rw [hde] at hd ⊢
    have hk2 : ¬ k ≠ 3 := fun h => h hk
    refine PCalls.of (N := 25) (res := [.tmp 2]) mixed Try.func92 rfl rfl rfl (by kernel_rfl) (by simp) [0, 1, 2, 3, 4, 7, 12] ?_
    repeat' (first | exact cl1 | exact kE | (refine stx ?_; refine exU8 ?_) | ((fail_if_success refine stp ?_); (conv => whnf) <;> (first | exact cl2 | refine kBn hk2 fun hc => ?_ | refine kX ?_ | refine kP ?_ | refine kBd (fun hc => ?_) (fun hc => ?_) | refine kT ?_ | refine kF ?_ | refine kN ?_ | refine kBm (fun hc => ?_) (fun hc => ?_) | refine kO ?_ | refine kS ?_ | refine kA ?_ | refine kC ?_ ?_ | refine And.intro ?_ ?_ | refine ix_map (fun x hx => ?_) | refine exU8 ?_ | refine nilc (fun hn => ?_) ?_ | exact kW1 | refine imp0 (fun hpos => ?_) | refine kG ?_ ?_ | exact kW2 | (first | refine stq ?_ | fail)))) <;> (try exact cl5)
    refine Wpc.loopB (α := {i : Nat // i ≤ l.length}) mixed [0, 1, 2, 3, 4, 7, 12] (fun i => [(3, .p (eI (deps (l.take i.1)))), (4, .p (eI i.1))]) (fun i => l.length - i.1) ⟨0, by omega⟩ ?_ ?_
    · (first | refine Ent.ofA [] ?_ | refine Ent.ofC [] ?_) <;> (repeat' (first | exact kQ1 | refine kHd ?_ | refine kHm rfl (by simp) rfl (fun h => AObj.noConfusion h) ?_ ?_ | refine And.intro ?_ ?_ | refine kVp ?_ | refine kVa ?_ | refine kVt ?_ | refine kVf ?_ ?_ | refine kVc ?_ ?_ | exact kQ2 | refine VLe.rsle rfl ?_ ?_ ?_ | refine kQw ?_ ?_ | refine kQm ?_ ?_ | refine kQj ?_ ?_ | refine kQc ?_ ?_ | refine kQs ?_ ?_ ?_)) <;> try exact kZ
    rintro ⟨i, hi⟩
    have hi : i ≤ l.length := hi
    clear hc
    cases hxi : l[i]? with
    | none =>
      have hge : l.length ≤ i := List.getElem?_eq_none_iff.1 hxi
      have hno : ¬ ((i : Int) < ((l.map eV).length : Int)) := by rw [List.length_map]; omega
      have hdt : deps (l.take i) = deps l := by rw [List.take_of_length_le hge]
      repeat' (first | exact cl1 | exact kE | (refine stx ?_; refine exU8 ?_) | ((fail_if_success refine stp ?_); (conv => whnf) <;> (first | exact cl2 | refine kBn hno fun hc => ?_ | refine kX ?_ | refine kP ?_ | refine kBd (fun hc => ?_) (fun hc => ?_) | refine kT ?_ | refine kF ?_ | refine kN ?_ | refine kBm (fun hc => ?_) (fun hc => ?_) | refine kO ?_ | refine kS ?_ | refine kA ?_ | refine kC ?_ ?_ | refine And.intro ?_ ?_ | refine ix_map (fun x hx => ?_) | refine exU8 ?_ | refine nilc (fun hn => ?_) ?_ | exact kW1 | refine imp0 (fun hpos => ?_) | refine kG ?_ ?_ | exact kW2 | (first | refine stq ?_ | fail)))) <;> (try exact cl5)
      refine LeG.of (congrArg eI ?_)
      show ((deps (l.take i) : Nat) : Int) + 1 = ((deps l + 1 : Nat) : Int)
      rw [hdt]; omega
    | some x =>
      have hlt : i < l.length := (List.getElem?_eq_some_iff.1 hxi).1
      have hyes : ((i : Int) < ((l.map eV).length : Int)) := by rw [List.length_map]; omega
      have hxm := List.mem_of_getElem? hxi
      have hdx := dep_mem hxm
      have q1 := ih x hxm (lensL_mem hls hxm) (by omega)
      have hdt := deps_take hxi
      repeat' (first | exact cl1 | exact kE | (refine stx ?_; refine exU8 ?_) | ((with_reducible show callX _ _ _ _ _); (first | refine call_p (q1) (by kernel_rfl) rfl ?_)) | ((fail_if_success refine stp ?_); (conv => whnf) <;> (first | exact cl2 | refine kBy hyes fun hc => ?_ | refine ix_v hxi ?_ | refine kX ?_ | refine kP ?_ | refine kBd (fun hc => ?_) (fun hc => ?_) | refine kT ?_ | refine kF ?_ | refine kN ?_ | refine kBm (fun hc => ?_) (fun hc => ?_) | refine kO ?_ | refine kS ?_ | refine kA ?_ | refine kC ?_ ?_ | refine And.intro ?_ ?_ | refine ix_map (fun x hx => ?_) | refine exU8 ?_ | refine nilc (fun hn => ?_) ?_ | exact kW1 | refine imp0 (fun hpos => ?_) | refine kG ?_ ?_ | exact kW2 | (first | refine stq ?_ | fail)))) <;> (try exact cl5)
      refine ⟨⟨i + 1, hlt⟩, by show l.length - (i + 1) < l.length - i; omega, ?_⟩
      (first | refine Ent.ofA [] ?_ | refine Ent.ofC [] ?_) <;> (repeat' (first | exact kQ1 | refine kHd ?_ | refine kHm rfl (by simp) rfl (fun h => AObj.noConfusion h) ?_ ?_ | refine And.intro ?_ ?_ | refine kVp ?_ | refine kVa ?_ | refine kVt ?_ | refine kVf ?_ ?_ | refine kVc ?_ ?_ | exact kQ2 | refine VLe.rsle rfl ?_ ?_ ?_ | refine kQw ?_ ?_ | refine kQm ?_ ?_ | refine kQj ?_ ?_ | refine kQc ?_ ?_ | refine kQs ?_ ?_ ?_)) <;> try exact kZ
      all_goals (refine congrArg eI ?_)
      all_goals (show _ = ((deps (l.take (i + 1)) : Nat) : Int))
      all_goals (rw [hdt])
      all_goals trace_state
  · have hde : dep (.mk k n s l) = 0 := by rw [dep, if_neg hk]
    rw [hde]
    refine PCalls.of (N := 25) (res := [.tmp 2]) mixed Try.func92 rfl rfl rfl (by kernel_rfl) (by simp) [0, 1, 2, 3, 4, 7, 12] ?_
    repeat' (first | exact cl1 | exact kE | (refine stx ?_; refine exU8 ?_) | ((fail_if_success refine stp ?_); (conv => whnf) <;> (first | exact cl2 | refine kBy hk fun hc => ?_ | refine kX ?_ | refine kP ?_ | refine kBd (fun hc => ?_) (fun hc => ?_) | refine kT ?_ | refine kF ?_ | refine kN ?_ | refine kBm (fun hc => ?_) (fun hc => ?_) | refine kO ?_ | refine kS ?_ | refine kA ?_ | refine kC ?_ ?_ | refine And.intro ?_ ?_ | refine ix_map (fun x hx => ?_) | refine exU8 ?_ | refine nilc (fun hn => ?_) ?_ | exact kW1 | refine imp0 (fun hpos => ?_) | refine kG ?_ ?_ | exact kW2 | (first | refine stq ?_ | fail)))) <;> (try exact cl5)
end Go.Proofs.Ytgclicahmbgfiaa.Cd

namespace Go.Proofs.Ytgclicahmbgfiaa.Cd
open Go Go.Sg
theorem isE (l : List Vl) : decide (((l.map eV).length : Int) = 0) = l.isEmpty := by
  rw [List.length_map]
  cases l with
  | nil => rfl
  | cons a r => simp; omega
theorem frm_list {n : Int} {s : ByteArray} {l : List Vl} : frm (.mk 3 n s l) = (decide (n = 0) && decide (s = ByteArray.empty) && l.all frm) := by
  rw [frm, if_neg (by decide), if_neg (by decide), if_pos rfl, frms_all]
theorem frm_int {n : Int} {s : ByteArray} {l : List Vl} : frm (.mk 1 n s l) = (decide (s = ByteArray.empty) && l.isEmpty) := by
  rw [frm, if_pos rfl]
theorem frm_text {n : Int} {s : ByteArray} {l : List Vl} : frm (.mk 2 n s l) = (decide (n = 0) && l.isEmpty) := by
  rw [frm, if_neg (by decide), if_pos rfl]
theorem frm_other {k n : Int} {s : ByteArray} {l : List Vl} (h1 : ¬ k = 1) (h2 : ¬ k = 2) (h3 : ¬ k = 3) : frm (.mk k n s l) = false := by
  rw [frm, if_neg h1, if_neg h2, if_neg h3]
theorem Formed_calls : ∀ v, lens 5000 v → PCalls Try.prog 91 [eW v] (.bool (frm v)) := by
  refine Vl.ind fun v ih hl => ?_
  obtain ⟨k, n, s, l⟩ := v
  obtain ⟨hll, hls⟩ := hl
  have ih : ∀ x ∈ l, lens 5000 x → PCalls Try.prog 91 [eW x] (.bool (frm x)) := ih
  show PCalls Try.prog 91 [.agg [eI k, eI n, .str s, .sl 4 false (l.map eV)]] _
  by_cases h1 : k = 1
  · subst h1
    rw [frm_int]
    by_cases hs : s = ByteArray.empty
    · rw [decide_eq_true hs]
      refine PCalls.of (N := 52) (res := [.tmp 2]) mixed Try.func91 rfl rfl rfl (by kernel_rfl) (by simp) [0, 1, 2, 3, 5, 6, 17, 28, 34, 43] ?_
      repeat' (first | exact cl1 | exact kE | (refine stx ?_; refine exU8 ?_) | ((fail_if_success refine stp ?_); (conv => whnf) <;> (first | exact cl2 | refine kT ?_ | refine kF ?_ | refine kBy hs fun hc => ?_ | refine kX ?_ | refine kP ?_ | refine kBd (fun hc => ?_) (fun hc => ?_) | refine kT ?_ | refine kF ?_ | refine kN ?_ | refine kBm (fun hc => ?_) (fun hc => ?_) | refine kO ?_ | refine kS ?_ | refine kA ?_ | refine kC ?_ ?_ | refine And.intro ?_ ?_ | refine ix_map (fun x hx => ?_) | refine exU8 ?_ | refine nilc (fun hn => ?_) ?_ | exact kW1 | refine imp0 (fun hpos => ?_) | refine kG ?_ ?_ | exact kW2 | (first | refine stq ?_ | fail)))) <;> (try exact cl5)
      exact LeG.bool (isE l)
    · rw [decide_eq_false hs]
      refine PCalls.of (N := 52) (res := [.tmp 2]) mixed Try.func91 rfl rfl rfl (by kernel_rfl) (by simp) [0, 1, 2, 3, 5, 6, 17, 28, 34, 43] ?_
      repeat' (first | exact cl1 | exact kE | (refine stx ?_; refine exU8 ?_) | ((fail_if_success refine stp ?_); (conv => whnf) <;> (first | exact cl2 | refine kT ?_ | refine kF ?_ | refine kBn hs fun hc => ?_ | refine kX ?_ | refine kP ?_ | refine kBd (fun hc => ?_) (fun hc => ?_) | refine kT ?_ | refine kF ?_ | refine kN ?_ | refine kBm (fun hc => ?_) (fun hc => ?_) | refine kO ?_ | refine kS ?_ | refine kA ?_ | refine kC ?_ ?_ | refine And.intro ?_ ?_ | refine ix_map (fun x hx => ?_) | refine exU8 ?_ | refine nilc (fun hn => ?_) ?_ | exact kW1 | refine imp0 (fun hpos => ?_) | refine kG ?_ ?_ | exact kW2 | (first | refine stq ?_ | fail)))) <;> (try exact cl5)
  · by_cases h2 : k = 2
    · subst h2
      rw [frm_text]
      by_cases hn : n = 0
      · rw [decide_eq_true hn]
        refine PCalls.of (N := 52) (res := [.tmp 2]) mixed Try.func91 rfl rfl rfl (by kernel_rfl) (by simp) [0, 1, 2, 3, 5, 6, 17, 28, 34, 43] ?_
        repeat' (first | exact cl1 | exact kE | (refine stx ?_; refine exU8 ?_) | ((fail_if_success refine stp ?_); (conv => whnf) <;> (first | exact cl2 | refine kT ?_ | refine kF ?_ | refine kBy hn fun hc => ?_ | refine kX ?_ | refine kP ?_ | refine kBd (fun hc => ?_) (fun hc => ?_) | refine kT ?_ | refine kF ?_ | refine kN ?_ | refine kBm (fun hc => ?_) (fun hc => ?_) | refine kO ?_ | refine kS ?_ | refine kA ?_ | refine kC ?_ ?_ | refine And.intro ?_ ?_ | refine ix_map (fun x hx => ?_) | refine exU8 ?_ | refine nilc (fun hn => ?_) ?_ | exact kW1 | refine imp0 (fun hpos => ?_) | refine kG ?_ ?_ | exact kW2 | (first | refine stq ?_ | fail)))) <;> (try exact cl5)
        exact LeG.bool (isE l)
      · rw [decide_eq_false hn]
        refine PCalls.of (N := 52) (res := [.tmp 2]) mixed Try.func91 rfl rfl rfl (by kernel_rfl) (by simp) [0, 1, 2, 3, 5, 6, 17, 28, 34, 43] ?_
        repeat' (first | exact cl1 | exact kE | (refine stx ?_; refine exU8 ?_) | ((fail_if_success refine stp ?_); (conv => whnf) <;> (first | exact cl2 | refine kT ?_ | refine kF ?_ | refine kBn hn fun hc => ?_ | refine kX ?_ | refine kP ?_ | refine kBd (fun hc => ?_) (fun hc => ?_) | refine kT ?_ | refine kF ?_ | refine kN ?_ | refine kBm (fun hc => ?_) (fun hc => ?_) | refine kO ?_ | refine kS ?_ | refine kA ?_ | refine kC ?_ ?_ | refine And.intro ?_ ?_ | refine ix_map (fun x hx => ?_) | refine exU8 ?_ | refine nilc (fun hn => ?_) ?_ | exact kW1 | refine imp0 (fun hpos => ?_) | refine kG ?_ ?_ | exact kW2 | (first | refine stq ?_ | fail)))) <;> (try exact cl5)
    · by_cases h3 : k = 3
      · subst h3
        rw [frm_list]
        refine PCalls.of (N := 52) (res := [.tmp 2]) mixed Try.func91 rfl rfl rfl (by kernel_rfl) (by simp) [0, 1, 2, 3, 5, 6, 17, 28, 34, 43] ?_
        repeat' (first | exact cl1 | exact kE | (refine stx ?_; refine exU8 ?_) | ((fail_if_success refine stp ?_); (conv => whnf) <;> (first | exact cl2 | refine kT ?_ | refine kF ?_ | refine kX ?_ | refine kP ?_ | refine kBd (fun hc => ?_) (fun hc => ?_) | refine kT ?_ | refine kF ?_ | refine kN ?_ | refine kBm (fun hc => ?_) (fun hc => ?_) | refine kO ?_ | refine kS ?_ | refine kA ?_ | refine kC ?_ ?_ | refine And.intro ?_ ?_ | refine ix_map (fun x hx => ?_) | refine exU8 ?_ | refine nilc (fun hn => ?_) ?_ | exact kW1 | refine imp0 (fun hpos => ?_) | refine kG ?_ ?_ | exact kW2 | (first | refine stq ?_ | fail)))) <;> (try exact cl5)
        refine Wpc.loopB (α := {i : Nat // i ≤ l.length ∧ (l.take i).all frm = true}) mixed [0, 1, 2, 3, 5, 6, 17, 28, 34, 43] (fun i => [(3, .p (eI i.1))]) (fun i => l.length - i.1) ⟨0, by omega, rfl⟩ ?_ ?_
        · (first | refine Ent.ofA [] ?_ | refine Ent.ofC [] ?_) <;> (repeat' (first | exact kQ1 | refine kHd ?_ | refine kHm rfl (by simp) rfl (fun h => AObj.noConfusion h) ?_ ?_ | refine And.intro ?_ ?_ | refine kVp ?_ | refine kVa ?_ | refine kVt ?_ | refine kVf ?_ ?_ | refine kVc ?_ ?_ | exact kQ2 | refine VLe.rsle rfl ?_ ?_ ?_ | refine kQw ?_ ?_ | refine kQm ?_ ?_ | refine kQj ?_ ?_ | refine kQc ?_ ?_ | refine kQs ?_ ?_ ?_)) <;> try exact kZ
        rintro ⟨i, hi, hq⟩
        have hi : i ≤ l.length := hi
        have hq : (l.take i).all frm = true := hq
        cases hxi : l[i]? with
        | none =>
          have hge : l.length ≤ i := List.getElem?_eq_none_iff.1 hxi
          have hno : ¬ ((i : Int) < ((l.map eV).length : Int)) := by rw [List.length_map]; omega
          rw [List.take_of_length_le hge] at hq
          rw [hq]
          repeat' (first | exact cl1 | exact kE | (refine stx ?_; refine exU8 ?_) | ((fail_if_success refine stp ?_); (conv => whnf) <;> (first | exact cl2 | refine kBn hno fun hc => ?_ | refine kX ?_ | refine kP ?_ | refine kBd (fun hc => ?_) (fun hc => ?_) | refine kT ?_ | refine kF ?_ | refine kN ?_ | refine kBm (fun hc => ?_) (fun hc => ?_) | refine kO ?_ | refine kS ?_ | refine kA ?_ | refine kC ?_ ?_ | refine And.intro ?_ ?_ | refine ix_map (fun x hx => ?_) | refine exU8 ?_ | refine nilc (fun hn => ?_) ?_ | exact kW1 | refine imp0 (fun hpos => ?_) | refine kG ?_ ?_ | exact kW2 | (first | refine stq ?_ | fail)))) <;> (try exact cl5)
          all_goals first
          | (refine LeG.bool ?_
             have hn : n = 0 := hc
             rw [decide_eq_true hn, Bool.true_and, Bool.and_true]; rfl)
          | (refine LeG.bool ?_
             have hn : ¬ n = 0 := hc
             rw [decide_eq_false hn]; rfl)
          | trace_state
        | some x =>
          have hlt : i < l.length := (List.getElem?_eq_some_iff.1 hxi).1
          have hyes : ((i : Int) < ((l.map eV).length : Int)) := by rw [List.length_map]; omega
          have hxm := List.mem_of_getElem? hxi
          have q1 := ih x hxm (lensL_mem hls hxm)
          cases hf : frm x with
          | true =>
            rw [hf] at q1
            have hq2 : (l.take (i + 1)).all frm = true := by rw [List.take_add_one, hxi]; simp [hq, hf]
            repeat' (first | exact cl1 | exact kE | (refine stx ?_; refine exU8 ?_) | ((with_reducible show callX _ _ _ _ _); (first | refine call_p (q1) (by kernel_rfl) rfl ?_)) | ((fail_if_success refine stp ?_); (conv => whnf) <;> (first | exact cl2 | refine kBy hyes fun hc => ?_ | refine ix_v hxi ?_ | refine kX ?_ | refine kP ?_ | refine kBd (fun hc => ?_) (fun hc => ?_) | refine kT ?_ | refine kF ?_ | refine kN ?_ | refine kBm (fun hc => ?_) (fun hc => ?_) | refine kO ?_ | refine kS ?_ | refine kA ?_ | refine kC ?_ ?_ | refine And.intro ?_ ?_ | refine ix_map (fun x hx => ?_) | refine exU8 ?_ | refine nilc (fun hn => ?_) ?_ | exact kW1 | refine imp0 (fun hpos => ?_) | refine kG ?_ ?_ | exact kW2 | (first | refine stq ?_ | fail)))) <;> (try exact cl5)
            refine ⟨⟨i + 1, hlt, hq2⟩, by show l.length - (i + 1) < l.length - i; omega, ?_⟩
            (first | refine Ent.ofA [] ?_ | refine Ent.ofC [] ?_) <;> (repeat' (first | exact kQ1 | refine kHd ?_ | refine kHm rfl (by simp) rfl (fun h => AObj.noConfusion h) ?_ ?_ | refine And.intro ?_ ?_ | refine kVp ?_ | refine kVa ?_ | refine kVt ?_ | refine kVf ?_ ?_ | refine kVc ?_ ?_ | exact kQ2 | refine VLe.rsle rfl ?_ ?_ ?_ | refine kQw ?_ ?_ | refine kQm ?_ ?_ | refine kQj ?_ ?_ | refine kQc ?_ ?_ | refine kQs ?_ ?_ ?_)) <;> try exact kZ
          | false =>
            rw [hf] at q1
            have hq2 : l.all frm = false := by
              rw [List.all_eq_false]; exact ⟨x, hxm, by rw [hf]; simp⟩
            rw [hq2]
            repeat' (first | exact cl1 | exact kE | (refine stx ?_; refine exU8 ?_) | ((with_reducible show callX _ _ _ _ _); (first | refine call_p (q1) (by kernel_rfl) rfl ?_)) | ((fail_if_success refine stp ?_); (conv => whnf) <;> (first | exact cl2 | refine kBy hyes fun hc => ?_ | refine ix_v hxi ?_ | refine kX ?_ | refine kP ?_ | refine kBd (fun hc => ?_) (fun hc => ?_) | refine kT ?_ | refine kF ?_ | refine kN ?_ | refine kBm (fun hc => ?_) (fun hc => ?_) | refine kO ?_ | refine kS ?_ | refine kA ?_ | refine kC ?_ ?_ | refine And.intro ?_ ?_ | refine ix_map (fun x hx => ?_) | refine exU8 ?_ | refine nilc (fun hn => ?_) ?_ | exact kW1 | refine imp0 (fun hpos => ?_) | refine kG ?_ ?_ | exact kW2 | (first | refine stq ?_ | fail)))) <;> (try exact cl5)
            refine LeG.bool ?_
            simp
      · rw [frm_other h1 h2 h3]
        refine PCalls.of (N := 52) (res := [.tmp 2]) mixed Try.func91 rfl rfl rfl (by kernel_rfl) (by simp) [0, 1, 2, 3, 5, 6, 17, 28, 34, 43] ?_
        repeat' (first | exact cl1 | exact kE | (refine stx ?_; refine exU8 ?_) | ((fail_if_success refine stp ?_); (conv => whnf) <;> (first | exact cl2 | refine kBn h1 fun hc => ?_ | refine kBn h2 fun hc => ?_ | refine kBn h3 fun hc => ?_ | refine kX ?_ | refine kP ?_ | refine kBd (fun hc => ?_) (fun hc => ?_) | refine kT ?_ | refine kF ?_ | refine kN ?_ | refine kBm (fun hc => ?_) (fun hc => ?_) | refine kO ?_ | refine kS ?_ | refine kA ?_ | refine kC ?_ ?_ | refine And.intro ?_ ?_ | refine ix_map (fun x hx => ?_) | refine exU8 ?_ | refine nilc (fun hn => ?_) ?_ | exact kW1 | refine imp0 (fun hpos => ?_) | refine kG ?_ ?_ | exact kW2 | (first | refine stq ?_ | fail)))) <;> (try exact cl5)
end Go.Proofs.Ytgclicahmbgfiaa.Cd

namespace Go.Proofs.Ytgclicahmbgfiaa.Cd
open Go Go.Sg
def fmR (v : Vl) : PV := if frm v then .tup [eI (dep v), .bool true] else .tup [eI 0, .bool false]
theorem ix_l {l : List PV} {n : Nat} {x : PV} {K : PV → Prop} (h : l[n]? = some x) (k : K x) : ∀ p, l[n]? = some p → K p := fun p hp => by
  rw [h] at hp; injection hp with hp; subst hp; exact k
theorem dep_no {k n : Int} {s : ByteArray} {l : List Vl} (h : ¬ k = 3) : dep (.mk k n s l) = 0 := by rw [dep, if_neg h]
theorem dep_list {n : Int} {s : ByteArray} {l : List Vl} : dep (.mk 3 n s l) = deps l + 1 := by rw [dep, if_pos rfl]
theorem fmR_no {v : Vl} (h : frm v = false) : fmR v = .tup [eI 0, .bool false] := by unfold fmR; rw [h]; rfl
theorem fmR_yes {v : Vl} (h : frm v = true) : fmR v = .tup [eI (dep v), .bool true] := by unfold fmR; rw [h]; rfl
theorem formed_calls : ∀ v, lens 5000 v → dep v ≤ 1000000 → PCalls Try.prog 85 [eW v] (fmR v) := by
  refine Vl.ind fun v ih hl hd => ?_
  obtain ⟨k, n, s, l⟩ := v
  obtain ⟨hll, hls⟩ := hl
  have ih : ∀ x ∈ l, lens 5000 x → dep x ≤ 1000000 → PCalls Try.prog 85 [eW x] (fmR x) := ih
  show PCalls Try.prog 85 [.agg [eI k, eI n, .str s, .sl 4 false (l.map eV)]] _
  have hel : ∀ b, decide (((l.map eV).length : Int) = 0) = b → l.isEmpty = b := fun b h => by rw [← isE]; exact h
  by_cases h1 : k = 1
  · subst h1
    by_cases hs : s = ByteArray.empty
    · by_cases he : ((l.map eV).length : Int) = 0
      · have hf : frm (.mk 1 n s l) = true := by rw [frm_int, decide_eq_true hs, hel true (decide_eq_true he)]; rfl
        rw [fmR_yes hf, dep_no (by decide)]
        refine PCalls.of (N := 74) (res := [.tmp 2, .tmp 3]) mixed Try.func85 rfl rfl rfl (by kernel_rfl) (by simp) [0, 1, 2, 3, 4, 6, 7, 8, 50, 53, 55, 56, 57, 58, 67] ?_
        repeat' (first | exact cl1 | exact kE | (refine stx ?_; refine exU8 ?_) | ((fail_if_success refine stp ?_); (conv => whnf) <;> (first | exact cl2 | refine ix_l rfl ?_ | refine kT ?_ | refine kF ?_ | refine kBy hs fun hc => ?_ | refine kBy he fun hc => ?_ | refine kX ?_ | refine kP ?_ | refine kBd (fun hc => ?_) (fun hc => ?_) | refine kT ?_ | refine kF ?_ | refine kN ?_ | refine kBm (fun hc => ?_) (fun hc => ?_) | refine kO ?_ | refine kS ?_ | refine kA ?_ | refine kC ?_ ?_ | refine And.intro ?_ ?_ | refine ix_map (fun x hx => ?_) | refine exU8 ?_ | refine nilc (fun hn => ?_) ?_ | exact kW1 | refine imp0 (fun hpos => ?_) | refine kG ?_ ?_ | exact kW2 | (first | refine stq ?_ | fail)))) <;> (try exact cl5)
      · have hf : frm (.mk 1 n s l) = false := by rw [frm_int, hel false (decide_eq_false he)]; simp
        rw [fmR_no hf]
        refine PCalls.of (N := 74) (res := [.tmp 2, .tmp 3]) mixed Try.func85 rfl rfl rfl (by kernel_rfl) (by simp) [0, 1, 2, 3, 4, 6, 7, 8, 50, 53, 55, 56, 57, 58, 67] ?_
        repeat' (first | exact cl1 | exact kE | (refine stx ?_; refine exU8 ?_) | ((fail_if_success refine stp ?_); (conv => whnf) <;> (first | exact cl2 | refine ix_l rfl ?_ | refine kT ?_ | refine kF ?_ | refine kBy hs fun hc => ?_ | refine kBn he fun hc => ?_ | refine kX ?_ | refine kP ?_ | refine kBd (fun hc => ?_) (fun hc => ?_) | refine kT ?_ | refine kF ?_ | refine kN ?_ | refine kBm (fun hc => ?_) (fun hc => ?_) | refine kO ?_ | refine kS ?_ | refine kA ?_ | refine kC ?_ ?_ | refine And.intro ?_ ?_ | refine ix_map (fun x hx => ?_) | refine exU8 ?_ | refine nilc (fun hn => ?_) ?_ | exact kW1 | refine imp0 (fun hpos => ?_) | refine kG ?_ ?_ | exact kW2 | (first | refine stq ?_ | fail)))) <;> (try exact cl5)
    · have hf : frm (.mk 1 n s l) = false := by rw [frm_int, decide_eq_false hs]; rfl
      rw [fmR_no hf]
      refine PCalls.of (N := 74) (res := [.tmp 2, .tmp 3]) mixed Try.func85 rfl rfl rfl (by kernel_rfl) (by simp) [0, 1, 2, 3, 4, 6, 7, 8, 50, 53, 55, 56, 57, 58, 67] ?_
      repeat' (first | exact cl1 | exact kE | (refine stx ?_; refine exU8 ?_) | ((fail_if_success refine stp ?_); (conv => whnf) <;> (first | exact cl2 | refine ix_l rfl ?_ | refine kT ?_ | refine kF ?_ | refine kBn hs fun hc => ?_ | refine kX ?_ | refine kP ?_ | refine kBd (fun hc => ?_) (fun hc => ?_) | refine kT ?_ | refine kF ?_ | refine kN ?_ | refine kBm (fun hc => ?_) (fun hc => ?_) | refine kO ?_ | refine kS ?_ | refine kA ?_ | refine kC ?_ ?_ | refine And.intro ?_ ?_ | refine ix_map (fun x hx => ?_) | refine exU8 ?_ | refine nilc (fun hn => ?_) ?_ | exact kW1 | refine imp0 (fun hpos => ?_) | refine kG ?_ ?_ | exact kW2 | (first | refine stq ?_ | fail)))) <;> (try exact cl5)
  · by_cases h2 : k = 2
    · subst h2
      by_cases hn : n = 0
      · by_cases he : ((l.map eV).length : Int) = 0
        · have hf : frm (.mk 2 n s l) = true := by rw [frm_text, decide_eq_true hn, hel true (decide_eq_true he)]; rfl
          rw [fmR_yes hf, dep_no (by decide)]
          refine PCalls.of (N := 74) (res := [.tmp 2, .tmp 3]) mixed Try.func85 rfl rfl rfl (by kernel_rfl) (by simp) [0, 1, 2, 3, 4, 6, 7, 8, 50, 53, 55, 56, 57, 58, 67] ?_
          repeat' (first | exact cl1 | exact kE | (refine stx ?_; refine exU8 ?_) | ((fail_if_success refine stp ?_); (conv => whnf) <;> (first | exact cl2 | refine ix_l rfl ?_ | refine kT ?_ | refine kF ?_ | refine kBy hn fun hc => ?_ | refine kBy he fun hc => ?_ | refine kX ?_ | refine kP ?_ | refine kBd (fun hc => ?_) (fun hc => ?_) | refine kT ?_ | refine kF ?_ | refine kN ?_ | refine kBm (fun hc => ?_) (fun hc => ?_) | refine kO ?_ | refine kS ?_ | refine kA ?_ | refine kC ?_ ?_ | refine And.intro ?_ ?_ | refine ix_map (fun x hx => ?_) | refine exU8 ?_ | refine nilc (fun hn => ?_) ?_ | exact kW1 | refine imp0 (fun hpos => ?_) | refine kG ?_ ?_ | exact kW2 | (first | refine stq ?_ | fail)))) <;> (try exact cl5)
        · have hf : frm (.mk 2 n s l) = false := by rw [frm_text, hel false (decide_eq_false he)]; simp
          rw [fmR_no hf]
          refine PCalls.of (N := 74) (res := [.tmp 2, .tmp 3]) mixed Try.func85 rfl rfl rfl (by kernel_rfl) (by simp) [0, 1, 2, 3, 4, 6, 7, 8, 50, 53, 55, 56, 57, 58, 67] ?_
          repeat' (first | exact cl1 | exact kE | (refine stx ?_; refine exU8 ?_) | ((fail_if_success refine stp ?_); (conv => whnf) <;> (first | exact cl2 | refine ix_l rfl ?_ | refine kT ?_ | refine kF ?_ | refine kBy hn fun hc => ?_ | refine kBn he fun hc => ?_ | refine kX ?_ | refine kP ?_ | refine kBd (fun hc => ?_) (fun hc => ?_) | refine kT ?_ | refine kF ?_ | refine kN ?_ | refine kBm (fun hc => ?_) (fun hc => ?_) | refine kO ?_ | refine kS ?_ | refine kA ?_ | refine kC ?_ ?_ | refine And.intro ?_ ?_ | refine ix_map (fun x hx => ?_) | refine exU8 ?_ | refine nilc (fun hn => ?_) ?_ | exact kW1 | refine imp0 (fun hpos => ?_) | refine kG ?_ ?_ | exact kW2 | (first | refine stq ?_ | fail)))) <;> (try exact cl5)
      · have hf : frm (.mk 2 n s l) = false := by rw [frm_text, decide_eq_false hn]; rfl
        rw [fmR_no hf]
        refine PCalls.of (N := 74) (res := [.tmp 2, .tmp 3]) mixed Try.func85 rfl rfl rfl (by kernel_rfl) (by simp) [0, 1, 2, 3, 4, 6, 7, 8, 50, 53, 55, 56, 57, 58, 67] ?_
        repeat' (first | exact cl1 | exact kE | (refine stx ?_; refine exU8 ?_) | ((fail_if_success refine stp ?_); (conv => whnf) <;> (first | exact cl2 | refine ix_l rfl ?_ | refine kT ?_ | refine kF ?_ | refine kBn hn fun hc => ?_ | refine kX ?_ | refine kP ?_ | refine kBd (fun hc => ?_) (fun hc => ?_) | refine kT ?_ | refine kF ?_ | refine kN ?_ | refine kBm (fun hc => ?_) (fun hc => ?_) | refine kO ?_ | refine kS ?_ | refine kA ?_ | refine kC ?_ ?_ | refine And.intro ?_ ?_ | refine ix_map (fun x hx => ?_) | refine exU8 ?_ | refine nilc (fun hn => ?_) ?_ | exact kW1 | refine imp0 (fun hpos => ?_) | refine kG ?_ ?_ | exact kW2 | (first | refine stq ?_ | fail)))) <;> (try exact cl5)
    · by_cases h3 : k = 3
      · subst h3
        by_cases hn : n = 0
        · by_cases hs : s = ByteArray.empty
          · rw [dep_list] at hd
            by_cases he : ((l.map eV).length : Int) = 0
            · have hle : l = [] := by
                rw [List.length_map] at he
                exact List.length_eq_zero_iff.1 (by omega)
              subst hle
              have hf : frm (.mk 3 n s []) = true := by rw [frm_list, decide_eq_true hn, decide_eq_true hs]; rfl
              rw [fmR_yes hf, dep_list]
              refine PCalls.of (N := 74) (res := [.tmp 2, .tmp 3]) mixed Try.func85 rfl rfl rfl (by kernel_rfl) (by simp) [0, 1, 2, 3, 4, 6, 7, 8, 50, 53, 55, 56, 57, 58, 67] ?_
              repeat' (first | exact cl1 | exact kE | (refine stx ?_; refine exU8 ?_) | ((fail_if_success refine stp ?_); (conv => whnf) <;> (first | exact cl2 | refine ix_l rfl ?_ | refine kT ?_ | refine kF ?_ | refine kBy hn fun hc => ?_ | refine kBy hs fun hc => ?_ | refine kX ?_ | refine kP ?_ | refine kBd (fun hc => ?_) (fun hc => ?_) | refine kT ?_ | refine kF ?_ | refine kN ?_ | refine kBm (fun hc => ?_) (fun hc => ?_) | refine kO ?_ | refine kS ?_ | refine kA ?_ | refine kC ?_ ?_ | refine And.intro ?_ ?_ | refine ix_map (fun x hx => ?_) | refine exU8 ?_ | refine nilc (fun hn => ?_) ?_ | exact kW1 | refine imp0 (fun hpos => ?_) | refine kG ?_ ?_ | exact kW2 | (first | refine stq ?_ | fail)))) <;> (try exact cl5)
              refine Wpc.loopB (α := Unit) mixed [0, 1, 2, 3, 4, 6, 7, 8, 50, 53, 55, 56, 57, 58, 67] (fun _ => [(57, .p (eI 0))]) (fun _ => 0) () ?_ ?_
              · (first | refine Ent.ofA [] ?_ | refine Ent.ofC [] ?_) <;> (repeat' (first | exact kQ1 | refine kHd ?_ | refine kHm rfl (by simp) rfl (fun h => AObj.noConfusion h) ?_ ?_ | refine And.intro ?_ ?_ | refine kVp ?_ | refine kVa ?_ | refine kVt ?_ | refine kVf ?_ ?_ | refine kVc ?_ ?_ | exact kQ2 | refine VLe.rsle rfl ?_ ?_ ?_ | refine kQw ?_ ?_ | refine kQm ?_ ?_ | refine kQj ?_ ?_ | refine kQc ?_ ?_ | refine kQs ?_ ?_ ?_)) <;> try exact kZ
              intro _
              have hno : ¬ ((0 : Int) < ((([] : List Vl).map eV).length : Int)) := by simp
              repeat' (first | exact cl1 | exact kE | (refine stx ?_; refine exU8 ?_) | ((fail_if_success refine stp ?_); (conv => whnf) <;> (first | exact cl2 | refine kBn hno fun hc => ?_ | refine kX ?_ | refine kP ?_ | refine kBd (fun hc => ?_) (fun hc => ?_) | refine kT ?_ | refine kF ?_ | refine kN ?_ | refine kBm (fun hc => ?_) (fun hc => ?_) | refine kO ?_ | refine kS ?_ | refine kA ?_ | refine kC ?_ ?_ | refine And.intro ?_ ?_ | refine ix_map (fun x hx => ?_) | refine exU8 ?_ | refine nilc (fun hn => ?_) ?_ | exact kW1 | refine imp0 (fun hpos => ?_) | refine kG ?_ ?_ | exact kW2 | (first | refine stq ?_ | fail)))) <;> (try exact cl5)
              all_goals trace_state
            · refine PCalls.of (N := 74) (res := [.tmp 2, .tmp 3]) mixed Try.func85 rfl rfl rfl (by kernel_rfl) (by simp) [0, 1, 2, 3, 4, 6, 7, 8, 50, 53, 55, 56, 57, 58, 67] ?_
              repeat' (first | exact cl1 | exact kE | (refine stx ?_; refine exU8 ?_) | ((fail_if_success refine stp ?_); (conv => whnf) <;> (first | exact cl2 | refine ix_l rfl ?_ | refine kT ?_ | refine kF ?_ | refine kBy hn fun hc => ?_ | refine kBy hs fun hc => ?_ | refine kBn he fun hc => ?_ | refine kX ?_ | refine kP ?_ | refine kBd (fun hc => ?_) (fun hc => ?_) | refine kT ?_ | refine kF ?_ | refine kN ?_ | refine kBm (fun hc => ?_) (fun hc => ?_) | refine kO ?_ | refine kS ?_ | refine kA ?_ | refine kC ?_ ?_ | refine And.intro ?_ ?_ | refine ix_map (fun x hx => ?_) | refine exU8 ?_ | refine nilc (fun hn => ?_) ?_ | exact kW1 | refine imp0 (fun hpos => ?_) | refine kG ?_ ?_ | exact kW2 | (first | refine stq ?_ | fail)))) <;> (try exact cl5)
              refine Wpc.loopB (α := {i : Nat // i ≤ l.length ∧ (l.take i).all frm = true}) mixed [0, 1, 2, 3, 4, 6, 7, 8, 50, 53, 55, 56, 57, 58, 67] (fun i => [(2, .p (eI (deps (l.take i.1)))), (57, .p (eI i.1))]) (fun i => l.length - i.1) ⟨0, by omega, rfl⟩ ?_ ?_
              · (first | refine Ent.ofA [] ?_ | refine Ent.ofC [] ?_) <;> (repeat' (first | exact kQ1 | refine kHd ?_ | refine kHm rfl (by simp) rfl (fun h => AObj.noConfusion h) ?_ ?_ | refine And.intro ?_ ?_ | refine kVp ?_ | refine kVa ?_ | refine kVt ?_ | refine kVf ?_ ?_ | refine kVc ?_ ?_ | exact kQ2 | refine VLe.rsle rfl ?_ ?_ ?_ | refine kQw ?_ ?_ | refine kQm ?_ ?_ | refine kQj ?_ ?_ | refine kQc ?_ ?_ | refine kQs ?_ ?_ ?_)) <;> try exact kZ
              rintro ⟨i, hi, hq⟩
              have hi : i ≤ l.length := hi
              have hq : (l.take i).all frm = true := hq
              cases hxi : l[i]? with
              | none =>
                have hge : l.length ≤ i := List.getElem?_eq_none_iff.1 hxi
                have hno : ¬ ((i : Int) < ((l.map eV).length : Int)) := by rw [List.length_map]; omega
                have hdt : deps (l.take i) = deps l := by rw [List.take_of_length_le hge]
                rw [List.take_of_length_le hge] at hq
                have hf : frm (.mk 3 n s l) = true := by rw [frm_list, decide_eq_true hn, decide_eq_true hs, hq]; rfl
                rw [fmR_yes hf, dep_list]
                repeat' (first | exact cl1 | exact kE | (refine stx ?_; refine exU8 ?_) | ((fail_if_success refine stp ?_); (conv => whnf) <;> (first | exact cl2 | refine kBn hno fun hc => ?_ | refine kX ?_ | refine kP ?_ | refine kBd (fun hc => ?_) (fun hc => ?_) | refine kT ?_ | refine kF ?_ | refine kN ?_ | refine kBm (fun hc => ?_) (fun hc => ?_) | refine kO ?_ | refine kS ?_ | refine kA ?_ | refine kC ?_ ?_ | refine And.intro ?_ ?_ | refine ix_map (fun x hx => ?_) | refine exU8 ?_ | refine nilc (fun hn => ?_) ?_ | exact kW1 | refine imp0 (fun hpos => ?_) | refine kG ?_ ?_ | exact kW2 | (first | refine stq ?_ | fail)))) <;> (try exact cl5)
                refine LeG.of (congrArg (fun z => PV.tup [eI z, .bool true]) ?_)
                show ((deps (l.take i) : Nat) : Int) + 1 = ((deps l + 1 : Nat) : Int)
                rw [hdt]; omega
              | some x =>
                have hlt : i < l.length := (List.getElem?_eq_some_iff.1 hxi).1
                have hyes : ((i : Int) < ((l.map eV).length : Int)) := by rw [List.length_map]; omega
                have hxm := List.mem_of_getElem? hxi
                have hdx := dep_mem hxm
                have q1 := ih x hxm (lensL_mem hls hxm) (by omega)
                have hdt := deps_take hxi
                cases hf : frm x with
                | true =>
                  rw [fmR_yes hf] at q1
                  have hq2 : (l.take (i + 1)).all frm = true := by rw [List.take_add_one, hxi]; simp [hq, hf]
                  repeat' (first | exact cl1 | exact kE | (refine stx ?_; refine exU8 ?_) | ((with_reducible show callX _ _ _ _ _); (first | refine call_p (q1) (by kernel_rfl) rfl ?_)) | ((fail_if_success refine stp ?_); (conv => whnf) <;> (first | exact cl2 | refine kT ?_ | refine kF ?_ | refine kBy hyes fun hc => ?_ | refine ix_v hxi ?_ | refine kX ?_ | refine kP ?_ | refine kBd (fun hc => ?_) (fun hc => ?_) | refine kT ?_ | refine kF ?_ | refine kN ?_ | refine kBm (fun hc => ?_) (fun hc => ?_) | refine kO ?_ | refine kS ?_ | refine kA ?_ | refine kC ?_ ?_ | refine And.intro ?_ ?_ | refine ix_map (fun x hx => ?_) | refine exU8 ?_ | refine nilc (fun hn => ?_) ?_ | exact kW1 | refine imp0 (fun hpos => ?_) | refine kG ?_ ?_ | exact kW2 | (first | refine stq ?_ | fail)))) <;> (try exact cl5)
                  refine ⟨⟨i + 1, hlt, hq2⟩, by show l.length - (i + 1) < l.length - i; omega, ?_⟩
                  (first | refine Ent.ofA [] ?_ | refine Ent.ofC [] ?_) <;> (repeat' (first | exact kQ1 | refine kHd ?_ | refine kHm rfl (by simp) rfl (fun h => AObj.noConfusion h) ?_ ?_ | refine And.intro ?_ ?_ | refine kVp ?_ | refine kVa ?_ | refine kVt ?_ | refine kVf ?_ ?_ | refine kVc ?_ ?_ | exact kQ2 | refine VLe.rsle rfl ?_ ?_ ?_ | refine kQw ?_ ?_ | refine kQm ?_ ?_ | refine kQj ?_ ?_ | refine kQc ?_ ?_ | refine kQs ?_ ?_ ?_)) <;> try exact kZ
                  all_goals (refine congrArg eI ?_)
                  all_goals (show _ = ((deps (l.take (i + 1)) : Nat) : Int))
                  all_goals (rw [hdt])
                  all_goals trace_state
                | false =>
                  rw [fmR_no hf] at q1
                  have hq2 : l.all frm = false := by
                    rw [List.all_eq_false]; exact ⟨x, hxm, by rw [hf]; simp⟩
                  have hf2 : frm (.mk 3 n s l) = false := by rw [frm_list, hq2]; simp
                  rw [fmR_no hf2]
                  repeat' (first | exact cl1 | exact kE | (refine stx ?_; refine exU8 ?_) | ((with_reducible show callX _ _ _ _ _); (first | refine call_p (q1) (by kernel_rfl) rfl ?_)) | ((fail_if_success refine stp ?_); (conv => whnf) <;> (first | exact cl2 | refine kT ?_ | refine kF ?_ | refine kBy hyes fun hc => ?_ | refine ix_v hxi ?_ | refine kX ?_ | refine kP ?_ | refine kBd (fun hc => ?_) (fun hc => ?_) | refine kT ?_ | refine kF ?_ | refine kN ?_ | refine kBm (fun hc => ?_) (fun hc => ?_) | refine kO ?_ | refine kS ?_ | refine kA ?_ | refine kC ?_ ?_ | refine And.intro ?_ ?_ | refine ix_map (fun x hx => ?_) | refine exU8 ?_ | refine nilc (fun hn => ?_) ?_ | exact kW1 | refine imp0 (fun hpos => ?_) | refine kG ?_ ?_ | exact kW2 | (first | refine stq ?_ | fail)))) <;> (try exact cl5)
          · have hf : frm (.mk 3 n s l) = false := by rw [frm_list, decide_eq_false hs]; simp
            rw [fmR_no hf]
            refine PCalls.of (N := 74) (res := [.tmp 2, .tmp 3]) mixed Try.func85 rfl rfl rfl (by kernel_rfl) (by simp) [0, 1, 2, 3, 4, 6, 7, 8, 50, 53, 55, 56, 57, 58, 67] ?_
            repeat' (first | exact cl1 | exact kE | (refine stx ?_; refine exU8 ?_) | ((fail_if_success refine stp ?_); (conv => whnf) <;> (first | exact cl2 | refine ix_l rfl ?_ | refine kT ?_ | refine kF ?_ | refine kBy hn fun hc => ?_ | refine kBn hs fun hc => ?_ | refine kX ?_ | refine kP ?_ | refine kBd (fun hc => ?_) (fun hc => ?_) | refine kT ?_ | refine kF ?_ | refine kN ?_ | refine kBm (fun hc => ?_) (fun hc => ?_) | refine kO ?_ | refine kS ?_ | refine kA ?_ | refine kC ?_ ?_ | refine And.intro ?_ ?_ | refine ix_map (fun x hx => ?_) | refine exU8 ?_ | refine nilc (fun hn => ?_) ?_ | exact kW1 | refine imp0 (fun hpos => ?_) | refine kG ?_ ?_ | exact kW2 | (first | refine stq ?_ | fail)))) <;> (try exact cl5)
        · have hf : frm (.mk 3 n s l) = false := by rw [frm_list, decide_eq_false hn]; rfl
          rw [fmR_no hf]
          refine PCalls.of (N := 74) (res := [.tmp 2, .tmp 3]) mixed Try.func85 rfl rfl rfl (by kernel_rfl) (by simp) [0, 1, 2, 3, 4, 6, 7, 8, 50, 53, 55, 56, 57, 58, 67] ?_
          repeat' (first | exact cl1 | exact kE | (refine stx ?_; refine exU8 ?_) | ((fail_if_success refine stp ?_); (conv => whnf) <;> (first | exact cl2 | refine ix_l rfl ?_ | refine kT ?_ | refine kF ?_ | refine kBn hn fun hc => ?_ | refine kX ?_ | refine kP ?_ | refine kBd (fun hc => ?_) (fun hc => ?_) | refine kT ?_ | refine kF ?_ | refine kN ?_ | refine kBm (fun hc => ?_) (fun hc => ?_) | refine kO ?_ | refine kS ?_ | refine kA ?_ | refine kC ?_ ?_ | refine And.intro ?_ ?_ | refine ix_map (fun x hx => ?_) | refine exU8 ?_ | refine nilc (fun hn => ?_) ?_ | exact kW1 | refine imp0 (fun hpos => ?_) | refine kG ?_ ?_ | exact kW2 | (first | refine stq ?_ | fail)))) <;> (try exact cl5)
      · rw [fmR_no (frm_other h1 h2 h3)]
        by_cases hk1 : k < 1
        · refine PCalls.of (N := 74) (res := [.tmp 2, .tmp 3]) mixed Try.func85 rfl rfl rfl (by kernel_rfl) (by simp) [0, 1, 2, 3, 4, 6, 7, 8, 50, 53, 55, 56, 57, 58, 67] ?_
          repeat' (first | exact cl1 | exact kE | (refine stx ?_; refine exU8 ?_) | ((fail_if_success refine stp ?_); (conv => whnf) <;> (first | exact cl2 | refine ix_l rfl ?_ | refine kT ?_ | refine kF ?_ | refine kBy hk1 fun hc => ?_ | refine kX ?_ | refine kP ?_ | refine kBd (fun hc => ?_) (fun hc => ?_) | refine kT ?_ | refine kF ?_ | refine kN ?_ | refine kBm (fun hc => ?_) (fun hc => ?_) | refine kO ?_ | refine kS ?_ | refine kA ?_ | refine kC ?_ ?_ | refine And.intro ?_ ?_ | refine ix_map (fun x hx => ?_) | refine exU8 ?_ | refine nilc (fun hn => ?_) ?_ | exact kW1 | refine imp0 (fun hpos => ?_) | refine kG ?_ ?_ | exact kW2 | (first | refine stq ?_ | fail)))) <;> (try exact cl5)
        · have hk2 : k > 3 := by omega
          refine PCalls.of (N := 74) (res := [.tmp 2, .tmp 3]) mixed Try.func85 rfl rfl rfl (by kernel_rfl) (by simp) [0, 1, 2, 3, 4, 6, 7, 8, 50, 53, 55, 56, 57, 58, 67] ?_
          repeat' (first | exact cl1 | exact kE | (refine stx ?_; refine exU8 ?_) | ((fail_if_success refine stp ?_); (conv => whnf) <;> (first | exact cl2 | refine ix_l rfl ?_ | refine kT ?_ | refine kF ?_ | refine kBn hk1 fun hc => ?_ | refine kBy hk2 fun hc => ?_ | refine kX ?_ | refine kP ?_ | refine kBd (fun hc => ?_) (fun hc => ?_) | refine kT ?_ | refine kF ?_ | refine kN ?_ | refine kBm (fun hc => ?_) (fun hc => ?_) | refine kO ?_ | refine kS ?_ | refine kA ?_ | refine kC ?_ ?_ | refine And.intro ?_ ?_ | refine ix_map (fun x hx => ?_) | refine exU8 ?_ | refine nilc (fun hn => ?_) ?_ | exact kW1 | refine imp0 (fun hpos => ?_) | refine kG ?_ ?_ | exact kW2 | (first | refine stq ?_ | fail)))) <;> (try exact cl5)
end Go.Proofs.Ytgclicahmbgfiaa.Cd

namespace Go.Proofs.Ytgclicahmbgfiaa.Cd
open Go Go.Sg
theorem ix_at {α : Type} {f : α → PV} {l : List α} {n : Nat} {x : α} {K : PV → Prop} (hx : l[n]? = some x) (k : K (f x)) : ∀ p, (l.map f)[n]? = some p → K p := fun p hp => by
  rw [List.getElem?_map, hx] at hp; injection hp with hp; subst hp; exact k
def eB (b : List Int) : PV := .sl 1 false (b.map (.int .u8))
def eU (u : Nat) : PV := .int .u64 (u : Int)
def zz (n : Int) : Nat := if 0 ≤ n then (2 * n).toNat else (-2 * n - 1).toNat
def I64 (n : Int) : Prop := -9223372036854775808 ≤ n ∧ n ≤ 9223372036854775807
theorem zz_lt {n : Int} (h : I64 n) : zz n < 18446744073709551616 := by unfold I64 at h; unfold zz; split <;> omega
theorem fdiv63 {n : Int} (h1 : -9223372036854775808 ≤ n) (h2 : n ≤ 9223372036854775807) : n.fdiv (2 ^ 63) = if 0 ≤ n then 0 else -1 := by
  rw [Int.fdiv_eq_ediv_of_nonneg _ (by omega)]
  split <;> omega
theorem zz_bits {n : Int} (h1 : -9223372036854775808 ≤ n) (h2 : n ≤ 9223372036854775807) : bitsI .xor .u64 (IntKind.u64.wrap (IntKind.u64.wrap n * 2 ^ 1)) (IntKind.u64.wrap (n.fdiv (2 ^ 63))) = ((zz n : Nat) : Int) := by
  rw [fdiv63 h1 h2]
  by_cases hn : 0 ≤ n
  · rw [if_pos hn]
    have e1 : IntKind.u64.wrap (IntKind.u64.wrap n * 2 ^ 1) = (((2 * n).toNat : Nat) : Int) := by rw [wrap_u64, wrap_u64]; omega
    have e2 : IntKind.u64.wrap 0 = ((0 : Nat) : Int) := by decide
    rw [e1, e2, bits_xor rfl (by show _ < 18446744073709551616; omega) (by decide), Nat.xor_zero]
    unfold zz; rw [if_pos hn]
  · rw [if_neg hn]
    have e1 : IntKind.u64.wrap (IntKind.u64.wrap n * 2 ^ 1) = (((2 * n + 18446744073709551616).toNat : Nat) : Int) := by rw [wrap_u64, wrap_u64]; omega
    have e2 : IntKind.u64.wrap (-1) = ((2 ^ 64 - 1 : Nat) : Int) := by decide
    rw [e1, e2, bits_xor rfl (by show _ < 18446744073709551616; omega) (by decide), xor_ones (by show _ < 18446744073709551616; omega)]
    unfold zz; rw [if_neg hn]; omega
theorem unsigned_calls (n : Int) (h : I64 n) : PCalls Try.prog 88 [eI n] (eU (zz n)) := by
  obtain ⟨h1, h2⟩ := h
  refine PCalls.of (N := 10) (res := [.tmp 2]) mixed Try.func88 rfl rfl rfl (by kernel_rfl) (by simp) [0, 2] ?_
  repeat' (first | exact cl1 | exact kE | (refine stx ?_; refine exU8 ?_) | ((fail_if_success refine stp ?_); (conv => whnf) <;> (first | exact cl2 | refine kX ?_ | refine kP ?_ | refine kBd (fun hc => ?_) (fun hc => ?_) | refine kT ?_ | refine kF ?_ | refine kN ?_ | refine kBm (fun hc => ?_) (fun hc => ?_) | refine kO ?_ | refine kS ?_ | refine kA ?_ | refine kC ?_ ?_ | refine And.intro ?_ ?_ | refine ix_map (fun x hx => ?_) | refine exU8 ?_ | refine nilc (fun hn => ?_) ?_ | exact kW1 | refine imp0 (fun hpos => ?_) | refine kG ?_ ?_ | exact kW2 | (first | refine stq ?_ | fail)))) <;> (try exact cl5)
  exact LeG.of (congrArg (PV.int .u64) (zz_bits h1 h2))
end Go.Proofs.Ytgclicahmbgfiaa.Cd

namespace Go.Proofs.Ytgclicahmbgfiaa.Cd
open Go Go.Sg
def eR (b : List Int) : PV := .sl 1 false (b.map (.int .u8))
end Go.Proofs.Ytgclicahmbgfiaa.Cd

namespace Go.Proofs.Ytgclicahmbgfiaa.Cd
open Go Go.Sg
def B8 (b : List Int) : Prop := ∀ c ∈ b, 0 ≤ c ∧ c ≤ 255
end Go.Proofs.Ytgclicahmbgfiaa.Cd

namespace Go.Proofs.Ytgclicahmbgfiaa.Cd
open Go Go.Sg
end Go.Proofs.Ytgclicahmbgfiaa.Cd

namespace Go.Proofs.Ytgclicahmbgfiaa.Cd
open Go Go.Sg
end Go.Proofs.Ytgclicahmbgfiaa.Cd

namespace Go.Proofs.Ytgclicahmbgfiaa.Cd
open Go Go.Sg
end Go.Proofs.Ytgclicahmbgfiaa.Cd

namespace Go.Proofs.Ytgclicahmbgfiaa.Cd
open Go Go.Sg
end Go.Proofs.Ytgclicahmbgfiaa.Cd

namespace Go.Proofs.Ytgclicahmbgfiaa.Cd
open Go Go.Sg
theorem VLe.val {σ : Heap} {Z : Nat → Prop} {ρ : Nat → Option Nat} {o len : Nat} {l : List PV} {k n s : PV} (ho : Z o) (hc : σ.get o = .row 4 l) (hl : l.length = len) : VLe σ Z ρ (.agg [.p k, .p n, .p s, .rsl o 4 0 len]) (.p (.agg [k, n, s, .sl 4 false l])) := by
  have h := Frz.rsl (i := 0) (len := len) ho hc (by decide) (by omega)
  rw [List.drop_zero, List.take_of_length_le (by omega)] at h
  exact VLe.frz (Frz.agg (FrzL.cons (Frz.refl _) (FrzL.cons (Frz.refl _) (FrzL.cons (Frz.refl _) (FrzL.cons h FrzL.nil)))))
end Go.Proofs.Ytgclicahmbgfiaa.Cd

namespace Go.Proofs.Ytgclicahmbgfiaa.Cd
open Go Go.Sg
end Go.Proofs.Ytgclicahmbgfiaa.Cd

namespace Go.Proofs.Ytgclicahmbgfiaa.Cd
open Go Go.Sg
/-- Small enough for counting. -/
def Sm (v : Vl) : Prop := lens 5000 v ∧ dep v ≤ 1000000
def chkV (v : Vl) : Int := if frm v then (if dep v > 16 then 2 else 0) else 1
theorem check_calls (v : Vl) (h : Sm v) : PCalls Try.prog 68 [eW v] (eI (chkV v)) := by
  have q1 := formed_calls v h.1 h.2
  unfold chkV
  unfold fmR at q1
  cases hf : frm v with
  | false =>
    rw [hf] at q1
    refine PCalls.of (N := 16) (res := [.tmp 2]) mixed Try.func68 rfl rfl rfl (by kernel_rfl) (by simp) [0, 1, 2, 3, 4, 10, 13] ?_
    repeat' (first | exact cl1 | exact kE | (refine stx ?_; refine exU8 ?_) | ((with_reducible show callX _ _ _ _ _); (first | refine call_p (q1) (by kernel_rfl) rfl ?_)) | ((fail_if_success refine stp ?_); (conv => whnf) <;> (first | exact cl2 | refine kX ?_ | refine kP ?_ | refine kBd (fun hc => ?_) (fun hc => ?_) | refine kT ?_ | refine kF ?_ | refine kN ?_ | refine kBm (fun hc => ?_) (fun hc => ?_) | refine kO ?_ | refine kS ?_ | refine kA ?_ | refine kC ?_ ?_ | refine And.intro ?_ ?_ | refine ix_map (fun x hx => ?_) | refine exU8 ?_ | refine nilc (fun hn => ?_) ?_ | exact kW1 | refine imp0 (fun hpos => ?_) | refine kG ?_ ?_ | exact kW2 | (first | refine stq ?_ | fail)))) <;> (try exact cl5)
  | true =>
    rw [hf] at q1
    simp only [if_true]
    by_cases hd : dep v > 16
    · rw [if_pos hd]
      have hd' : (16 : Int) < (dep v : Int) := by omega
      refine PCalls.of (N := 16) (res := [.tmp 2]) mixed Try.func68 rfl rfl rfl (by kernel_rfl) (by simp) [0, 1, 2, 3, 4, 10, 13] ?_
      repeat' (first | exact cl1 | exact kE | (refine stx ?_; refine exU8 ?_) | ((with_reducible show callX _ _ _ _ _); (first | refine call_p (q1) (by kernel_rfl) rfl ?_)) | ((fail_if_success refine stp ?_); (conv => whnf) <;> (first | exact cl2 | refine kBd (fun hc => ?_) (fun hc => absurd hd' hc) | refine kX ?_ | refine kP ?_ | refine kBd (fun hc => ?_) (fun hc => ?_) | refine kT ?_ | refine kF ?_ | refine kN ?_ | refine kBm (fun hc => ?_) (fun hc => ?_) | refine kO ?_ | refine kS ?_ | refine kA ?_ | refine kC ?_ ?_ | refine And.intro ?_ ?_ | refine ix_map (fun x hx => ?_) | refine exU8 ?_ | refine nilc (fun hn => ?_) ?_ | exact kW1 | refine imp0 (fun hpos => ?_) | refine kG ?_ ?_ | exact kW2 | (first | refine stq ?_ | fail)))) <;> (try exact cl5)
    · rw [if_neg hd]
      have hd' : ¬ (16 : Int) < (dep v : Int) := by omega
      refine PCalls.of (N := 16) (res := [.tmp 2]) mixed Try.func68 rfl rfl rfl (by kernel_rfl) (by simp) [0, 1, 2, 3, 4, 10, 13] ?_
      repeat' (first | exact cl1 | exact kE | (refine stx ?_; refine exU8 ?_) | ((with_reducible show callX _ _ _ _ _); (first | refine call_p (q1) (by kernel_rfl) rfl ?_)) | ((fail_if_success refine stp ?_); (conv => whnf) <;> (first | exact cl2 | refine kBd (fun hc => absurd hc hd') (fun hc => ?_) | refine kX ?_ | refine kP ?_ | refine kBd (fun hc => ?_) (fun hc => ?_) | refine kT ?_ | refine kF ?_ | refine kN ?_ | refine kBm (fun hc => ?_) (fun hc => ?_) | refine kO ?_ | refine kS ?_ | refine kA ?_ | refine kC ?_ ?_ | refine And.intro ?_ ?_ | refine ix_map (fun x hx => ?_) | refine exU8 ?_ | refine nilc (fun hn => ?_) ?_ | exact kW1 | refine imp0 (fun hpos => ?_) | refine kG ?_ ?_ | exact kW2 | (first | refine stq ?_ | fail)))) <;> (try exact cl5)
theorem rcheck_calls (v : Vl) (h : Sm v) : PCalls Try.prog 70 [eW v] (eI (chkV v)) := by
  have q1 := Formed_calls v h.1
  have q2 := Depth_calls v h.1 h.2
  unfold chkV
  cases hf : frm v with
  | false =>
    rw [hf] at q1
    refine PCalls.of (N := 9) (res := [.tmp 2]) mixed Try.func70 rfl rfl rfl (by kernel_rfl) (by simp) [0, 1, 2, 5, 8] ?_
    repeat' (first | exact cl1 | exact kE | (refine stx ?_; refine exU8 ?_) | ((with_reducible show callX _ _ _ _ _); (first | refine call_p (q1) (by kernel_rfl) rfl ?_)) | ((fail_if_success refine stp ?_); (conv => whnf) <;> (first | exact cl2 | refine kX ?_ | refine kP ?_ | refine kBd (fun hc => ?_) (fun hc => ?_) | refine kT ?_ | refine kF ?_ | refine kN ?_ | refine kBm (fun hc => ?_) (fun hc => ?_) | refine kO ?_ | refine kS ?_ | refine kA ?_ | refine kC ?_ ?_ | refine And.intro ?_ ?_ | refine ix_map (fun x hx => ?_) | refine exU8 ?_ | refine nilc (fun hn => ?_) ?_ | exact kW1 | refine imp0 (fun hpos => ?_) | refine kG ?_ ?_ | exact kW2 | (first | refine stq ?_ | fail)))) <;> (try exact cl5)
  | true =>
    rw [hf] at q1
    simp only [if_true]
    by_cases hd : dep v > 16
    · rw [if_pos hd]
      have hd' : (16 : Int) < (dep v : Int) := by omega
      refine PCalls.of (N := 9) (res := [.tmp 2]) mixed Try.func70 rfl rfl rfl (by kernel_rfl) (by simp) [0, 1, 2, 5, 8] ?_
      repeat' (first | exact cl1 | exact kE | (refine stx ?_; refine exU8 ?_) | ((with_reducible show callX _ _ _ _ _); (first | refine call_p (q1) (by kernel_rfl) rfl ?_ | refine call_p (q2) (by kernel_rfl) rfl ?_)) | ((fail_if_success refine stp ?_); (conv => whnf) <;> (first | exact cl2 | refine kBd (fun hc => ?_) (fun hc => absurd hd' hc) | refine kX ?_ | refine kP ?_ | refine kBd (fun hc => ?_) (fun hc => ?_) | refine kT ?_ | refine kF ?_ | refine kN ?_ | refine kBm (fun hc => ?_) (fun hc => ?_) | refine kO ?_ | refine kS ?_ | refine kA ?_ | refine kC ?_ ?_ | refine And.intro ?_ ?_ | refine ix_map (fun x hx => ?_) | refine exU8 ?_ | refine nilc (fun hn => ?_) ?_ | exact kW1 | refine imp0 (fun hpos => ?_) | refine kG ?_ ?_ | exact kW2 | (first | refine stq ?_ | fail)))) <;> (try exact cl5)
    · rw [if_neg hd]
      have hd' : ¬ (16 : Int) < (dep v : Int) := by omega
      refine PCalls.of (N := 9) (res := [.tmp 2]) mixed Try.func70 rfl rfl rfl (by kernel_rfl) (by simp) [0, 1, 2, 5, 8] ?_
      repeat' (first | exact cl1 | exact kE | (refine stx ?_; refine exU8 ?_) | ((with_reducible show callX _ _ _ _ _); (first | refine call_p (q1) (by kernel_rfl) rfl ?_ | refine call_p (q2) (by kernel_rfl) rfl ?_)) | ((fail_if_success refine stp ?_); (conv => whnf) <;> (first | exact cl2 | refine kBd (fun hc => absurd hc hd') (fun hc => ?_) | refine kX ?_ | refine kP ?_ | refine kBd (fun hc => ?_) (fun hc => ?_) | refine kT ?_ | refine kF ?_ | refine kN ?_ | refine kBm (fun hc => ?_) (fun hc => ?_) | refine kO ?_ | refine kS ?_ | refine kA ?_ | refine kC ?_ ?_ | refine And.intro ?_ ?_ | refine ix_map (fun x hx => ?_) | refine exU8 ?_ | refine nilc (fun hn => ?_) ?_ | exact kW1 | refine imp0 (fun hpos => ?_) | refine kG ?_ ?_ | exact kW2 | (first | refine stq ?_ | fail)))) <;> (try exact cl5)
def bytes (s : ByteArray) : List Int := s.data.toList.map fun u => (u.toNat : Int)
def nml (u : Nat) : List Int := if h : u < 128 then [(u : Int)] else ((u % 128 + 128 : Nat) : Int) :: nml (u / 128)
termination_by u
decreasing_by omega
theorem nml_lt {u : Nat} (h : u < 128) : nml u = [(u : Int)] := by rw [nml, dif_pos h]
theorem nml_ge {u : Nat} (h : ¬ u < 128) : nml u = ((u % 128 + 128 : Nat) : Int) :: nml (u / 128) := by rw [nml, dif_neg h]
theorem nml_len (i : Nat) : ∀ u, u < 2 ^ (7 * i) → (nml u).length ≤ max i 1 := by
  induction i with
  | zero => intro u hu; have : u = 0 := by simpa using hu
            subst this; rw [nml_lt (by decide)]; simp
  | succ i ih =>
    intro u hu
    by_cases h : u < 128
    · rw [nml_lt h]; simp
    · rw [nml_ge h]
      have h2 : u / 128 < 2 ^ (7 * i) := by
        have : 2 ^ (7 * (i + 1)) = 128 * 2 ^ (7 * i) := by rw [show 7 * (i + 1) = 7 * i + 7 by omega, Nat.pow_add]; omega
        rw [this] at hu
        exact Nat.div_lt_of_lt_mul hu
      have h3 := ih _ h2
      have hi : 0 < i := by
        rcases Nat.eq_zero_or_pos i with e | e
        · subst e; simp at h2; omega
        · exact e
      simp; omega
theorem nml_len64 {u : Nat} (h : u < 18446744073709551616) : (nml u).length ≤ 10 := by
  have := nml_len 10 u (Nat.lt_of_lt_of_le h (by decide)); omega
mutual
def enc : Vl → List Int
  | .mk k n s l => if k = 1 then 1 :: nml (zz n) else if k = 2 then 2 :: (nml s.size ++ bytes s) else 3 :: (nml l.length ++ encs l)
def encs : List Vl → List Int
  | [] => []
  | x :: r => enc x ++ encs r
end
theorem encs_flat : ∀ l, encs l = l.flatMap enc
  | [] => rfl
  | x :: r => by rw [encs, encs_flat r]; rfl
end Go.Proofs.Ytgclicahmbgfiaa.Cd

namespace Go.Proofs.Ytgclicahmbgfiaa.Cd
open Go Go.Sg
mutual
def nums : Vl → Prop
  | .mk _ n _ l => I64 n ∧ numsL l
def numsL : List Vl → Prop
  | [] => True
  | x :: r => nums x ∧ numsL r
end
theorem numsL_mem {x : Vl} : ∀ {l : List Vl}, numsL l → x ∈ l → nums x
  | y :: r, h, hx => by
    rcases List.mem_cons.1 hx with e | e
    · subst e; exact h.1
    · exact numsL_mem h.2 e
theorem numsL_of {l : List Vl} (h : ∀ x ∈ l, nums x) : numsL l := by
  induction l with
  | nil => trivial
  | cons a r ih => exact ⟨h a (by simp), ih fun x hx => h x (by simp [hx])⟩
theorem bytes_len (s : ByteArray) : (bytes s).length = s.size := by simp [bytes]
theorem enc_int {n : Int} {s : ByteArray} {l : List Vl} : enc (.mk 1 n s l) = 1 :: nml (zz n) := by rw [enc, if_pos rfl]
theorem enc_text {n : Int} {s : ByteArray} {l : List Vl} : enc (.mk 2 n s l) = 2 :: (nml s.size ++ bytes s) := by rw [enc, if_neg (by decide), if_pos rfl]
theorem enc_list {n : Int} {s : ByteArray} {l : List Vl} : enc (.mk 3 n s l) = 3 :: (nml l.length ++ encs l) := by rw [enc, if_neg (by decide), if_neg (by decide)]
theorem encs_take {l : List Vl} {i : Nat} {x : Vl} (h : l[i]? = some x) : encs (l.take (i + 1)) = encs (l.take i) ++ enc x := by
  rw [encs_flat, encs_flat, List.take_add_one, h]; simp
theorem encs_le {l : List Vl} {i : Nat} : (encs (l.take i)).length ≤ (encs l).length := by
  conv => rhs; rw [← List.take_append_drop i l]
  rw [encs_flat, encs_flat, List.flatMap_append, List.length_append]; omega
theorem u64len {n : Nat} (h : n ≤ 100000000) : IntKind.u64.wrap (n : Int) = (n : Int) := by rw [wrap_u64]; omega
end Go.Proofs.Ytgclicahmbgfiaa.Cd

namespace Go.Proofs.Ytgclicahmbgfiaa.Cd
open Go Go.Sg
def nmV (b : List Int) : List Int → AV
  | [] => .rsl 0 1 0 b.length
  | a :: r => .rsl 2 1 0 (b ++ a :: r).length
def nmH (b : List Int) : List Int → Heap
  | [] => [(0, .row 1 (b.map (.int .u8)))]
  | a :: r => [(0, .dead), (2, .row 1 ((b ++ a :: r).map (.int .u8)))]
theorem or128 {u : Nat} : bitsI .or .u8 (IntKind.u8.wrap (u : Int)) 128 = ((u % 128 + 128 : Nat) : Int) := by
  have e : IntKind.u8.wrap (u : Int) = ((u % 256 : Nat) : Int) := by rw [wrap_u8]; omega
  rw [e, show (128 : Int) = ((128 : Nat) : Int) from rfl, bits_or rfl (by show _ < 256; omega) (by decide)]
  congr 1
  have h2 : u % 256 = u % 128 + (u / 128 % 2) * 2 ^ 7 := by omega
  have h1 : u % 128 ||| (u / 128 % 2) * 2 ^ 7 = u % 128 + (u / 128 % 2) * 2 ^ 7 := or_shift (by omega)
  rw [h2, ← h1, Nat.or_assoc]
  have h3 : (u / 128 % 2) * 2 ^ 7 ||| 128 = 1 * 2 ^ 7 := by
    rcases Nat.mod_two_eq_zero_or_one (u / 128) with e | e <;> rw [e] <;> decide
  rw [h3, or_shift (by omega)]
theorem numeral_calls (b : List Int) (hb : b.length ≤ 100000000) (u0 : Nat) (h0 : u0 < 18446744073709551616) :
    ICalls Try.prog 87 1 [(0, .row 1 (b.map (.int .u8)))] [.rsl 0 1 0 b.length, .p (eU u0)] (.rsl 1 1 0 (b ++ nml u0).length) [(0, .dead), (1, .row 1 ((b ++ nml u0).map (.int .u8)))] := by
  have h10 := nml_len64 h0
  refine ICalls.of (N := 20) (res := [.tmp 4]) mixed Try.func87 rfl rfl rfl (by kernel_rfl) (by simp) [0, 1, 4, 6] (Nat.le_refl _) ?_
  repeat' (first | exact cl1 | exact kE | (refine stx ?_; refine exU8 ?_) | ((fail_if_success refine stp ?_); (conv => whnf) <;> (first | exact cl2 | refine kX ?_ | refine kP ?_ | refine kBd (fun hc => ?_) (fun hc => ?_) | refine kT ?_ | refine kF ?_ | refine kN ?_ | refine kBm (fun hc => ?_) (fun hc => ?_) | refine kO ?_ | refine kS ?_ | refine kA ?_ | refine kC ?_ ?_ | refine And.intro ?_ ?_ | refine ix_map (fun x hx => ?_) | refine exU8 ?_ | refine nilc (fun hn => ?_) ?_ | exact kW1 | refine imp0 (fun hpos => ?_) | refine kG ?_ ?_ | exact kW2 | (first | refine stq ?_ | fail)))) <;> (try exact cl5)
  refine Wpc.loopA (α := {s : List Int × Nat // s.2 < 18446744073709551616 ∧ s.1 ++ nml s.2 = nml u0}) mixed [0, 1, 4, 6] (fun s => [(0, nmV b s.1.1), (1, .p (eU s.1.2))]) (fun s => nmH b s.1.1) (fun _ => 0) (fun s => s.1.2) ⟨([], u0), h0, rfl⟩ ?_ ?_
  · (refine Ent.ofAK [] ?_) <;> (repeat' (first | exact kQ1 | refine kHd ?_ | refine kHm rfl (by simp) rfl (fun h => AObj.noConfusion h) ?_ ?_ | refine And.intro ?_ ?_ | refine kVp ?_ | refine kVa ?_ | refine kVt ?_ | refine kVf ?_ ?_ | refine kVc ?_ ?_ | exact kQ2 | refine VLe.rsle rfl ?_ ?_ ?_ | refine kQw ?_ ?_ | refine kQm ?_ ?_ | refine kQj ?_ ?_ | refine kQc ?_ ?_ | refine kQs ?_ ?_ ?_)) <;> try exact kZ
  rintro ⟨⟨acc, u⟩, hu, hq⟩
  have hu : u < 18446744073709551616 := hu
  have hq : acc ++ nml u = nml u0 := hq
  have hl : acc.length ≤ 10 := by rw [← hq] at h10; simp at h10; omega
  have hbl : (b ++ acc).length + 1 ≤ 1000000000 := by simp; omega
  have e1 : (u : Int).fdiv (2 ^ 7) = ((u / 128 : Nat) : Int) := by
    rw [Int.fdiv_eq_ediv_of_nonneg _ (by omega)]; omega
  by_cases h : u < 128
  · have hno : ¬ ((u : Int) ≥ 128) := by omega
    rw [nml_lt h] at hq
    have e2 : IntKind.u8.wrap (u : Int) = (u : Int) := by rw [wrap_u8]; omega
    cases acc with
    | nil =>
      repeat' (first | exact cl1 | exact kE | (refine stx ?_; refine exU8 ?_) | ((fail_if_success refine stp ?_); (conv => whnf) <;> (first | exact cl2 | refine kBn hno fun hc => ?_ | refine kX ?_ | refine kP ?_ | refine kBd (fun hc => ?_) (fun hc => ?_) | refine kT ?_ | refine kF ?_ | refine kN ?_ | refine kBm (fun hc => ?_) (fun hc => ?_) | refine kO ?_ | refine kS ?_ | refine kA ?_ | refine kC ?_ ?_ | refine And.intro ?_ ?_ | refine ix_map (fun x hx => ?_) | refine exU8 ?_ | refine nilc (fun hn => ?_) ?_ | exact kW1 | refine imp0 (fun hpos => ?_) | refine kG ?_ ?_ | exact kW2 | (first | refine stq ?_ | fail)))) <;> (try exact cl5)
      refine ⟨[], [(0, 0), (1, 449)], ?_, ?_, by decide, by simp, fun i hi => by match i, hi with | 0, _ => rfl⟩ <;> (repeat' (first | exact kQ1 | refine kHd ?_ | refine kHm rfl (by simp) rfl (fun h => AObj.noConfusion h) ?_ ?_ | refine And.intro ?_ ?_ | refine kVp ?_ | refine kVa ?_ | refine kVt ?_ | refine kVf ?_ ?_ | refine kVc ?_ ?_ | exact kQ2 | refine VLe.rsle rfl ?_ ?_ ?_ | refine kQw ?_ ?_ | refine kQm ?_ ?_ | refine kQj ?_ ?_ | refine kQc ?_ ?_ | refine kQs ?_ ?_ ?_))
      all_goals first
      | (show _ = (b ++ nml u0).length; rw [← hq]; simp <;> omega)
      | (show (b.map (PV.int .u8)) ++ List.take 1 (List.drop 0 [PV.int .u8 (IntKind.u8.wrap (u : Int))]) = (b ++ nml u0).map (PV.int .u8); rw [← hq, e2]; simp)
    | cons a acc =>
      repeat' (first | exact cl1 | exact kE | (refine stx ?_; refine exU8 ?_) | ((fail_if_success refine stp ?_); (conv => whnf) <;> (first | exact cl2 | refine kBn hno fun hc => ?_ | refine kX ?_ | refine kP ?_ | refine kBd (fun hc => ?_) (fun hc => ?_) | refine kT ?_ | refine kF ?_ | refine kN ?_ | refine kBm (fun hc => ?_) (fun hc => ?_) | refine kO ?_ | refine kS ?_ | refine kA ?_ | refine kC ?_ ?_ | refine And.intro ?_ ?_ | refine ix_map (fun x hx => ?_) | refine exU8 ?_ | refine nilc (fun hn => ?_) ?_ | exact kW1 | refine imp0 (fun hpos => ?_) | refine kG ?_ ?_ | exact kW2 | (first | refine stq ?_ | fail)))) <;> (try exact cl5)
      refine ⟨[], [(0, 0), (1, 449)], ?_, ?_, by decide, by simp, fun i hi => by match i, hi with | 0, _ => rfl⟩ <;> (repeat' (first | exact kQ1 | refine kHd ?_ | refine kHm rfl (by simp) rfl (fun h => AObj.noConfusion h) ?_ ?_ | refine And.intro ?_ ?_ | refine kVp ?_ | refine kVa ?_ | refine kVt ?_ | refine kVf ?_ ?_ | refine kVc ?_ ?_ | exact kQ2 | refine VLe.rsle rfl ?_ ?_ ?_ | refine kQw ?_ ?_ | refine kQm ?_ ?_ | refine kQj ?_ ?_ | refine kQc ?_ ?_ | refine kQs ?_ ?_ ?_))
      all_goals first
      | (show _ = (b ++ nml u0).length; rw [← hq]; simp <;> omega)
      | (show ((b ++ a :: acc).map (PV.int .u8)) ++ List.take 1 (List.drop 0 [PV.int .u8 (IntKind.u8.wrap (u : Int))]) = (b ++ nml u0).map (PV.int .u8); rw [← hq, e2]; simp)
  · have hyes : ((u : Int) ≥ 128) := by omega
    rw [nml_ge h] at hq
    cases acc with
    | nil =>
      repeat' (first | exact cl1 | exact kE | (refine stx ?_; refine exU8 ?_) | ((fail_if_success refine stp ?_); (conv => whnf) <;> (first | exact cl2 | refine kBy hyes fun hc => ?_ | refine kX ?_ | refine kP ?_ | refine kBd (fun hc => ?_) (fun hc => ?_) | refine kT ?_ | refine kF ?_ | refine kN ?_ | refine kBm (fun hc => ?_) (fun hc => ?_) | refine kO ?_ | refine kS ?_ | refine kA ?_ | refine kC ?_ ?_ | refine And.intro ?_ ?_ | refine ix_map (fun x hx => ?_) | refine exU8 ?_ | refine nilc (fun hn => ?_) ?_ | exact kW1 | refine imp0 (fun hpos => ?_) | refine kG ?_ ?_ | exact kW2 | (first | refine stq ?_ | fail)))) <;> (try exact cl5)
      refine ⟨⟨([((u % 128 + 128 : Nat) : Int)], u / 128), by omega, hq⟩, by show u / 128 < u; omega, ?_⟩
      (refine Ent.ofAK [] ?_) <;> (repeat' (first | exact kQ1 | refine kHd ?_ | refine kHm rfl (by simp) rfl (fun h => AObj.noConfusion h) ?_ ?_ | refine And.intro ?_ ?_ | refine kVp ?_ | refine kVa ?_ | refine kVt ?_ | refine kVf ?_ ?_ | refine kVc ?_ ?_ | exact kQ2 | refine VLe.rsle rfl ?_ ?_ ?_ | refine kQw ?_ ?_ | refine kQm ?_ ?_ | refine kQj ?_ ?_ | refine kQc ?_ ?_ | refine kQs ?_ ?_ ?_)) <;> try exact kZ
      all_goals first
      | exact congrArg (PV.int .u64) e1
      | (show (b.map (PV.int .u8)) ++ List.take 1 (List.drop 0 [PV.int .u8 (bitsI .or .u8 (IntKind.u8.wrap (u : Int)) 128)]) = _; rw [or128]; simp)
    | cons a acc =>
      repeat' (first | exact cl1 | exact kE | (refine stx ?_; refine exU8 ?_) | ((fail_if_success refine stp ?_); (conv => whnf) <;> (first | exact cl2 | refine kBy hyes fun hc => ?_ | refine kX ?_ | refine kP ?_ | refine kBd (fun hc => ?_) (fun hc => ?_) | refine kT ?_ | refine kF ?_ | refine kN ?_ | refine kBm (fun hc => ?_) (fun hc => ?_) | refine kO ?_ | refine kS ?_ | refine kA ?_ | refine kC ?_ ?_ | refine And.intro ?_ ?_ | refine ix_map (fun x hx => ?_) | refine exU8 ?_ | refine nilc (fun hn => ?_) ?_ | exact kW1 | refine imp0 (fun hpos => ?_) | refine kG ?_ ?_ | exact kW2 | (first | refine stq ?_ | fail)))) <;> (try exact cl5)
      refine ⟨⟨((a :: acc) ++ [((u % 128 + 128 : Nat) : Int)], u / 128), by omega, by rw [← hq]; simp⟩, by show u / 128 < u; omega, ?_⟩
      (refine Ent.ofAK [] ?_) <;> (repeat' (first | exact kQ1 | refine kHd ?_ | refine kHm rfl (by simp) rfl (fun h => AObj.noConfusion h) ?_ ?_ | refine And.intro ?_ ?_ | refine kVp ?_ | refine kVa ?_ | refine kVt ?_ | refine kVf ?_ ?_ | refine kVc ?_ ?_ | exact kQ2 | refine VLe.rsle rfl ?_ ?_ ?_ | refine kQw ?_ ?_ | refine kQm ?_ ?_ | refine kQj ?_ ?_ | refine kQc ?_ ?_ | refine kQs ?_ ?_ ?_)) <;> try exact kZ
      all_goals first
      | exact congrArg (PV.int .u64) e1
      | (show ((b ++ a :: acc).map (PV.int .u8)) ++ List.take 1 (List.drop 0 [PV.int .u8 (bitsI .or .u8 (IntKind.u8.wrap (u : Int)) 128)]) = _; rw [or128]; simp)
end Go.Proofs.Ytgclicahmbgfiaa.Cd

namespace Go.Proofs.Ytgclicahmbgfiaa.Cd
open Go Go.Sg
theorem numeral2 (b : List Int) (hb : b.length ≤ 100000000) (u : Nat) (h0 : u < 18446744073709551616) (L : List PV) (n : Nat) (hL : L = b.map (.int .u8)) (hn : n = b.length) :
    ICalls Try.prog 87 1 [(0, .row 1 L)] [.rsl 0 1 0 n, .p (eU u)] (.rsl 1 1 0 (b ++ nml u).length) [(0, .dead), (1, .row 1 ((b ++ nml u).map (.int .u8)))] := by
  subst hL; subst hn; exact numeral_calls b hb u h0
theorem numeral3 (b : List Int) (hb : b.length ≤ 100000000) (u : Nat) (h0 : u < 18446744073709551616) (L : List PV) (n : Nat) (U : Int) (hL : L = b.map (.int .u8)) (hn : n = b.length) (hU : U = u) :
    ICalls Try.prog 87 1 [(0, .row 1 L)] [.rsl 0 1 0 n, .p (.int .u64 U)] (.rsl 1 1 0 (b ++ nml u).length) [(0, .dead), (1, .row 1 ((b ++ nml u).map (.int .u8)))] := by
  subst hL; subst hn; subst hU; exact numeral_calls b hb u h0
theorem newWriter_calls : ICalls Try.prog 69 0 [] [] (.ptr 0 0) [(0, .cells [.p .nilf, .p (.fn (.func 86) [] []), .p (.fn (.func 89) [] []), .fn (.func 90) [] [.ptr 1 0]]), (1, .cells [.ptr 0 0])] := by
  refine ICalls.of (N := 18) (res := [.tmp 0]) mixed Try.func69 rfl rfl rfl (by kernel_rfl) (by simp) [0, 1] (Nat.le_refl _) ?_
  repeat' (first | exact cl1 | exact kE | (refine stx ?_; refine exU8 ?_) | ((fail_if_success refine stp ?_); (conv => whnf) <;> (first | exact cl2 | refine kX ?_ | refine kP ?_ | refine kBd (fun hc => ?_) (fun hc => ?_) | refine kT ?_ | refine kF ?_ | refine kN ?_ | refine kBm (fun hc => ?_) (fun hc => ?_) | refine kO ?_ | refine kS ?_ | refine kA ?_ | refine kC ?_ ?_ | refine And.intro ?_ ?_ | refine ix_map (fun x hx => ?_) | refine exU8 ?_ | refine nilc (fun hn => ?_) ?_ | exact kW1 | refine imp0 (fun hpos => ?_) | refine kG ?_ ?_ | exact kW2 | (first | refine stq ?_ | fail)))) <;> (try exact cl5)
  refine ⟨[], [(0, 128), (1, 192)], ?_, ?_, by decide, by simp, fun i hi => by omega⟩ <;> (repeat' (first | exact kQ1 | refine kHd ?_ | refine kHm rfl (by simp) rfl (fun h => AObj.noConfusion h) ?_ ?_ | refine And.intro ?_ ?_ | refine kVp ?_ | refine kVa ?_ | refine kVt ?_ | refine kVf ?_ ?_ | refine kVc ?_ ?_ | exact kQ2 | refine VLe.rsle rfl ?_ ?_ ?_ | refine kQw ?_ ?_ | refine kQm ?_ ?_ | refine kQj ?_ ?_ | refine kQc ?_ ?_ | refine kQs ?_ ?_ ?_))
theorem wInt (b : List Int) (hb : b.length ≤ 90000000) (n : Int) (hn : I64 n) (s : ByteArray) (l : List Vl) :
    ICalls Try.prog 86 1 [(0, .row 1 (b.map (.int .u8)))] [.rsl 0 1 0 b.length, .p (eW (.mk 1 n s l))] (.rsl 1 1 0 (b ++ enc (.mk 1 n s l)).length) [(0, .dead), (1, .row 1 ((b ++ enc (.mk 1 n s l)).map (.int .u8)))] := by
  have q1 := unsigned_calls n hn
  have h64 := zz_lt hn
  have hb1 : (b ++ [1]).length ≤ 100000000 := by simp; omega
  rw [enc_int]
  refine ICalls.of (N := 12) (res := [.tmp 4]) mixed Try.func86 rfl rfl rfl (by kernel_rfl) (by simp) [0, 1, 3, 4] (Nat.le_refl _) ?_
  repeat' (first | exact cl1 | exact kE | (refine stx ?_; refine exU8 ?_) | ((with_reducible show callX _ _ _ _ _); (first | refine call_p (q1) (by kernel_rfl) rfl ?_ | refine call_i [257] (numeral2 (b ++ [1]) hb1 (zz n) h64 _ _ ?_ ?_) (by kernel_rfl) rfl rfl (by decide) cl6 (fun i hi => by match i, hi with | 0, _ => rfl) cl7 cl8 (by simp [keys]) ?_)) | ((fail_if_success refine stp ?_); (conv => whnf) <;> (first | exact cl2 | refine kX ?_ | refine kP ?_ | refine kBd (fun hc => ?_) (fun hc => ?_) | refine kT ?_ | refine kF ?_ | refine kN ?_ | refine kBm (fun hc => ?_) (fun hc => ?_) | refine kO ?_ | refine kS ?_ | refine kA ?_ | refine kC ?_ ?_ | refine And.intro ?_ ?_ | refine ix_map (fun x hx => ?_) | refine exU8 ?_ | refine nilc (fun hn => ?_) ?_ | exact kW1 | refine imp0 (fun hpos => ?_) | refine kG ?_ ?_ | exact kW2 | (first | refine stq ?_ | fail)))) <;> (try exact cl5)
  · simp
  · refine ⟨[], [(0, 0), (1, 513)], ?_, ?_, by decide, by simp, fun i hi => by match i, hi with | 0, _ => rfl⟩ <;> (repeat' (first | exact kQ1 | refine kHd ?_ | refine kHm rfl (by simp) rfl (fun h => AObj.noConfusion h) ?_ ?_ | refine And.intro ?_ ?_ | refine kVp ?_ | refine kVa ?_ | refine kVt ?_ | refine kVf ?_ ?_ | refine kVc ?_ ?_ | exact kQ2 | refine VLe.rsle rfl ?_ ?_ ?_ | refine kQw ?_ ?_ | refine kQm ?_ ?_ | refine kQj ?_ ?_ | refine kQc ?_ ?_ | refine kQs ?_ ?_ ?_))
    all_goals simp
theorem wInt0 (n : Int) (hn : I64 n) (s : ByteArray) (l : List Vl) :
    ICalls Try.prog 86 0 [] [.p (.sl 0 true []), .p (eW (.mk 1 n s l))] (.rsl 0 1 0 (enc (.mk 1 n s l)).length) [(0, .row 1 ((enc (.mk 1 n s l)).map (.int .u8)))] := by
  have q1 := unsigned_calls n hn
  have h64 := zz_lt hn
  have hb1 : ([1] : List Int).length ≤ 100000000 := by simp
  rw [enc_int]
  refine ICalls.of (N := 12) (res := [.tmp 4]) mixed Try.func86 rfl rfl rfl (by kernel_rfl) (by simp) [0, 1, 3, 4] (Nat.le_refl _) ?_
  repeat' (first | exact cl1 | exact kE | (refine stx ?_; refine exU8 ?_) | ((with_reducible show callX _ _ _ _ _); (first | refine call_p (q1) (by kernel_rfl) rfl ?_ | refine call_i [256] (numeral2 [1] hb1 (zz n) h64 _ _ ?_ ?_) (by kernel_rfl) rfl rfl (by decide) cl6 (fun i hi => by match i, hi with | 0, _ => rfl) cl7 cl8 (by simp [keys]) ?_)) | ((fail_if_success refine stp ?_); (conv => whnf) <;> (first | exact cl2 | refine kX ?_ | refine kP ?_ | refine kBd (fun hc => ?_) (fun hc => ?_) | refine kT ?_ | refine kF ?_ | refine kN ?_ | refine kBm (fun hc => ?_) (fun hc => ?_) | refine kO ?_ | refine kS ?_ | refine kA ?_ | refine kC ?_ ?_ | refine And.intro ?_ ?_ | refine ix_map (fun x hx => ?_) | refine exU8 ?_ | refine nilc (fun hn => ?_) ?_ | exact kW1 | refine imp0 (fun hpos => ?_) | refine kG ?_ ?_ | exact kW2 | (first | refine stq ?_ | fail)))) <;> (try exact cl5)
  · refine ⟨[], [(0, 512)], ?_, ?_, by decide, by simp, fun i hi => by omega⟩ <;> (repeat' (first | exact kQ1 | refine kHd ?_ | refine kHm rfl (by simp) rfl (fun h => AObj.noConfusion h) ?_ ?_ | refine And.intro ?_ ?_ | refine kVp ?_ | refine kVa ?_ | refine kVt ?_ | refine kVf ?_ ?_ | refine kVc ?_ ?_ | exact kQ2 | refine VLe.rsle rfl ?_ ?_ ?_ | refine kQw ?_ ?_ | refine kQm ?_ ?_ | refine kQj ?_ ?_ | refine kQc ?_ ?_ | refine kQs ?_ ?_ ?_))
theorem wText (b : List Int) (hb : b.length ≤ 90000000) (n : Int) (s : ByteArray) (hs : s.size ≤ 90000000) (l : List Vl) (hz : (b ++ enc (.mk 2 n s l)).length ≤ 90000000) :
    ICalls Try.prog 89 1 [(0, .row 1 (b.map (.int .u8)))] [.rsl 0 1 0 b.length, .p (eW (.mk 2 n s l))] (.rsl 1 1 0 (b ++ enc (.mk 2 n s l)).length) [(0, .dead), (1, .row 1 ((b ++ enc (.mk 2 n s l)).map (.int .u8)))] := by
  have hb1 : (b ++ [2]).length ≤ 100000000 := by simp; omega
  have hw := u64len (n := s.size) (by omega)
  have hdl : s.data.toList.length = s.size := by simp
  have hbl := bytes_len s
  have h10 := nml_len64 (u := s.size) (by omega)
  rw [enc_text] at hz ⊢
  have hbd : (b ++ [2] ++ nml s.size).length + s.size ≤ 1000000000 := by simp; omega
  refine ICalls.of (N := 16) (res := [.tmp 4]) mixed Try.func89 rfl rfl rfl (by kernel_rfl) (by simp) [0, 1, 3, 4] (Nat.le_refl _) ?_
  repeat' (first | exact cl1 | exact kE | (refine stx ?_; refine exU8 ?_) | ((with_reducible show callX _ _ _ _ _); (first | refine call_i [257] (numeral3 (b ++ [2]) hb1 s.size (by omega) _ _ _ ?_ ?_ ?_) (by kernel_rfl) rfl rfl (by decide) cl6 (fun i hi => by match i, hi with | 0, _ => rfl) cl7 cl8 (by simp [keys]) ?_)) | ((fail_if_success refine stp ?_); (conv => whnf) <;> (first | exact cl2 | refine kX ?_ | refine kP ?_ | refine kBd (fun hc => ?_) (fun hc => ?_) | refine kT ?_ | refine kF ?_ | refine kN ?_ | refine kBm (fun hc => ?_) (fun hc => ?_) | refine kO ?_ | refine kS ?_ | refine kA ?_ | refine kC ?_ ?_ | refine And.intro ?_ ?_ | refine ix_map (fun x hx => ?_) | refine exU8 ?_ | refine nilc (fun hn => ?_) ?_ | exact kW1 | refine imp0 (fun hpos => ?_) | refine kG ?_ ?_ | exact kW2 | (first | refine stq ?_ | fail)))) <;> (try exact cl5)
  · simp
  · exact hw
  · exact hbd
  · refine ⟨[], [(0, 0), (1, 769)], ?_, ?_, by decide, by simp, fun i hi => by match i, hi with | 0, _ => rfl⟩ <;> (repeat' (first | exact kQ1 | refine kHd ?_ | refine kHm rfl (by simp) rfl (fun h => AObj.noConfusion h) ?_ ?_ | refine And.intro ?_ ?_ | refine kVp ?_ | refine kVa ?_ | refine kVt ?_ | refine kVf ?_ ?_ | refine kVc ?_ ?_ | exact kQ2 | refine VLe.rsle rfl ?_ ?_ ?_ | refine kQw ?_ ?_ | refine kQm ?_ ?_ | refine kQj ?_ ?_ | refine kQc ?_ ?_ | refine kQs ?_ ?_ ?_))
    · show (b ++ [2] ++ nml s.size).length + s.size = (b ++ 2 :: (nml s.size ++ bytes s)).length
      simp [hbl]; omega
    · show (b ++ [2] ++ nml s.size).map (PV.int .u8) ++ s.data.toList.map (fun u => PV.int .u8 u.toNat) = (b ++ 2 :: (nml s.size ++ bytes s)).map (PV.int .u8)
      simp [bytes]
theorem wText0 (n : Int) (s : ByteArray) (hs : s.size ≤ 90000000) (l : List Vl) (hz : (enc (.mk 2 n s l)).length ≤ 90000000) :
    ICalls Try.prog 89 0 [] [.p (.sl 0 true []), .p (eW (.mk 2 n s l))] (.rsl 0 1 0 (enc (.mk 2 n s l)).length) [(0, .row 1 ((enc (.mk 2 n s l)).map (.int .u8)))] := by
  have hb1 : ([2] : List Int).length ≤ 100000000 := by simp
  have hw := u64len (n := s.size) (by omega)
  have hdl : s.data.toList.length = s.size := by simp
  have hbl := bytes_len s
  have h10 := nml_len64 (u := s.size) (by omega)
  rw [enc_text] at hz ⊢
  have hbd : ([2] ++ nml s.size).length + s.size ≤ 1000000000 := by simp; omega
  refine ICalls.of (N := 16) (res := [.tmp 4]) mixed Try.func89 rfl rfl rfl (by kernel_rfl) (by simp) [0, 1, 3, 4] (Nat.le_refl _) ?_
  repeat' (first | exact cl1 | exact kE | (refine stx ?_; refine exU8 ?_) | ((with_reducible show callX _ _ _ _ _); (first | refine call_i [256] (numeral3 [2] hb1 s.size (by omega) _ _ _ ?_ ?_ ?_) (by kernel_rfl) rfl rfl (by decide) cl6 (fun i hi => by match i, hi with | 0, _ => rfl) cl7 cl8 (by simp [keys]) ?_)) | ((fail_if_success refine stp ?_); (conv => whnf) <;> (first | exact cl2 | refine kX ?_ | refine kP ?_ | refine kBd (fun hc => ?_) (fun hc => ?_) | refine kT ?_ | refine kF ?_ | refine kN ?_ | refine kBm (fun hc => ?_) (fun hc => ?_) | refine kO ?_ | refine kS ?_ | refine kA ?_ | refine kC ?_ ?_ | refine And.intro ?_ ?_ | refine ix_map (fun x hx => ?_) | refine exU8 ?_ | refine nilc (fun hn => ?_) ?_ | exact kW1 | refine imp0 (fun hpos => ?_) | refine kG ?_ ?_ | exact kW2 | (first | refine stq ?_ | fail)))) <;> (try exact cl5)
  · exact hw
  · exact hbd
  · refine ⟨[], [(0, 768)], ?_, ?_, by decide, by simp, fun i hi => by omega⟩ <;> (repeat' (first | exact kQ1 | refine kHd ?_ | refine kHm rfl (by simp) rfl (fun h => AObj.noConfusion h) ?_ ?_ | refine And.intro ?_ ?_ | refine kVp ?_ | refine kVa ?_ | refine kVt ?_ | refine kVf ?_ ?_ | refine kVc ?_ ?_ | exact kQ2 | refine VLe.rsle rfl ?_ ?_ ?_ | refine kQw ?_ ?_ | refine kQm ?_ ?_ | refine kQj ?_ ?_ | refine kQc ?_ ?_ | refine kQs ?_ ?_ ?_))
    · show ([2] ++ nml s.size).length + s.size = (2 :: (nml s.size ++ bytes s)).length
      simp [hbl]; omega
    · show ([2] ++ nml s.size).map (PV.int .u8) ++ s.data.toList.map (fun u => PV.int .u8 u.toNat) = (2 :: (nml s.size ++ bytes s)).map (PV.int .u8)
      simp [bytes]
end Go.Proofs.Ytgclicahmbgfiaa.Cd

namespace Go.Proofs.Ytgclicahmbgfiaa.Cd
open Go Go.Sg
theorem wList : ∀ v, frm v = true → nums v → lens 5000 v → v.kind = 3 → ∀ b : List Int, (b ++ enc v).length ≤ 80000000 →
    ICalls Try.prog 90 3 [(0, .row 1 (b.map (.int .u8))), (1, .cells [.p .nilf, .p (.fn (.func 86) [] []), .p (.fn (.func 89) [] []), .fn (.func 90) [] [.ptr 2 0]]), (2, .cells [.ptr 1 0])] [.rsl 0 1 0 b.length, .p (eW v), .ptr 2 0] (.rsl 3 1 0 (b ++ enc v).length) [(0, .dead), (1, .cells [.p .nilf, .p (.fn (.func 86) [] []), .p (.fn (.func 89) [] []), .fn (.func 90) [] [.ptr 2 0]]), (2, .cells [.ptr 1 0]), (3, .row 1 ((b ++ enc v).map (.int .u8)))] := by
  refine Vl.ind fun v ih hf hn hl hk b hz => ?_
  obtain ⟨k, n, s, l⟩ := v
  have hk : k = 3 := hk
  subst hk
  obtain ⟨hn1, hnl⟩ := hn
  obtain ⟨hll, hls⟩ := hl
  have ih : ∀ x ∈ l, frm x = true → nums x → lens 5000 x → x.kind = 3 → ∀ b : List Int, (b ++ enc x).length ≤ 80000000 →
    ICalls Try.prog 90 3 [(0, .row 1 (b.map (.int .u8))), (1, .cells [.p .nilf, .p (.fn (.func 86) [] []), .p (.fn (.func 89) [] []), .fn (.func 90) [] [.ptr 2 0]]), (2, .cells [.ptr 1 0])] [.rsl 0 1 0 b.length, .p (eW x), .ptr 2 0] (.rsl 3 1 0 (b ++ enc x).length) [(0, .dead), (1, .cells [.p .nilf, .p (.fn (.func 86) [] []), .p (.fn (.func 89) [] []), .fn (.func 90) [] [.ptr 2 0]]), (2, .cells [.ptr 1 0]), (3, .row 1 ((b ++ enc x).map (.int .u8)))] := ih
  have hbl : b.length ≤ 80000000 := by simp at hz; omega
  rw [frm_list] at hf
  simp only [Bool.and_eq_true] at hf
  obtain ⟨_, hfl⟩ := hf
  rw [enc_list] at hz ⊢
  have hz : (b ++ 3 :: (nml l.length ++ encs l)).length ≤ 80000000 := hz
  have hb1 : (b ++ [3] : List Int).length ≤ 100000000 := by simp; omega
  have h10 := nml_len64 (u := l.length) (by omega)
  have hw : IntKind.u64.wrap (((l.map eV).length : Nat) : Int) = (l.length : Int) := by rw [List.length_map]; exact u64len (by omega)
  refine ICalls.of (N := 35) (res := [.tmp 5]) mixed Try.func90 rfl rfl rfl (by kernel_rfl) (by simp) [0, 1, 2, 4, 5, 7, 17, 18, 19, 20] (Nat.le_refl _) ?_
  repeat' (first | exact cl1 | exact kE | (refine stx ?_; refine exU8 ?_) | ((with_reducible show callX _ _ _ _ _); (first | refine call_i [259] (numeral3 (b ++ [3]) hb1 l.length (by omega) _ _ _ ?_ ?_ ?_) (by kernel_rfl) rfl rfl (by decide) cl6 (fun i hi => by match i, hi with | 0, _ => rfl) cl7 cl8 (by simp [keys]) ?_)) | ((fail_if_success refine stp ?_); (conv => whnf) <;> (first | exact cl2 | refine kX ?_ | refine kP ?_ | refine kBd (fun hc => ?_) (fun hc => ?_) | refine kT ?_ | refine kF ?_ | refine kN ?_ | refine kBm (fun hc => ?_) (fun hc => ?_) | refine kO ?_ | refine kS ?_ | refine kA ?_ | refine kC ?_ ?_ | refine And.intro ?_ ?_ | refine ix_map (fun x hx => ?_) | refine exU8 ?_ | refine nilc (fun hn => ?_) ?_ | exact kW1 | refine imp0 (fun hpos => ?_) | refine kG ?_ ?_ | exact kW2 | (first | refine stq ?_ | fail)))) <;> (try exact cl5)
  · simp
  · exact hw
  refine Wpc.loopA (α := {i : Nat // i ≤ l.length}) mixed [0, 1, 2, 4, 5, 7, 17, 18, 19, 20] (fun i => [(0, .rsl 579 1 0 (b ++ 3 :: (nml l.length ++ encs (l.take i.1))).length), (19, .p (eI i.1))]) (fun i => [(195, .dead), (579, .row 1 ((b ++ 3 :: (nml l.length ++ encs (l.take i.1))).map (.int .u8)))]) (fun _ => 0) (fun i => l.length - i.1) ⟨0, by omega⟩ ?_ ?_
  · (refine Ent.ofAK [] ?_) <;> (repeat' (first | exact kQ1 | refine kHd ?_ | refine kHm rfl (by simp) rfl (fun h => AObj.noConfusion h) ?_ ?_ | refine And.intro ?_ ?_ | refine kVp ?_ | refine kVa ?_ | refine kVt ?_ | refine kVf ?_ ?_ | refine kVc ?_ ?_ | exact kQ2 | refine VLe.rsle rfl ?_ ?_ ?_ | refine kQw ?_ ?_ | refine kQm ?_ ?_ | refine kQj ?_ ?_ | refine kQc ?_ ?_ | refine kQs ?_ ?_ ?_)) <;> try exact kZ
    all_goals simp [encs]
  rintro ⟨i, hi⟩
  have hi : i ≤ l.length := hi
  cases hxi : l[i]? with
  | none =>
    have hge : l.length ≤ i := List.getElem?_eq_none_iff.1 hxi
    have hno : ¬ ((i : Int) < ((l.map eV).length : Int)) := by rw [List.length_map]; omega
    rw [List.take_of_length_le hge]
    repeat' (first | exact cl1 | exact kE | (refine stx ?_; refine exU8 ?_) | ((fail_if_success refine stp ?_); (conv => whnf) <;> (first | exact cl2 | refine kBn hno fun hc => ?_ | refine kX ?_ | refine kP ?_ | refine kBd (fun hc => ?_) (fun hc => ?_) | refine kT ?_ | refine kF ?_ | refine kN ?_ | refine kBm (fun hc => ?_) (fun hc => ?_) | refine kO ?_ | refine kS ?_ | refine kA ?_ | refine kC ?_ ?_ | refine And.intro ?_ ?_ | refine ix_map (fun x hx => ?_) | refine exU8 ?_ | refine nilc (fun hn => ?_) ?_ | exact kW1 | refine imp0 (fun hpos => ?_) | refine kG ?_ ?_ | exact kW2 | (first | refine stq ?_ | fail)))) <;> (try exact cl5)
    refine ⟨[], [(0, 0), (1, 1), (2, 2), (3, 579)], ?_, ?_, by decide, by simp, fun i hi => by match i, hi with | 0, _ => rfl | 1, _ => rfl | 2, _ => rfl⟩ <;> (repeat' (first | exact kQ1 | refine kHd ?_ | refine kHm rfl (by simp) rfl (fun h => AObj.noConfusion h) ?_ ?_ | refine And.intro ?_ ?_ | refine kVp ?_ | refine kVa ?_ | refine kVt ?_ | refine kVf ?_ ?_ | refine kVc ?_ ?_ | exact kQ2 | refine VLe.rsle rfl ?_ ?_ ?_ | refine kQw ?_ ?_ | refine kQm ?_ ?_ | refine kQj ?_ ?_ | refine kQc ?_ ?_ | refine kQs ?_ ?_ ?_))
  | some x =>
    have hlt : i < l.length := (List.getElem?_eq_some_iff.1 hxi).1
    have hyes : ((i : Int) < ((l.map eV).length : Int)) := by rw [List.length_map]; omega
    have hxm := List.mem_of_getElem? hxi
    have htk := encs_take hxi
    have hte := encs_le (l := l) (i := i + 1)
    have hxf := List.all_eq_true.1 hfl x hxm
    have hxn := numsL_mem hnl hxm
    have hxl := lensL_mem hls hxm
    generalize hcur : b ++ 3 :: (nml l.length ++ encs (l.take i)) = cur at *
    have hnext : b ++ 3 :: (nml l.length ++ encs (l.take (i + 1))) = cur ++ enc x := by rw [htk, ← hcur]; simp
    have hcz : (cur ++ enc x).length ≤ 80000000 := by
      rw [← hnext]
      simp only [List.length_cons, List.length_append] at hz ⊢
      omega
    have hcl : cur.length ≤ 80000000 := by simp only [List.length_append] at hcz; omega
    obtain ⟨k', n', s', l'⟩ := x
    have hk' : k' = 1 ∨ k' = 2 ∨ k' = 3 := by
      by_cases h1 : k' = 1
      · exact .inl h1
      · by_cases h2 : k' = 2
        · exact .inr (.inl h2)
        · by_cases h3 : k' = 3
          · exact .inr (.inr h3)
          · rw [frm_other h1 h2 h3] at hxf; cases hxf
    rcases hk' with e | e | e <;> subst e
    · have q3 := wInt cur (by omega) n' hxn.1 s' l'
      repeat' (first | exact cl1 | exact kE | (refine stx ?_; refine exU8 ?_) | ((with_reducible show callX _ _ _ _ _); (first | refine call_i [579] (q3) (by kernel_rfl) rfl rfl (by decide) cl6 (fun i hi => by match i, hi with | 0, _ => rfl) cl7 cl8 (by simp [keys]) ?_)) | ((fail_if_success refine stp ?_); (conv => whnf) <;> (first | exact cl2 | refine kBy hyes fun hc => ?_ | refine ix_v hxi ?_ | refine kX ?_ | refine kP ?_ | refine kBd (fun hc => ?_) (fun hc => ?_) | refine kT ?_ | refine kF ?_ | refine kN ?_ | refine kBm (fun hc => ?_) (fun hc => ?_) | refine kO ?_ | refine kS ?_ | refine kA ?_ | refine kC ?_ ?_ | refine And.intro ?_ ?_ | refine ix_map (fun x hx => ?_) | refine exU8 ?_ | refine nilc (fun hn => ?_) ?_ | exact kW1 | refine imp0 (fun hpos => ?_) | refine kG ?_ ?_ | exact kW2 | (first | refine stq ?_ | fail)))) <;> (try exact cl5)
      refine ⟨⟨i + 1, hlt⟩, by show l.length - (i + 1) < l.length - i; omega, ?_⟩
      show Ent _ _ (hdS [0, 1, 2, 4, 5, 7, 17, 18, 19, 20] _ _ _ [(0, .rsl 579 1 0 (b ++ 3 :: (nml l.length ++ encs (l.take (i + 1)))).length), (19, .p (eI ((i + 1 : Nat) : Int)))] [(195, .dead), (579, .row 1 ((b ++ 3 :: (nml l.length ++ encs (l.take (i + 1)))).map (.int .u8)))] _)
      rw [hnext]
      (refine Ent.ofAK [] ?_) <;> (repeat' (first | exact kQ1 | refine kHd ?_ | refine kHm rfl (by simp) rfl (fun h => AObj.noConfusion h) ?_ ?_ | refine And.intro ?_ ?_ | refine kVp ?_ | refine kVa ?_ | refine kVt ?_ | refine kVf ?_ ?_ | refine kVc ?_ ?_ | exact kQ2 | refine VLe.rsle rfl ?_ ?_ ?_ | refine kQw ?_ ?_ | refine kQm ?_ ?_ | refine kQj ?_ ?_ | refine kQc ?_ ?_ | refine kQs ?_ ?_ ?_)) <;> try exact kZ
    · have hs' : s'.size ≤ 90000000 := by
        have := bytes_len s'
        rw [enc_text] at hcz
        simp only [List.length_cons, List.length_append] at hcz; omega
      have q3 := wText cur (by omega) n' s' hs' l' (by omega)
      repeat' (first | exact cl1 | exact kE | (refine stx ?_; refine exU8 ?_) | ((with_reducible show callX _ _ _ _ _); (first | refine call_i [579] (q3) (by kernel_rfl) rfl rfl (by decide) cl6 (fun i hi => by match i, hi with | 0, _ => rfl) cl7 cl8 (by simp [keys]) ?_)) | ((fail_if_success refine stp ?_); (conv => whnf) <;> (first | exact cl2 | refine kBy hyes fun hc => ?_ | refine ix_v hxi ?_ | refine kX ?_ | refine kP ?_ | refine kBd (fun hc => ?_) (fun hc => ?_) | refine kT ?_ | refine kF ?_ | refine kN ?_ | refine kBm (fun hc => ?_) (fun hc => ?_) | refine kO ?_ | refine kS ?_ | refine kA ?_ | refine kC ?_ ?_ | refine And.intro ?_ ?_ | refine ix_map (fun x hx => ?_) | refine exU8 ?_ | refine nilc (fun hn => ?_) ?_ | exact kW1 | refine imp0 (fun hpos => ?_) | refine kG ?_ ?_ | exact kW2 | (first | refine stq ?_ | fail)))) <;> (try exact cl5)
      refine ⟨⟨i + 1, hlt⟩, by show l.length - (i + 1) < l.length - i; omega, ?_⟩
      show Ent _ _ (hdS [0, 1, 2, 4, 5, 7, 17, 18, 19, 20] _ _ _ [(0, .rsl 579 1 0 (b ++ 3 :: (nml l.length ++ encs (l.take (i + 1)))).length), (19, .p (eI ((i + 1 : Nat) : Int)))] [(195, .dead), (579, .row 1 ((b ++ 3 :: (nml l.length ++ encs (l.take (i + 1)))).map (.int .u8)))] _)
      rw [hnext]
      (refine Ent.ofAK [] ?_) <;> (repeat' (first | exact kQ1 | refine kHd ?_ | refine kHm rfl (by simp) rfl (fun h => AObj.noConfusion h) ?_ ?_ | refine And.intro ?_ ?_ | refine kVp ?_ | refine kVa ?_ | refine kVt ?_ | refine kVf ?_ ?_ | refine kVc ?_ ?_ | exact kQ2 | refine VLe.rsle rfl ?_ ?_ ?_ | refine kQw ?_ ?_ | refine kQm ?_ ?_ | refine kQj ?_ ?_ | refine kQc ?_ ?_ | refine kQs ?_ ?_ ?_)) <;> try exact kZ
    · have q3 := ih _ hxm hxf hxn hxl rfl cur hcz
      repeat' (first | exact cl1 | exact kE | (refine stx ?_; refine exU8 ?_) | ((with_reducible show callX _ _ _ _ _); (first | refine call_i [579, 1, 2] (q3) (by kernel_rfl) rfl rfl (by decide) cl6 (fun i hi => by match i, hi with | 0, _ => rfl | 1, _ => rfl | 2, _ => rfl) cl7 cl8 (by simp [keys]) ?_)) | ((fail_if_success refine stp ?_); (conv => whnf) <;> (first | exact cl2 | refine kBy hyes fun hc => ?_ | refine ix_v hxi ?_ | refine kX ?_ | refine kP ?_ | refine kBd (fun hc => ?_) (fun hc => ?_) | refine kT ?_ | refine kF ?_ | refine kN ?_ | refine kBm (fun hc => ?_) (fun hc => ?_) | refine kO ?_ | refine kS ?_ | refine kA ?_ | refine kC ?_ ?_ | refine And.intro ?_ ?_ | refine ix_map (fun x hx => ?_) | refine exU8 ?_ | refine nilc (fun hn => ?_) ?_ | exact kW1 | refine imp0 (fun hpos => ?_) | refine kG ?_ ?_ | exact kW2 | (first | refine stq ?_ | fail)))) <;> (try exact cl5)
      refine ⟨⟨i + 1, hlt⟩, by show l.length - (i + 1) < l.length - i; omega, ?_⟩
      show Ent _ _ (hdS [0, 1, 2, 4, 5, 7, 17, 18, 19, 20] _ _ _ [(0, .rsl 579 1 0 (b ++ 3 :: (nml l.length ++ encs (l.take (i + 1)))).length), (19, .p (eI ((i + 1 : Nat) : Int)))] [(195, .dead), (579, .row 1 ((b ++ 3 :: (nml l.length ++ encs (l.take (i + 1)))).map (.int .u8)))] _)
      rw [hnext]
      (refine Ent.ofAK [] ?_) <;> (repeat' (first | exact kQ1 | refine kHd ?_ | refine kHm rfl (by simp) rfl (fun h => AObj.noConfusion h) ?_ ?_ | refine And.intro ?_ ?_ | refine kVp ?_ | refine kVa ?_ | refine kVt ?_ | refine kVf ?_ ?_ | refine kVc ?_ ?_ | exact kQ2 | refine VLe.rsle rfl ?_ ?_ ?_ | refine kQw ?_ ?_ | refine kQm ?_ ?_ | refine kQj ?_ ?_ | refine kQc ?_ ?_ | refine kQs ?_ ?_ ?_)) <;> try exact kZ
theorem wList0 (v : Vl) (hf : frm v = true) (hn : nums v) (hl : lens 5000 v) (hk : v.kind = 3) (hz : (enc v).length ≤ 80000000) :
    ICalls Try.prog 90 2 [(0, .cells [.p .nilf, .p (.fn (.func 86) [] []), .p (.fn (.func 89) [] []), .fn (.func 90) [] [.ptr 1 0]]), (1, .cells [.ptr 0 0])] [.p (.sl 0 true []), .p (eW v), .ptr 1 0] (.rsl 2 1 0 (enc v).length) [(0, .cells [.p .nilf, .p (.fn (.func 86) [] []), .p (.fn (.func 89) [] []), .fn (.func 90) [] [.ptr 1 0]]), (1, .cells [.ptr 0 0]), (2, .row 1 ((enc v).map (.int .u8)))] := by
  obtain ⟨k, n, s, l⟩ := v
  have hk : k = 3 := hk
  subst hk
  obtain ⟨hn1, hnl⟩ := hn
  obtain ⟨hll, hls⟩ := hl
  rw [frm_list] at hf
  simp only [Bool.and_eq_true] at hf
  obtain ⟨_, hfl⟩ := hf
  rw [enc_list] at hz ⊢
  have hz : (3 :: (nml l.length ++ encs l)).length ≤ 80000000 := hz
  have hb1 : ([3] : List Int).length ≤ 100000000 := by simp
  have h10 := nml_len64 (u := l.length) (by omega)
  have hw : IntKind.u64.wrap (((l.map eV).length : Nat) : Int) = (l.length : Int) := by rw [List.length_map]; exact u64len (by omega)
  refine ICalls.of (N := 35) (res := [.tmp 5]) mixed Try.func90 rfl rfl rfl (by kernel_rfl) (by simp) [0, 1, 2, 4, 5, 7, 17, 18, 19, 20] (Nat.le_refl _) ?_
  repeat' (first | exact cl1 | exact kE | (refine stx ?_; refine exU8 ?_) | ((with_reducible show callX _ _ _ _ _); (first | refine call_i [258] (numeral3 ([3]) hb1 l.length (by omega) _ _ _ ?_ ?_ ?_) (by kernel_rfl) rfl rfl (by decide) cl6 (fun i hi => by match i, hi with | 0, _ => rfl) cl7 cl8 (by simp [keys]) ?_)) | ((fail_if_success refine stp ?_); (conv => whnf) <;> (first | exact cl2 | refine kX ?_ | refine kP ?_ | refine kBd (fun hc => ?_) (fun hc => ?_) | refine kT ?_ | refine kF ?_ | refine kN ?_ | refine kBm (fun hc => ?_) (fun hc => ?_) | refine kO ?_ | refine kS ?_ | refine kA ?_ | refine kC ?_ ?_ | refine And.intro ?_ ?_ | refine ix_map (fun x hx => ?_) | refine exU8 ?_ | refine nilc (fun hn => ?_) ?_ | exact kW1 | refine imp0 (fun hpos => ?_) | refine kG ?_ ?_ | exact kW2 | (first | refine stq ?_ | fail)))) <;> (try exact cl5)
  · exact hw
  refine Wpc.loopA (α := {i : Nat // i ≤ l.length}) mixed [0, 1, 2, 4, 5, 7, 17, 18, 19, 20] (fun i => [(0, .rsl 578 1 0 (3 :: (nml l.length ++ encs (l.take i.1))).length), (19, .p (eI i.1))]) (fun i => [(194, .dead), (578, .row 1 ((3 :: (nml l.length ++ encs (l.take i.1))).map (.int .u8)))]) (fun _ => 0) (fun i => l.length - i.1) ⟨0, by omega⟩ ?_ ?_
  · (refine Ent.ofAK [] ?_) <;> (repeat' (first | exact kQ1 | refine kHd ?_ | refine kHm rfl (by simp) rfl (fun h => AObj.noConfusion h) ?_ ?_ | refine And.intro ?_ ?_ | refine kVp ?_ | refine kVa ?_ | refine kVt ?_ | refine kVf ?_ ?_ | refine kVc ?_ ?_ | exact kQ2 | refine VLe.rsle rfl ?_ ?_ ?_ | refine kQw ?_ ?_ | refine kQm ?_ ?_ | refine kQj ?_ ?_ | refine kQc ?_ ?_ | refine kQs ?_ ?_ ?_)) <;> try exact kZ
    all_goals simp [encs]
  rintro ⟨i, hi⟩
  have hi : i ≤ l.length := hi
  cases hxi : l[i]? with
  | none =>
    have hge : l.length ≤ i := List.getElem?_eq_none_iff.1 hxi
    have hno : ¬ ((i : Int) < ((l.map eV).length : Int)) := by rw [List.length_map]; omega
    rw [List.take_of_length_le hge]
    repeat' (first | exact cl1 | exact kE | (refine stx ?_; refine exU8 ?_) | ((fail_if_success refine stp ?_); (conv => whnf) <;> (first | exact cl2 | refine kBn hno fun hc => ?_ | refine kX ?_ | refine kP ?_ | refine kBd (fun hc => ?_) (fun hc => ?_) | refine kT ?_ | refine kF ?_ | refine kN ?_ | refine kBm (fun hc => ?_) (fun hc => ?_) | refine kO ?_ | refine kS ?_ | refine kA ?_ | refine kC ?_ ?_ | refine And.intro ?_ ?_ | refine ix_map (fun x hx => ?_) | refine exU8 ?_ | refine nilc (fun hn => ?_) ?_ | exact kW1 | refine imp0 (fun hpos => ?_) | refine kG ?_ ?_ | exact kW2 | (first | refine stq ?_ | fail)))) <;> (try exact cl5)
    refine ⟨[], [(0, 0), (1, 1), (2, 578)], ?_, ?_, by decide, by simp, fun i hi => by match i, hi with | 0, _ => rfl | 1, _ => rfl⟩ <;> (repeat' (first | exact kQ1 | refine kHd ?_ | refine kHm rfl (by simp) rfl (fun h => AObj.noConfusion h) ?_ ?_ | refine And.intro ?_ ?_ | refine kVp ?_ | refine kVa ?_ | refine kVt ?_ | refine kVf ?_ ?_ | refine kVc ?_ ?_ | exact kQ2 | refine VLe.rsle rfl ?_ ?_ ?_ | refine kQw ?_ ?_ | refine kQm ?_ ?_ | refine kQj ?_ ?_ | refine kQc ?_ ?_ | refine kQs ?_ ?_ ?_))
  | some x =>
    have hlt : i < l.length := (List.getElem?_eq_some_iff.1 hxi).1
    have hyes : ((i : Int) < ((l.map eV).length : Int)) := by rw [List.length_map]; omega
    have hxm := List.mem_of_getElem? hxi
    have htk := encs_take hxi
    have hte := encs_le (l := l) (i := i + 1)
    have hxf := List.all_eq_true.1 hfl x hxm
    have hxn := numsL_mem hnl hxm
    have hxl := lensL_mem hls hxm
    generalize hcur : 3 :: (nml l.length ++ encs (l.take i)) = cur at *
    have hnext : 3 :: (nml l.length ++ encs (l.take (i + 1))) = cur ++ enc x := by rw [htk, ← hcur]; simp
    have hcz : (cur ++ enc x).length ≤ 80000000 := by
      rw [← hnext]
      simp only [List.length_cons, List.length_append] at hz ⊢
      omega
    have hcl : cur.length ≤ 80000000 := by simp only [List.length_append] at hcz; omega
    obtain ⟨k', n', s', l'⟩ := x
    have hk' : k' = 1 ∨ k' = 2 ∨ k' = 3 := by
      by_cases h1 : k' = 1
      · exact .inl h1
      · by_cases h2 : k' = 2
        · exact .inr (.inl h2)
        · by_cases h3 : k' = 3
          · exact .inr (.inr h3)
          · rw [frm_other h1 h2 h3] at hxf; cases hxf
    rcases hk' with e | e | e <;> subst e
    · have q3 := wInt cur (by omega) n' hxn.1 s' l'
      repeat' (first | exact cl1 | exact kE | (refine stx ?_; refine exU8 ?_) | ((with_reducible show callX _ _ _ _ _); (first | refine call_i [578] (q3) (by kernel_rfl) rfl rfl (by decide) cl6 (fun i hi => by match i, hi with | 0, _ => rfl) cl7 cl8 (by simp [keys]) ?_)) | ((fail_if_success refine stp ?_); (conv => whnf) <;> (first | exact cl2 | refine kBy hyes fun hc => ?_ | refine ix_v hxi ?_ | refine kX ?_ | refine kP ?_ | refine kBd (fun hc => ?_) (fun hc => ?_) | refine kT ?_ | refine kF ?_ | refine kN ?_ | refine kBm (fun hc => ?_) (fun hc => ?_) | refine kO ?_ | refine kS ?_ | refine kA ?_ | refine kC ?_ ?_ | refine And.intro ?_ ?_ | refine ix_map (fun x hx => ?_) | refine exU8 ?_ | refine nilc (fun hn => ?_) ?_ | exact kW1 | refine imp0 (fun hpos => ?_) | refine kG ?_ ?_ | exact kW2 | (first | refine stq ?_ | fail)))) <;> (try exact cl5)
      refine ⟨⟨i + 1, hlt⟩, by show l.length - (i + 1) < l.length - i; omega, ?_⟩
      show Ent _ _ (hdS [0, 1, 2, 4, 5, 7, 17, 18, 19, 20] _ _ _ [(0, .rsl 578 1 0 (3 :: (nml l.length ++ encs (l.take (i + 1)))).length), (19, .p (eI ((i + 1 : Nat) : Int)))] [(194, .dead), (578, .row 1 ((3 :: (nml l.length ++ encs (l.take (i + 1)))).map (.int .u8)))] _)
      rw [hnext]
      (refine Ent.ofAK [] ?_) <;> (repeat' (first | exact kQ1 | refine kHd ?_ | refine kHm rfl (by simp) rfl (fun h => AObj.noConfusion h) ?_ ?_ | refine And.intro ?_ ?_ | refine kVp ?_ | refine kVa ?_ | refine kVt ?_ | refine kVf ?_ ?_ | refine kVc ?_ ?_ | exact kQ2 | refine VLe.rsle rfl ?_ ?_ ?_ | refine kQw ?_ ?_ | refine kQm ?_ ?_ | refine kQj ?_ ?_ | refine kQc ?_ ?_ | refine kQs ?_ ?_ ?_)) <;> try exact kZ
    · have hs' : s'.size ≤ 90000000 := by
        have := bytes_len s'
        rw [enc_text] at hcz
        simp only [List.length_cons, List.length_append] at hcz; omega
      have q3 := wText cur (by omega) n' s' hs' l' (by omega)
      repeat' (first | exact cl1 | exact kE | (refine stx ?_; refine exU8 ?_) | ((with_reducible show callX _ _ _ _ _); (first | refine call_i [578] (q3) (by kernel_rfl) rfl rfl (by decide) cl6 (fun i hi => by match i, hi with | 0, _ => rfl) cl7 cl8 (by simp [keys]) ?_)) | ((fail_if_success refine stp ?_); (conv => whnf) <;> (first | exact cl2 | refine kBy hyes fun hc => ?_ | refine ix_v hxi ?_ | refine kX ?_ | refine kP ?_ | refine kBd (fun hc => ?_) (fun hc => ?_) | refine kT ?_ | refine kF ?_ | refine kN ?_ | refine kBm (fun hc => ?_) (fun hc => ?_) | refine kO ?_ | refine kS ?_ | refine kA ?_ | refine kC ?_ ?_ | refine And.intro ?_ ?_ | refine ix_map (fun x hx => ?_) | refine exU8 ?_ | refine nilc (fun hn => ?_) ?_ | exact kW1 | refine imp0 (fun hpos => ?_) | refine kG ?_ ?_ | exact kW2 | (first | refine stq ?_ | fail)))) <;> (try exact cl5)
      refine ⟨⟨i + 1, hlt⟩, by show l.length - (i + 1) < l.length - i; omega, ?_⟩
      show Ent _ _ (hdS [0, 1, 2, 4, 5, 7, 17, 18, 19, 20] _ _ _ [(0, .rsl 578 1 0 (3 :: (nml l.length ++ encs (l.take (i + 1)))).length), (19, .p (eI ((i + 1 : Nat) : Int)))] [(194, .dead), (578, .row 1 ((3 :: (nml l.length ++ encs (l.take (i + 1)))).map (.int .u8)))] _)
      rw [hnext]
      (refine Ent.ofAK [] ?_) <;> (repeat' (first | exact kQ1 | refine kHd ?_ | refine kHm rfl (by simp) rfl (fun h => AObj.noConfusion h) ?_ ?_ | refine And.intro ?_ ?_ | refine kVp ?_ | refine kVa ?_ | refine kVt ?_ | refine kVf ?_ ?_ | refine kVc ?_ ?_ | exact kQ2 | refine VLe.rsle rfl ?_ ?_ ?_ | refine kQw ?_ ?_ | refine kQm ?_ ?_ | refine kQj ?_ ?_ | refine kQc ?_ ?_ | refine kQs ?_ ?_ ?_)) <;> try exact kZ
    · have q3 := wList _ hxf hxn hxl rfl cur hcz
      repeat' (first | exact cl1 | exact kE | (refine stx ?_; refine exU8 ?_) | ((with_reducible show callX _ _ _ _ _); (first | refine call_i [578, 0, 1] (q3) (by kernel_rfl) rfl rfl (by decide) cl6 (fun i hi => by match i, hi with | 0, _ => rfl | 1, _ => rfl | 2, _ => rfl) cl7 cl8 (by simp [keys]) ?_)) | ((fail_if_success refine stp ?_); (conv => whnf) <;> (first | exact cl2 | refine kBy hyes fun hc => ?_ | refine ix_v hxi ?_ | refine kX ?_ | refine kP ?_ | refine kBd (fun hc => ?_) (fun hc => ?_) | refine kT ?_ | refine kF ?_ | refine kN ?_ | refine kBm (fun hc => ?_) (fun hc => ?_) | refine kO ?_ | refine kS ?_ | refine kA ?_ | refine kC ?_ ?_ | refine And.intro ?_ ?_ | refine ix_map (fun x hx => ?_) | refine exU8 ?_ | refine nilc (fun hn => ?_) ?_ | exact kW1 | refine imp0 (fun hpos => ?_) | refine kG ?_ ?_ | exact kW2 | (first | refine stq ?_ | fail)))) <;> (try exact cl5)
      refine ⟨⟨i + 1, hlt⟩, by show l.length - (i + 1) < l.length - i; omega, ?_⟩
      show Ent _ _ (hdS [0, 1, 2, 4, 5, 7, 17, 18, 19, 20] _ _ _ [(0, .rsl 578 1 0 (3 :: (nml l.length ++ encs (l.take (i + 1)))).length), (19, .p (eI ((i + 1 : Nat) : Int)))] [(194, .dead), (578, .row 1 ((3 :: (nml l.length ++ encs (l.take (i + 1)))).map (.int .u8)))] _)
      rw [hnext]
      (refine Ent.ofAK [] ?_) <;> (repeat' (first | exact kQ1 | refine kHd ?_ | refine kHm rfl (by simp) rfl (fun h => AObj.noConfusion h) ?_ ?_ | refine And.intro ?_ ?_ | refine kVp ?_ | refine kVa ?_ | refine kVt ?_ | refine kVf ?_ ?_ | refine kVc ?_ ?_ | exact kQ2 | refine VLe.rsle rfl ?_ ?_ ?_ | refine kQw ?_ ?_ | refine kQm ?_ ?_ | refine kQj ?_ ?_ | refine kQc ?_ ?_ | refine kQs ?_ ?_ ?_)) <;> try exact kZ
end Go.Proofs.Ytgclicahmbgfiaa.Cd

namespace Go.Proofs.Ytgclicahmbgfiaa.Cd
open Go Go.Sg
/-- Small enough for everything. -/
structure Ok (v : Vl) : Prop where
  sm : Sm v
  nm : nums v
  sz : chkV v = 0 → (enc v).length ≤ 80000000
def encA (v : Vl) : List Int × Int := if chkV v = 0 then (enc v, 0) else ([], chkV v)
theorem chk_frm {v : Vl} (h : chkV v = 0) : frm v = true := by
  unfold chkV at h
  cases hf : frm v with
  | true => rfl
  | false => rw [hf] at h; cases h
theorem kind_of {k n : Int} {s : ByteArray} {l : List Vl} (h : frm (.mk k n s l) = true) : k = 1 ∨ k = 2 ∨ k = 3 := by
  by_cases h1 : k = 1
  · exact .inl h1
  · by_cases h2 : k = 2
    · exact .inr (.inl h2)
    · by_cases h3 : k = 3
      · exact .inr (.inr h3)
      · rw [frm_other h1 h2 h3] at h; cases h
theorem leE {z : Nat} {e : PV} : PV.le (.tup [.sl z true [], e]) (.tup [eB [], e]) := PV.le_tup (PV.leL_cons (PV.le_nil _ _ _) (PV.leL_refl _))
theorem leEnc (L : List Int) : LeG (.tup [.sl 1 false (List.take L.length (List.drop 0 (L.map (PV.int .u8)))), eI 0]) (.tup [eB L, eI 0]) :=
  LeG.of (by rw [List.drop_zero, List.take_of_length_le (by simp)]; rfl)
theorem encode_calls (v : Vl) (h : Ok v) : PCalls Try.prog 46 [eW v] (.tup [eB (encA v).1, eI (encA v).2]) := by
  have q1 := check_calls v h.sm
  unfold encA
  by_cases hc : chkV v = 0
  · rw [if_pos hc]
    rw [hc] at q1
    have hf := chk_frm hc
    have hz := h.sz hc
    have q2 := newWriter_calls
    have hnm := h.nm
    have hln := h.sm.1
    obtain ⟨k, n, s, l⟩ := v
    rcases kind_of hf with e | e | e <;> subst e
    · have q3 := wInt0 n hnm.1 s l
      refine PCalls.of (N := 19) (res := [.tmp 2, .tmp 3]) mixed Try.func46 rfl rfl rfl (by kernel_rfl) (by simp) [0, 1, 2, 3, 4, 8] ?_
      repeat' (first | exact cl1 | exact kE | (refine stx ?_; refine exU8 ?_) | ((with_reducible show callX _ _ _ _ _); (first | refine call_p (q1) (by kernel_rfl) rfl ?_ | refine call_i [] (q2) (by kernel_rfl) rfl rfl (by simp) (by simp) (by simp) (fun _ _ => rfl) (by simp) (by simp [keys]) ?_ | refine call_i [] (q3) (by kernel_rfl) rfl rfl (by simp) (by simp) (by simp) (fun _ _ => rfl) (by simp) (by simp [keys]) ?_)) | ((fail_if_success refine stp ?_); (conv => whnf) <;> (first | exact cl2 | refine kX ?_ | refine kP ?_ | refine kBd (fun hc => ?_) (fun hc => ?_) | refine kT ?_ | refine kF ?_ | refine kN ?_ | refine kBm (fun hc => ?_) (fun hc => ?_) | refine kO ?_ | refine kS ?_ | refine kA ?_ | refine kC ?_ ?_ | refine And.intro ?_ ?_ | refine ix_map (fun x hx => ?_) | refine exU8 ?_ | refine nilc (fun hn => ?_) ?_ | exact kW1 | refine imp0 (fun hpos => ?_) | refine kG ?_ ?_ | exact kW2 | (first | refine stq ?_ | fail)))) <;> (try exact cl5)
      exact leEnc _
    · have hs' : s.size ≤ 90000000 := by
        have := bytes_len s
        rw [enc_text] at hz
        simp only [List.length_cons, List.length_append] at hz; omega
      have q3 := wText0 n s hs' l (by omega)
      refine PCalls.of (N := 19) (res := [.tmp 2, .tmp 3]) mixed Try.func46 rfl rfl rfl (by kernel_rfl) (by simp) [0, 1, 2, 3, 4, 8] ?_
      repeat' (first | exact cl1 | exact kE | (refine stx ?_; refine exU8 ?_) | ((with_reducible show callX _ _ _ _ _); (first | refine call_p (q1) (by kernel_rfl) rfl ?_ | refine call_i [] (q2) (by kernel_rfl) rfl rfl (by simp) (by simp) (by simp) (fun _ _ => rfl) (by simp) (by simp [keys]) ?_ | refine call_i [] (q3) (by kernel_rfl) rfl rfl (by simp) (by simp) (by simp) (fun _ _ => rfl) (by simp) (by simp [keys]) ?_)) | ((fail_if_success refine stp ?_); (conv => whnf) <;> (first | exact cl2 | refine kX ?_ | refine kP ?_ | refine kBd (fun hc => ?_) (fun hc => ?_) | refine kT ?_ | refine kF ?_ | refine kN ?_ | refine kBm (fun hc => ?_) (fun hc => ?_) | refine kO ?_ | refine kS ?_ | refine kA ?_ | refine kC ?_ ?_ | refine And.intro ?_ ?_ | refine ix_map (fun x hx => ?_) | refine exU8 ?_ | refine nilc (fun hn => ?_) ?_ | exact kW1 | refine imp0 (fun hpos => ?_) | refine kG ?_ ?_ | exact kW2 | (first | refine stq ?_ | fail)))) <;> (try exact cl5)
      exact leEnc _
    · have q3 := wList0 _ hf hnm hln rfl hz
      refine PCalls.of (N := 19) (res := [.tmp 2, .tmp 3]) mixed Try.func46 rfl rfl rfl (by kernel_rfl) (by simp) [0, 1, 2, 3, 4, 8] ?_
      repeat' (first | exact cl1 | exact kE | (refine stx ?_; refine exU8 ?_) | ((with_reducible show callX _ _ _ _ _); (first | refine call_p (q1) (by kernel_rfl) rfl ?_ | refine call_i [] (q2) (by kernel_rfl) rfl rfl (by simp) (by simp) (by simp) (fun _ _ => rfl) (by simp) (by simp [keys]) ?_ | refine call_i [512, 513] (q3) (by kernel_rfl) rfl rfl (by decide) cl6 (fun i hi => by match i, hi with | 0, _ => rfl | 1, _ => rfl) cl7 cl8 (by simp [keys]) ?_)) | ((fail_if_success refine stp ?_); (conv => whnf) <;> (first | exact cl2 | refine kX ?_ | refine kP ?_ | refine kBd (fun hc => ?_) (fun hc => ?_) | refine kT ?_ | refine kF ?_ | refine kN ?_ | refine kBm (fun hc => ?_) (fun hc => ?_) | refine kO ?_ | refine kS ?_ | refine kA ?_ | refine kC ?_ ?_ | refine And.intro ?_ ?_ | refine ix_map (fun x hx => ?_) | refine exU8 ?_ | refine nilc (fun hn => ?_) ?_ | exact kW1 | refine imp0 (fun hpos => ?_) | refine kG ?_ ?_ | exact kW2 | (first | refine stq ?_ | fail)))) <;> (try exact cl5)
      exact leEnc _
  · rw [if_neg hc]
    refine PCalls.of (N := 19) (res := [.tmp 2, .tmp 3]) mixed Try.func46 rfl rfl rfl (by kernel_rfl) (by simp) [0, 1, 2, 3, 4, 8] ?_
    repeat' (first | exact cl1 | exact kE | (refine stx ?_; refine exU8 ?_) | ((with_reducible show callX _ _ _ _ _); (first | refine call_p (q1) (by kernel_rfl) rfl ?_)) | ((fail_if_success refine stp ?_); (conv => whnf) <;> (first | exact cl2 | refine Br.dec (fun hh => ?_) (fun hh => absurd hc hh) | refine kX ?_ | refine kP ?_ | refine kBd (fun hc => ?_) (fun hc => ?_) | refine kT ?_ | refine kF ?_ | refine kN ?_ | refine kBm (fun hc => ?_) (fun hc => ?_) | refine kO ?_ | refine kS ?_ | refine kA ?_ | refine kC ?_ ?_ | refine And.intro ?_ ?_ | refine ix_map (fun x hx => ?_) | refine exU8 ?_ | refine nilc (fun hn => ?_) ?_ | exact kW1 | refine imp0 (fun hpos => ?_) | refine kG ?_ ?_ | exact kW2 | (first | refine stq ?_ | fail)))) <;> (try exact cl5)
    all_goals exact LeG.mk leE
end Go.Proofs.Ytgclicahmbgfiaa.Cd

namespace Go.Proofs.Ytgclicahmbgfiaa
open Go Go.Sg
open Cd
def vI (n : Int) : Vl := .mk 1 n ⟨#[]⟩ []
def vN (ns : List Int) : Vl := .mk 3 0 ⟨#[]⟩ (ns.map vI)
def vE (n : Int) : PV := .agg [eI 1, eI n, .str ⟨#[]⟩, .sl 0 true []]
def oVv (n : Nat) : List Int → AV
  | [] => .p (.sl 0 true [])
  | _ :: r => .rsl n 4 0 (r.length + 1)
def oHv (n : Nat) : List Int → Heap
  | [] => []
  | a :: r => [(n, .row 4 ((a :: r).map vE))]
theorem PV_le_sl {sz : Nat} {c : Bool} {a b : List PV} (hl : a.length = b.length) (h : ∀ (i : Nat) p q, a[i]? = some p → b[i]? = some q → Go.Sg.okE sz q ∧ PV.leL p.cells q.cells) : PV.le (.sl sz c a) (.sl sz c b) := fun F w v hv => by
  have get : ∀ (i : Nat) q, b[i]? = some q → ∃ p, a[i]? = some p := fun i q hq => ⟨_, List.getElem?_eq_getElem (by have := (List.getElem?_eq_some_iff.1 hq).1; omega)⟩
  cases hv with
  | esl ad cap sz clip h1 h2 h3 =>
    have : b = [] := List.length_eq_zero_iff.1 hl.symm
    subst this
    exact .esl ad cap _ _ h1 h2 h3
  | sl bk off len cap sz clip l cc hb h1 h2 h3 h4 h5 h6 h7 =>
    refine .sl bk off len cap sz c b cc hb (h1.trans hl) h2 h3 h4 (fun i q hq => ?_) (fun i q j y hq hy => ?_) (fun i q j y hq hy => ?_)
    · obtain ⟨p, hp⟩ := get i q hq
      exact (h i p q hp hq).1
    · obtain ⟨p, hp⟩ := get i q hq
      obtain ⟨e1, e2⟩ := (h i p q hp hq).2
      obtain ⟨x, hx⟩ : ∃ x, p.cells[j]? = some x := ⟨_, List.getElem?_eq_getElem (by have := (List.getElem?_eq_some_iff.1 hy).1; omega)⟩
      exact h6 i p j x hp hx
    · obtain ⟨p, hp⟩ := get i q hq
      obtain ⟨e1, e2⟩ := (h i p q hp hq).2
      obtain ⟨x, hx⟩ : ∃ x, p.cells[j]? = some x := ⟨_, List.getElem?_eq_getElem (by have := (List.getElem?_eq_some_iff.1 hy).1; omega)⟩
      exact e2 j x y hx hy F w _ (h7 i p j x hp hx)
theorem vE_le (ns : List Int) : PV.le (.sl 4 false (ns.map vE)) (.sl 4 false ((ns.map vI).map eV)) := by
  refine PV_le_sl (by simp) fun i p q hp hq => ?_
  rw [List.getElem?_map] at hp hq
  obtain ⟨n, hn, rfl⟩ := Option.map_eq_some_iff.1 hp
  rw [List.getElem?_map, hn] at hq
  injection hq with hq
  subst hq
  rw [eV_eq]
  refine ⟨?_, ?_⟩
  · exact ⟨rfl, fun c hc => by
      have hc : c ∈ [eI 1, eI n, PV.str ⟨#[]⟩, PV.sl 4 false []] := hc
      simp only [List.mem_cons, List.not_mem_nil, or_false] at hc
      rcases hc with rfl | rfl | rfl | rfl <;> rfl⟩
  · exact PV.leL_cons (PV.le_refl _) (PV.leL_cons (PV.le_refl _) (PV.leL_cons (PV.le_refl _) (PV.leL_cons (PV.le_nil _ _ _) PV.leL_nil)))
theorem numbers_calls (ns : List Int) (hl : ns.length < 1000000) : PCalls Try.prog 45 [eIs ns] (eW (vN ns)) := by
  refine PCalls.of (N := 22) (res := [.cell 2 57]) mixed Try.func45 rfl rfl rfl (by kernel_rfl) (by simp) [0, 2, 3, 5, 7, 8, 9, 10] ?_
  repeat' (first | exact cl1 | exact kE | (refine stx ?_; refine exU8 ?_) | ((fail_if_success refine stp ?_); (conv => whnf) <;> (first | exact cl2 | refine kX ?_ | refine kP ?_ | refine kBd (fun hc => ?_) (fun hc => ?_) | refine kT ?_ | refine kF ?_ | refine kN ?_ | refine kBm (fun hc => ?_) (fun hc => ?_) | refine kO ?_ | refine kS ?_ | refine kA ?_ | refine kC ?_ ?_ | refine And.intro ?_ ?_ | refine ix_map (fun x hx => ?_) | refine exU8 ?_ | refine nilc (fun hn => ?_) ?_ | exact kW1 | refine imp0 (fun hpos => ?_) | refine kG ?_ ?_ | exact kW2 | (first | refine stq ?_ | fail)))) <;> (try exact cl5)
  refine Wpc.loopA (α := {i : Nat // i ≤ ns.length}) mixed [0, 2, 3, 5, 7, 8, 9, 10] (fun i => [(9, .p (eI i.1))]) (fun i => (128, .cells [.p (eI 3), .p (eI 0), .p (.str ⟨#[]⟩), oVv 1 (ns.take i.1)]) :: oHv 1 (ns.take i.1)) (fun _ => 0) (fun i => ns.length - i.1) ⟨0, by omega⟩ ?_ ?_
  · (first | refine Ent.ofA [] ?_ | refine Ent.ofC [] ?_) <;> (repeat' (first | exact kQ1 | refine kHd ?_ | refine kHm rfl (by simp) rfl (fun h => AObj.noConfusion h) ?_ ?_ | refine And.intro ?_ ?_ | refine kVp ?_ | refine kVa ?_ | refine kVt ?_ | refine kVf ?_ ?_ | refine kVc ?_ ?_ | exact kQ2 | refine VLe.rsle rfl ?_ ?_ ?_ | refine kQw ?_ ?_ | refine kQm ?_ ?_ | refine kQj ?_ ?_ | refine kQc ?_ ?_ | refine kQs ?_ ?_ ?_)) <;> try exact kZ
  rintro ⟨i, hi⟩
  have hi : i ≤ ns.length := hi
  show lpE [(9, _)] _ _ fun e => lpH ((128, .cells [.p (eI 3), .p (eI 0), .p (.str ⟨#[]⟩), oVv 1 (ns.take i)]) :: oHv 1 (ns.take i)) _ [] fun h => _
  cases hxi : ns[i]? with
  | some y =>
    have hlt : i < ns.length := (List.getElem?_eq_some_iff.1 hxi).1
    have hyes : ((i : Int) < ((ns.map eI).length : Int)) := by rw [List.length_map]; omega
    have hta : ns.take (i + 1) = ns.take i ++ [y] := by rw [List.take_add_one, hxi]; rfl
    cases hG : ns.take i with
    | nil =>
      repeat' (first | exact cl1 | exact kE | (refine stx ?_; refine exU8 ?_) | ((fail_if_success refine stp ?_); (conv => whnf) <;> (first | exact cl2 | refine kBy hyes fun hc => ?_ | refine kX ?_ | refine kP ?_ | refine kBd (fun hc => ?_) (fun hc => ?_) | refine kT ?_ | refine kF ?_ | refine kN ?_ | refine kBm (fun hc => ?_) (fun hc => ?_) | refine kO ?_ | refine kS ?_ | refine kA ?_ | refine kC ?_ ?_ | refine And.intro ?_ ?_ | refine ix_map (fun x hx => ?_) | refine exU8 ?_ | refine nilc (fun hn => ?_) ?_ | exact kW1 | refine imp0 (fun hpos => ?_) | refine kG ?_ ?_ | exact kW2 | (first | refine stq ?_ | fail)))) <;> (try exact cl5)
      all_goals (
        have hx : ns[i]? = some x := hx
        rw [hxi] at hx; injection hx with hx; subst hx)
      refine ⟨⟨i + 1, hlt⟩, by show ns.length - (i + 1) < ns.length - i; omega, ?_⟩
      show Ent _ _ (hdS [0, 2, 3, 5, 7, 8, 9, 10] _ _ _ [(9, .p (eI ((i + 1 : Nat) : Int)))] ((128, .cells [.p (eI 3), .p (eI 0), .p (.str ⟨#[]⟩), oVv 1 (ns.take (i + 1))]) :: oHv 1 (ns.take (i + 1))) _)
      rw [hta, hG]
      (first | refine Ent.ofA [] ?_ | refine Ent.ofC [] ?_) <;> (repeat' (first | exact kQ1 | refine kHd ?_ | refine kHm rfl (by simp) rfl (fun h => AObj.noConfusion h) ?_ ?_ | refine And.intro ?_ ?_ | refine kVp ?_ | refine kVa ?_ | refine kVt ?_ | refine kVf ?_ ?_ | refine kVc ?_ ?_ | exact kQ2 | refine VLe.rsle rfl ?_ ?_ ?_ | refine kQw ?_ ?_ | refine kQm ?_ ?_ | refine kQj ?_ ?_ | refine kQc ?_ ?_ | refine kQs ?_ ?_ ?_)) <;> try exact kZ
    | cons g gr =>
      have hgl : gr.length < 1000000 := by have h : (ns.take i).length ≤ ns.length := by rw [List.length_take]; omega
                                           rw [hG] at h; simp at h; omega
      repeat' (first | exact cl1 | exact kE | (refine stx ?_; refine exU8 ?_) | ((fail_if_success refine stp ?_); (conv => whnf) <;> (first | exact cl2 | refine kBy hyes fun hc => ?_ | refine kX ?_ | refine kP ?_ | refine kBd (fun hc => ?_) (fun hc => ?_) | refine kT ?_ | refine kF ?_ | refine kN ?_ | refine kBm (fun hc => ?_) (fun hc => ?_) | refine kO ?_ | refine kS ?_ | refine kA ?_ | refine kC ?_ ?_ | refine And.intro ?_ ?_ | refine ix_map (fun x hx => ?_) | refine exU8 ?_ | refine nilc (fun hn => ?_) ?_ | exact kW1 | refine imp0 (fun hpos => ?_) | refine kG ?_ ?_ | exact kW2 | (first | refine stq ?_ | fail)))) <;> (try exact cl5)
      all_goals (
        have hx : ns[i]? = some x := hx
        rw [hxi] at hx; injection hx with hx; subst hx)
      refine ⟨⟨i + 1, hlt⟩, by show ns.length - (i + 1) < ns.length - i; omega, ?_⟩
      show Ent _ _ (hdS [0, 2, 3, 5, 7, 8, 9, 10] _ _ _ [(9, .p (eI ((i + 1 : Nat) : Int)))] ((128, .cells [.p (eI 3), .p (eI 0), .p (.str ⟨#[]⟩), oVv 1 (ns.take (i + 1))]) :: oHv 1 (ns.take (i + 1))) _)
      rw [hta, hG]
      (first | refine Ent.ofA [] ?_ | refine Ent.ofC [] ?_) <;> (repeat' (first | exact kQ1 | refine kHd ?_ | refine kHm rfl (by simp) rfl (fun h => AObj.noConfusion h) ?_ ?_ | refine And.intro ?_ ?_ | refine kVp ?_ | refine kVa ?_ | refine kVt ?_ | refine kVf ?_ ?_ | refine kVc ?_ ?_ | exact kQ2 | refine VLe.rsle rfl ?_ ?_ ?_ | refine kQw ?_ ?_ | refine kQm ?_ ?_ | refine kQj ?_ ?_ | refine kQc ?_ ?_ | refine kQs ?_ ?_ ?_)) <;> try exact kZ
      all_goals (try (show List.map vE (g :: gr) ++ [vE y] = List.map vE (g :: (gr ++ [y])); simp; done))
  | none =>
    have hge : ns.length ≤ i := List.getElem?_eq_none_iff.1 hxi
    have hno : ¬ ((i : Int) < ((ns.map eI).length : Int)) := by rw [List.length_map]; omega
    have hil : ns.take i = ns := List.take_of_length_le hge
    cases hG : ns.take i with
    | nil =>
      have h0 : ns = [] := by rw [← hil, hG]
      repeat' (first | exact cl1 | exact kE | (refine stx ?_; refine exU8 ?_) | ((fail_if_success refine stp ?_); (conv => whnf) <;> (first | exact cl2 | refine kBn hno fun hc => ?_ | refine kX ?_ | refine kP ?_ | refine kBd (fun hc => ?_) (fun hc => ?_) | refine kT ?_ | refine kF ?_ | refine kN ?_ | refine kBm (fun hc => ?_) (fun hc => ?_) | refine kO ?_ | refine kS ?_ | refine kA ?_ | refine kC ?_ ?_ | refine And.intro ?_ ?_ | refine ix_map (fun x hx => ?_) | refine exU8 ?_ | refine nilc (fun hn => ?_) ?_ | exact kW1 | refine imp0 (fun hpos => ?_) | refine kG ?_ ?_ | exact kW2 | (first | refine stq ?_ | fail)))) <;> (try exact cl5)
      rw [h0]
      exact LeG.mk (PV.le_agg (PV.leL_cons (PV.le_refl _) (PV.leL_cons (PV.le_refl _) (PV.leL_cons (PV.le_refl _) (PV.leL_cons (PV.le_nil _ _ _) PV.leL_nil)))))
    | cons g gr =>
      have hns : ns = g :: gr := by rw [← hil, hG]
      repeat' (first | exact cl1 | exact kE | (refine stx ?_; refine exU8 ?_) | ((fail_if_success refine stp ?_); (conv => whnf) <;> (first | exact cl2 | refine kBn hno fun hc => ?_ | refine kX ?_ | refine kP ?_ | refine kBd (fun hc => ?_) (fun hc => ?_) | refine kT ?_ | refine kF ?_ | refine kN ?_ | refine kBm (fun hc => ?_) (fun hc => ?_) | refine kO ?_ | refine kS ?_ | refine kA ?_ | refine kC ?_ ?_ | refine And.intro ?_ ?_ | refine ix_map (fun x hx => ?_) | refine exU8 ?_ | refine nilc (fun hn => ?_) ?_ | exact kW1 | refine imp0 (fun hpos => ?_) | refine kG ?_ ?_ | exact kW2 | (first | refine stq ?_ | fail)))) <;> (try exact cl5)
      rw [hns]
      refine LeG.mk (PV.le_agg (PV.leL_cons (PV.le_refl _) (PV.leL_cons (PV.le_refl _) (PV.leL_cons (PV.le_refl _) (PV.leL_cons ?_ PV.leL_nil)))))
      rw [List.drop_zero, List.take_of_length_le (by simp)]
      exact vE_le (g :: gr)
theorem numbers_icalls (ns : List Int) (hl : ns.length < 1000000) (h0 : ns ≠ []) : ICalls Try.prog 45 1 [(0, .row 1 (ns.map eI))] [.rsl 0 1 0 ns.length] (.agg [.p (eI 3), .p (eI 0), .p (.str ⟨#[]⟩), .rsl 1 4 0 ns.length]) [(0, .row 1 (ns.map eI)), (1, .row 4 (ns.map vE))] := by
  refine ICalls.of (N := 22) (res := [.cell 2 57]) mixed Try.func45 rfl rfl rfl (by kernel_rfl) (by simp) [0, 2, 3, 5, 7, 8, 9, 10] (Nat.le_refl _) ?_
  repeat' (first | exact cl1 | exact kE | (refine stx ?_; refine exU8 ?_) | ((fail_if_success refine stp ?_); (conv => whnf) <;> (first | exact cl2 | refine kX ?_ | refine kP ?_ | refine kBd (fun hc => ?_) (fun hc => ?_) | refine kT ?_ | refine kF ?_ | refine kN ?_ | refine kBm (fun hc => ?_) (fun hc => ?_) | refine kO ?_ | refine kS ?_ | refine kA ?_ | refine kC ?_ ?_ | refine And.intro ?_ ?_ | refine ix_map (fun x hx => ?_) | refine exU8 ?_ | refine nilc (fun hn => ?_) ?_ | exact kW1 | refine imp0 (fun hpos => ?_) | refine kG ?_ ?_ | exact kW2 | (first | refine stq ?_ | fail)))) <;> (try exact cl5)
  refine Wpc.loopA (α := {i : Nat // i ≤ ns.length}) mixed [0, 2, 3, 5, 7, 8, 9, 10] (fun i => [(9, .p (eI i.1))]) (fun i => (129, .cells [.p (eI 3), .p (eI 0), .p (.str ⟨#[]⟩), oVv 7 (ns.take i.1)]) :: oHv 7 (ns.take i.1)) (fun _ => 0) (fun i => ns.length - i.1) ⟨0, by omega⟩ ?_ ?_
  · (refine Ent.ofAK [] ?_) <;> (repeat' (first | exact kQ1 | refine kHd ?_ | refine kHm rfl (by simp) rfl (fun h => AObj.noConfusion h) ?_ ?_ | refine And.intro ?_ ?_ | refine kVp ?_ | refine kVa ?_ | refine kVt ?_ | refine kVf ?_ ?_ | refine kVc ?_ ?_ | exact kQ2 | refine VLe.rsle rfl ?_ ?_ ?_ | refine kQw ?_ ?_ | refine kQm ?_ ?_ | refine kQj ?_ ?_ | refine kQc ?_ ?_ | refine kQs ?_ ?_ ?_)) <;> try exact kZ
  rintro ⟨i, hi⟩
  have hi : i ≤ ns.length := hi
  show lpE [(9, _)] _ _ fun e => lpH ((129, .cells [.p (eI 3), .p (eI 0), .p (.str ⟨#[]⟩), oVv 7 (ns.take i)]) :: oHv 7 (ns.take i)) _ [] fun h => _
  cases hxi : ns[i]? with
  | some y =>
    have hlt : i < ns.length := (List.getElem?_eq_some_iff.1 hxi).1
    have hyes : ((i : Int) < (ns.length : Int)) := by omega
    have hta : ns.take (i + 1) = ns.take i ++ [y] := by rw [List.take_add_one, hxi]; rfl
    cases hG : ns.take i with
    | nil =>
      repeat' (first | exact cl1 | exact kE | (refine stx ?_; refine exU8 ?_) | ((fail_if_success refine stp ?_); (conv => whnf) <;> (first | exact cl2 | refine kBy hyes fun hc => ?_ | refine kX ?_ | refine kP ?_ | refine kBd (fun hc => ?_) (fun hc => ?_) | refine kT ?_ | refine kF ?_ | refine kN ?_ | refine kBm (fun hc => ?_) (fun hc => ?_) | refine kO ?_ | refine kS ?_ | refine kA ?_ | refine kC ?_ ?_ | refine And.intro ?_ ?_ | refine ix_map (fun x hx => ?_) | refine exU8 ?_ | refine nilc (fun hn => ?_) ?_ | exact kW1 | refine imp0 (fun hpos => ?_) | refine kG ?_ ?_ | exact kW2 | (first | refine stq ?_ | fail)))) <;> (try exact cl5)
      all_goals (
        have hx : ns[0 + (i : Int).toNat]? = some x := hx
        rw [show 0 + (i : Int).toNat = i by omega] at hx
        rw [hxi] at hx; injection hx with hx; subst hx)
      refine ⟨⟨i + 1, hlt⟩, by show ns.length - (i + 1) < ns.length - i; omega, ?_⟩
      show Ent _ _ (hdS [0, 2, 3, 5, 7, 8, 9, 10] _ _ _ [(9, .p (eI ((i + 1 : Nat) : Int)))] ((129, .cells [.p (eI 3), .p (eI 0), .p (.str ⟨#[]⟩), oVv 7 (ns.take (i + 1))]) :: oHv 7 (ns.take (i + 1))) _)
      rw [hta, hG]
      (refine Ent.ofAK [] ?_) <;> (repeat' (first | exact kQ1 | refine kHd ?_ | refine kHm rfl (by simp) rfl (fun h => AObj.noConfusion h) ?_ ?_ | refine And.intro ?_ ?_ | refine kVp ?_ | refine kVa ?_ | refine kVt ?_ | refine kVf ?_ ?_ | refine kVc ?_ ?_ | exact kQ2 | refine VLe.rsle rfl ?_ ?_ ?_ | refine kQw ?_ ?_ | refine kQm ?_ ?_ | refine kQj ?_ ?_ | refine kQc ?_ ?_ | refine kQs ?_ ?_ ?_)) <;> try exact kZ
    | cons g gr =>
      have hgl : gr.length < 1000000 := by have h : (ns.take i).length ≤ ns.length := by rw [List.length_take]; omega
                                           rw [hG] at h; simp at h; omega
      repeat' (first | exact cl1 | exact kE | (refine stx ?_; refine exU8 ?_) | ((fail_if_success refine stp ?_); (conv => whnf) <;> (first | exact cl2 | refine kBy hyes fun hc => ?_ | refine kX ?_ | refine kP ?_ | refine kBd (fun hc => ?_) (fun hc => ?_) | refine kT ?_ | refine kF ?_ | refine kN ?_ | refine kBm (fun hc => ?_) (fun hc => ?_) | refine kO ?_ | refine kS ?_ | refine kA ?_ | refine kC ?_ ?_ | refine And.intro ?_ ?_ | refine ix_map (fun x hx => ?_) | refine exU8 ?_ | refine nilc (fun hn => ?_) ?_ | exact kW1 | refine imp0 (fun hpos => ?_) | refine kG ?_ ?_ | exact kW2 | (first | refine stq ?_ | fail)))) <;> (try exact cl5)
      all_goals (
        have hx : ns[0 + (i : Int).toNat]? = some x := hx
        rw [show 0 + (i : Int).toNat = i by omega] at hx
        rw [hxi] at hx; injection hx with hx; subst hx)
      refine ⟨⟨i + 1, hlt⟩, by show ns.length - (i + 1) < ns.length - i; omega, ?_⟩
      show Ent _ _ (hdS [0, 2, 3, 5, 7, 8, 9, 10] _ _ _ [(9, .p (eI ((i + 1 : Nat) : Int)))] ((129, .cells [.p (eI 3), .p (eI 0), .p (.str ⟨#[]⟩), oVv 7 (ns.take (i + 1))]) :: oHv 7 (ns.take (i + 1))) _)
      rw [hta, hG]
      (refine Ent.ofAK [] ?_) <;> (repeat' (first | exact kQ1 | refine kHd ?_ | refine kHm rfl (by simp) rfl (fun h => AObj.noConfusion h) ?_ ?_ | refine And.intro ?_ ?_ | refine kVp ?_ | refine kVa ?_ | refine kVt ?_ | refine kVf ?_ ?_ | refine kVc ?_ ?_ | exact kQ2 | refine VLe.rsle rfl ?_ ?_ ?_ | refine kQw ?_ ?_ | refine kQm ?_ ?_ | refine kQj ?_ ?_ | refine kQc ?_ ?_ | refine kQs ?_ ?_ ?_)) <;> try exact kZ
      all_goals (try (show List.map vE (g :: gr) ++ [vE y] = List.map vE (g :: (gr ++ [y])); simp; done))
  | none =>
    have hge : ns.length ≤ i := List.getElem?_eq_none_iff.1 hxi
    have hno : ¬ ((i : Int) < (ns.length : Int)) := by omega
    have hil : ns.take i = ns := List.take_of_length_le hge
    cases hG : ns.take i with
    | nil =>
      exact absurd (by rw [← hil, hG]) h0
    | cons g gr =>
      have hns : ns = g :: gr := by rw [← hil, hG]
      repeat' (first | exact cl1 | exact kE | (refine stx ?_; refine exU8 ?_) | ((fail_if_success refine stp ?_); (conv => whnf) <;> (first | exact cl2 | refine kBn hno fun hc => ?_ | refine kX ?_ | refine kP ?_ | refine kBd (fun hc => ?_) (fun hc => ?_) | refine kT ?_ | refine kF ?_ | refine kN ?_ | refine kBm (fun hc => ?_) (fun hc => ?_) | refine kO ?_ | refine kS ?_ | refine kA ?_ | refine kC ?_ ?_ | refine And.intro ?_ ?_ | refine ix_map (fun x hx => ?_) | refine exU8 ?_ | refine nilc (fun hn => ?_) ?_ | exact kW1 | refine imp0 (fun hpos => ?_) | refine kG ?_ ?_ | exact kW2 | (first | refine stq ?_ | fail)))) <;> (try exact cl5)
      subst hns
      refine ⟨[], [(0, 0), (1, 7)], ?_, ?_, by decide, by simp, fun i hi => by match i, hi with | 0, _ => rfl⟩ <;> (repeat' (first | exact kQ1 | refine kHd ?_ | refine kHm rfl (by simp) rfl (fun h => AObj.noConfusion h) ?_ ?_ | refine And.intro ?_ ?_ | refine kVp ?_ | refine kVa ?_ | refine kVt ?_ | refine kVf ?_ ?_ | refine kVc ?_ ?_ | exact kQ2 | refine VLe.rsle rfl ?_ ?_ ?_ | refine kQw ?_ ?_ | refine kQm ?_ ?_ | refine kQj ?_ ?_ | refine kQc ?_ ?_ | refine kQs ?_ ?_ ?_))
end Go.Proofs.Ytgclicahmbgfiaa

namespace Go.Proofs.Ytgclicahmbgfiaa.Cd
open Go Go.Sg
theorem str_size (l : List Int) : (strOfNums l).size = l.length := by
  unfold strOfNums; simp [ByteArray.size]
theorem B8.cons {c : Int} {a : List Int} (h0 : 0 ≤ c) (h1 : c ≤ 255) (ha : B8 a) : B8 (c :: a) := fun x hx => by
  rcases List.mem_cons.1 hx with h | h
  · subst h; exact ⟨h0, h1⟩
  · exact ha x h
/-- Each part's encoding takes a byte at least. -/
theorem enc_pos (v : Vl) : 0 < (enc v).length := by
  obtain ⟨k, n, s, l⟩ := v
  rw [enc]
  split
  · simp
  · split <;> simp
theorem deps_le {l : List Vl} {k : Nat} : deps l ≤ k ↔ ∀ x ∈ l, dep x ≤ k := by
  induction l with
  | nil => simp [deps]
  | cons a r ih => rw [deps]; simp only [List.mem_cons, forall_eq_or_imp]; rw [← ih]; omega
/-- What is read: formed, not too deep, its numbers in range, its lists no longer than the text. -/
structure RdV (N k : Nat) (v : Vl) : Prop where
  f : frm v = true
  d : dep v ≤ k
  n : nums v
  l : lens N v
theorem lensL_of {N : Nat} {l : List Vl} (h : ∀ x ∈ l, lens N x) : lensL N l := by
  induction l with
  | nil => trivial
  | cons a r ih => exact ⟨h a (by simp), ih fun x hx => h x (by simp [hx])⟩
end Go.Proofs.Ytgclicahmbgfiaa.Cd

namespace Go.Proofs.Ytgclicahmbgfiaa
open Go Go.Sg
open Cd
def txL (x : Dc) : List Int := [x.tx 0, x.tx 1, x.tx 2, x.tx 3, x.tx 4, x.tx 5, x.tx 6, x.tx 7, x.tx 8, x.tx 9, x.tx 10, x.tx 11, x.tx 12, x.tx 13, x.tx 14, x.tx 15, x.tx 16, x.tx 17, x.tx 18, x.tx 19, x.tx 20, x.tx 21, x.tx 22, x.tx 23, x.tx 24, x.tx 25, x.tx 26, x.tx 27, x.tx 28, x.tx 29, x.tx 30, x.tx 31]
def vT (x : Dc) : Vl := .mk 2 0 (strOfNums (txL x)) []
def docV (x : Dc) : Vl := .mk 3 0 ⟨#[]⟩ ([vI x.no, vI x.tm, vI x.kind, vI x.val, vI x.frm, vI x.til] ++ [vN x.par, vN x.rev, vN x.need, vT x])
theorem bE : (⟨#[]⟩ : ByteArray) = ByteArray.empty := rfl
theorem vI_frm (n : Int) : frm (vI n) = true := by unfold vI; rw [frm_int, bE]; simp
theorem vN_frm (ns : List Int) : frm (vN ns) = true := by
  unfold vN; rw [frm_list, bE]
  have : (ns.map vI).all frm = true := List.all_eq_true.2 fun x hx => by
    obtain ⟨n, _, rfl⟩ := List.mem_map.1 hx; exact vI_frm n
  rw [this]; simp
theorem vT_frm (x : Dc) : frm (vT x) = true := by unfold vT; rw [frm_text]; simp
theorem doc_mem {x : Dc} {v : Vl} (h : v ∈ (docV x).l) : (∃ n, v = vI n ∧ n ∈ [x.no, x.tm, x.kind, x.val, x.frm, x.til]) ∨ (∃ ns, v = vN ns ∧ ns ∈ [x.par, x.rev, x.need]) ∨ v = vT x := by
  have h : v ∈ [vI x.no, vI x.tm, vI x.kind, vI x.val, vI x.frm, vI x.til] ++ [vN x.par, vN x.rev, vN x.need, vT x] := h
  simp only [List.cons_append, List.nil_append, List.mem_cons, List.not_mem_nil, or_false] at h
  rcases h with rfl | rfl | rfl | rfl | rfl | rfl | rfl | rfl | rfl | rfl
  · exact .inl ⟨_, rfl, by simp⟩
  · exact .inl ⟨_, rfl, by simp⟩
  · exact .inl ⟨_, rfl, by simp⟩
  · exact .inl ⟨_, rfl, by simp⟩
  · exact .inl ⟨_, rfl, by simp⟩
  · exact .inl ⟨_, rfl, by simp⟩
  · exact .inr (.inl ⟨_, rfl, by simp⟩)
  · exact .inr (.inl ⟨_, rfl, by simp⟩)
  · exact .inr (.inl ⟨_, rfl, by simp⟩)
  · exact .inr (.inr rfl)
theorem doc_frm (x : Dc) : frm (docV x) = true := by
  unfold docV; rw [frm_list, bE]
  have : ([vI x.no, vI x.tm, vI x.kind, vI x.val, vI x.frm, vI x.til] ++ [vN x.par, vN x.rev, vN x.need, vT x]).all frm = true := List.all_eq_true.2 fun v hv => by
    rcases doc_mem (x := x) (v := v) hv with ⟨n, rfl, _⟩ | ⟨ns, rfl, _⟩ | rfl
    · exact vI_frm n
    · exact vN_frm ns
    · exact vT_frm x
  rw [this]; simp
theorem vN_dep (ns : List Int) : dep (vN ns) ≤ 1 := by
  unfold vN; rw [dep_list]
  have : deps (ns.map vI) ≤ 0 := deps_le.2 fun v hv => by
    obtain ⟨n, _, rfl⟩ := List.mem_map.1 hv
    unfold vI; rw [dep_no (by decide)]; exact Nat.le_refl _
  omega
theorem doc_dep (x : Dc) : dep (docV x) ≤ 2 := by
  unfold docV; rw [dep_list]
  have : deps ([vI x.no, vI x.tm, vI x.kind, vI x.val, vI x.frm, vI x.til] ++ [vN x.par, vN x.rev, vN x.need, vT x]) ≤ 1 := deps_le.2 fun v hv => by
    rcases doc_mem (x := x) (v := v) hv with ⟨n, rfl, _⟩ | ⟨ns, rfl, _⟩ | rfl
    · unfold vI; rw [dep_no (by decide)]; omega
    · exact vN_dep ns
    · unfold vT; rw [dep_no (by decide)]; omega
  omega
theorem listB_f {m : Int} {P : List Int} (h : listB m P = true) : P.length ≤ 16 ∧ ∀ n ∈ P, 0 ≤ n ∧ n < m := by
  unfold listB okN at h
  rw [Bool.and_eq_true] at h
  obtain ⟨h1, h2⟩ := h
  rw [okFrom_iff] at h1
  refine ⟨of_decide_eq_true h2, fun n hn => ?_⟩
  have := (h1.1 n hn).1
  unfold wiB at this
  rw [Bool.and_eq_true] at this
  exact ⟨of_decide_eq_true this.1, of_decide_eq_true this.2⟩
structure RtF (x : Dc) : Prop where
  nm : ∀ n ∈ [x.no, x.tm, x.kind, x.val, x.frm, x.til], 0 ≤ n ∧ n < 4611686018427387904
  ls : ∀ P ∈ [x.par, x.rev, x.need], P.length ≤ 16 ∧ ∀ n ∈ P, 0 ≤ n ∧ n < 4611686018427387904
theorem rightA_f {x : Dc} (h : rightA x = true) : RtF x := by
  unfold rightA wiB at h
  simp only [Bool.and_eq_true, decide_eq_true_eq] at h
  obtain ⟨⟨⟨⟨⟨⟨a1, a2⟩, b1, b2⟩, c1, c2⟩, d1, d2⟩, ⟨e1, e2⟩, e3⟩, ⟨f1, f2⟩, f3⟩ := h
  have g0 : TM = 1099511627776 := rfl
  have g1 := listB_f f1
  have g2 := listB_f f2
  have g3 := listB_f f3
  refine ⟨fun n hn => ?_, fun P hP => ?_⟩
  · simp only [List.mem_cons, List.not_mem_nil, or_false] at hn
    rcases hn with rfl | rfl | rfl | rfl | rfl | rfl <;> omega
  · simp only [List.mem_cons, List.not_mem_nil, or_false] at hP
    rcases hP with rfl | rfl | rfl
    · exact ⟨g1.1, fun n hn => by have := g1.2 n hn; omega⟩
    · exact ⟨g2.1, fun n hn => by have := g2.2 n hn; omega⟩
    · exact ⟨g3.1, fun n hn => by have := g3.2 n hn; omega⟩
theorem i64_of {n : Int} (h : 0 ≤ n ∧ n < 4611686018427387904) : I64 n := by unfold I64; omega
theorem vI_enc {n : Int} (h : I64 n) : (enc (vI n)).length ≤ 11 := by
  unfold vI; rw [enc_int]
  have := nml_len64 (zz_lt h)
  simp; omega
theorem encs_bd {k : Nat} : ∀ {l : List Vl}, (∀ v ∈ l, (enc v).length ≤ k) → (encs l).length ≤ k * l.length
  | [], _ => by simp [encs]
  | v :: r, h => by
    have h1 := h v (by simp)
    have h2 := encs_bd (l := r) (fun w hw => h w (by simp [hw]))
    rw [encs, List.length_append, List.length_cons, Nat.mul_succ]; omega
theorem vN_enc {ns : List Int} (hl : ns.length ≤ 16) (h : ∀ n ∈ ns, 0 ≤ n ∧ n < 4611686018427387904) : (enc (vN ns)).length ≤ 200 := by
  unfold vN; rw [enc_list]
  have h1 := encs_bd (k := 11) (l := ns.map vI) fun v hv => by
    obtain ⟨n, hn, rfl⟩ := List.mem_map.1 hv; exact vI_enc (i64_of (h n hn))
  have h2 := nml_len64 (u := (ns.map vI).length) (by simp; omega)
  rw [List.length_map] at h1
  simp only [List.length_cons, List.length_append]; omega
theorem vT_enc (x : Dc) : (enc (vT x)).length ≤ 50 := by
  unfold vT; rw [enc_text]
  have h1 := str_size (txL x)
  have h0 : (txL x).length = 32 := rfl
  have h2 := nml_len64 (u := (strOfNums (txL x)).size) (by omega)
  have h3 := bytes_len (strOfNums (txL x))
  simp only [List.length_cons, List.length_append]; omega
theorem doc_enc {x : Dc} (h : RtF x) : (enc (docV x)).length ≤ 3000 := by
  have h1 := encs_bd (k := 200) (l := (docV x).l) fun v hv => by
    rcases doc_mem (x := x) (v := v) hv with ⟨n, rfl, hn⟩ | ⟨ns, rfl, hn⟩ | rfl
    · have := vI_enc (i64_of (h.nm n hn)); omega
    · exact vN_enc (h.ls ns hn).1 (h.ls ns hn).2
    · have := vT_enc x; omega
  have hl : (docV x).l.length = 10 := rfl
  have e : enc (docV x) = 3 :: (nml (docV x).l.length ++ encs (docV x).l) := by unfold docV; rw [enc_list]; rfl
  rw [e]
  have h2 := nml_len64 (u := (docV x).l.length) (by rw [hl]; decide)
  simp only [List.length_cons, List.length_append]; omega
theorem vI_lens (n : Int) : lens 5000 (vI n) := by unfold vI; exact ⟨by simp, trivial⟩
theorem vN_lens {ns : List Int} (hl : ns.length ≤ 16) : lens 5000 (vN ns) := by
  unfold vN
  refine ⟨by simp; omega, lensL_of fun v hv => ?_⟩
  obtain ⟨n, _, rfl⟩ := List.mem_map.1 hv; exact vI_lens n
theorem vI_nums {n : Int} (h : I64 n) : nums (vI n) := by unfold vI; exact ⟨h, trivial⟩
theorem i64_0 : I64 0 := by unfold I64; omega
theorem vN_nums {ns : List Int} (h : ∀ n ∈ ns, 0 ≤ n ∧ n < 4611686018427387904) : nums (vN ns) := by
  unfold vN
  refine ⟨i64_0, numsL_of fun v hv => ?_⟩
  obtain ⟨n, hn, rfl⟩ := List.mem_map.1 hv; exact vI_nums (i64_of (h n hn))
theorem doc_ok {x : Dc} (h : RtF x) : Ok (docV x) where
  sm := ⟨⟨Nat.le_of_ble_eq_true rfl, lensL_of fun v hv => by
    rcases doc_mem (x := x) (v := v) hv with ⟨n, rfl, hn⟩ | ⟨ns, rfl, hn⟩ | rfl
    · exact vI_lens n
    · exact vN_lens (h.ls ns hn).1
    · unfold vT; exact ⟨by simp, trivial⟩⟩, by have := doc_dep x; omega⟩
  nm := ⟨i64_0, numsL_of fun v hv => by
    rcases doc_mem (x := x) (v := v) hv with ⟨n, rfl, hn⟩ | ⟨ns, rfl, hn⟩ | rfl
    · exact vI_nums (i64_of (h.nm n hn))
    · exact vN_nums (h.ls ns hn).2
    · unfold vT; exact ⟨i64_0, trivial⟩⟩
  sz := fun _ => by have := doc_enc h; omega
theorem doc_chk (x : Dc) : chkV (docV x) = 0 := by
  unfold chkV
  rw [doc_frm x, if_pos rfl, if_neg (by have := doc_dep x; omega)]
def textA (x : Dc) : List Int × Int := if rightA x then (enc (docV x), 0) else ([], 170)
theorem enc_doc (x : Dc) : encA (docV x) = (enc (docV x), 0) := by unfold encA; rw [if_pos (doc_chk x)]
theorem docE (x : Dc) : (docV x).l.map eV = [eW (vI x.no), eW (vI x.tm), eW (vI x.kind), eW (vI x.val), eW (vI x.frm), eW (vI x.til), eW (vN x.par), eW (vN x.rev), eW (vN x.need), eW (vT x)] := by
  show List.map eV ([vI x.no, vI x.tm, vI x.kind, vI x.val, vI x.frm, vI x.til] ++ [vN x.par, vN x.rev, vN x.need, vT x]) = _
  simp only [List.cons_append, List.nil_append, List.map_cons, List.map_nil, eV_eq]
def ElE (p q : PV) : Prop := Go.Sg.okE 4 q ∧ PV.leL p.cells q.cells
def ElL : List PV → List PV → Prop
  | [], [] => True
  | p :: a, q :: b => ElE p q ∧ ElL a b
  | _, _ => False
theorem ElL_len : ∀ {a b : List PV}, ElL a b → a.length = b.length
  | [], [], _ => rfl
  | _ :: _, _ :: _, h => by simp [ElL_len h.2]
  | [], _ :: _, h => h.elim
  | _ :: _, [], h => h.elim
theorem ElL_get : ∀ {a b : List PV}, ElL a b → ∀ (i : Nat) p q, a[i]? = some p → b[i]? = some q → ElE p q
  | p :: a, q :: b, h, 0, _, _, hp, hq => by
    simp at hp hq; subst hp; subst hq; exact h.1
  | p :: a, q :: b, h, i + 1, p', q', hp, hq => by
    simp at hp hq; exact ElL_get h.2 i p' q' hp hq
  | [], _, _, i, p, q, hp, _ => by simp at hp
  | _ :: _, [], h, _, _, _, _, _ => h.elim
theorem one4 {a b : Int} {s : ByteArray} {l : List PV} : Go.Sg.okE 4 (.agg [eI a, eI b, .str s, .sl 4 false l]) := ⟨rfl, fun c hc => by
  have hc : c ∈ [eI a, eI b, PV.str s, PV.sl 4 false l] := hc
  simp only [List.mem_cons, List.not_mem_nil, or_false] at hc
  rcases hc with rfl | rfl | rfl | rfl <;> rfl⟩
theorem vE_el (n : Int) : ElE (vE n) (eW (vI n)) := ⟨one4, PV.leL_cons (PV.le_refl _) (PV.leL_cons (PV.le_refl _) (PV.leL_cons (PV.le_refl _) (PV.leL_cons (PV.le_nil _ _ _) PV.leL_nil)))⟩
theorem vN_el (ns : List Int) : ElE (eW (vN ns)) (eW (vN ns)) := ⟨one4, PV.leL_refl _⟩
theorem vT_el (x : Dc) : ElE (.agg [eI 2, eI 0, .str (strOfNums (txL x)), .sl 0 true []]) (eW (vT x)) := ⟨one4, PV.leL_cons (PV.le_refl _) (PV.leL_cons (PV.le_refl _) (PV.leL_cons (PV.le_refl _) (PV.leL_cons (PV.le_nil _ _ _) PV.leL_nil)))⟩
theorem doc_le (x : Dc) : PV.le (.agg [eI 3, eI 0, .str ⟨#[]⟩, .sl 4 false [vE x.no, vE x.tm, vE x.kind, vE x.val, vE x.frm, vE x.til, eW (vN x.par), eW (vN x.rev), eW (vN x.need), .agg [eI 2, eI 0, .str (strOfNums (txL x)), .sl 0 true []]]]) (eW (docV x)) := by
  have e : eW (docV x) = .agg [eI 3, eI 0, .str ⟨#[]⟩, .sl 4 false ((docV x).l.map eV)] := rfl
  rw [e, docE]
  refine PV.le_agg (PV.leL_cons (PV.le_refl _) (PV.leL_cons (PV.le_refl _) (PV.leL_cons (PV.le_refl _) (PV.leL_cons ?_ PV.leL_nil))))
  have hE : ElL [vE x.no, vE x.tm, vE x.kind, vE x.val, vE x.frm, vE x.til, eW (vN x.par), eW (vN x.rev), eW (vN x.need), .agg [eI 2, eI 0, .str (strOfNums (txL x)), .sl 0 true []]] [eW (vI x.no), eW (vI x.tm), eW (vI x.kind), eW (vI x.val), eW (vI x.frm), eW (vI x.til), eW (vN x.par), eW (vN x.rev), eW (vN x.need), eW (vT x)] :=
    ⟨vE_el _, vE_el _, vE_el _, vE_el _, vE_el _, vE_el _, vN_el _, vN_el _, vN_el _, vT_el _, trivial⟩
  exact PV_le_sl (ElL_len hE) (ElL_get hE)
theorem text_calls (x : Dc) (h1 : x.par.length < 1000000) (h2 : x.rev.length < 1000000) (h3 : x.need.length < 1000000) : PCalls Try.prog 15 [eA x] (.tup [eB (textA x).1, eI (textA x).2]) := by
  have q1 := right_calls x (by omega) (by omega) (by omega)
  have q2 := numbers_icalls [x.no, x.tm, x.kind, x.val, x.frm, x.til] (by simp) (by simp)
  have q3 := numbers_calls x.par h1
  have q4 := numbers_calls x.rev h2
  have q5 := numbers_calls x.need h3
  unfold textA
  cases hr : rightA x with
  | false =>
    rw [hr] at q1
    refine PCalls.of (N := 44) (res := [.tmp 2, .tmp 3]) mixed Try.func15 rfl rfl rfl (by kernel_rfl) (by simp) [0, 1, 2, 3, 4, 7] ?_
    repeat' (first | exact cl1 | (refine stx ?_; first | exact exHM _ | refine exU8 ?_) | ((with_reducible show callX _ _ _ _ _); (first | refine call_p (q1) (by kernel_rfl) rfl ?_)) | ((fail_if_success refine stp ?_); (conv => whnf) <;> (first | exact cl2 | refine kX ?_ | refine kP ?_ | refine kBd (fun hc => ?_) (fun hc => ?_) | refine kT ?_ | refine kF ?_ | refine kN ?_ | refine kBm (fun hc => ?_) (fun hc => ?_) | refine kO ?_ | refine kS ?_ | refine kA ?_ | exact PV.leL_nil | refine kC ?_ ?_ | refine And.intro ?_ ?_ | refine ix_map (fun x hx => ?_) | refine exU8 ?_ | refine nilc (fun hn => ?_) ?_ | exact cl3 | refine imp0 (fun hpos => ?_) | refine kG ?_ ?_ | exact rfl | exact trivial | (first | refine stq ?_ | fail)))) <;> (try exact cl5)
    all_goals exact LeG.mk leE
  | true =>
    rw [hr] at q1
    have q6 := encode_calls (docV x) (doc_ok (rightA_f hr))
    rw [enc_doc] at q6
    refine PCalls.of (N := 44) (res := [.tmp 2, .tmp 3]) mixed Try.func15 rfl rfl rfl (by kernel_rfl) (by simp) [0, 1, 2, 3, 4, 7] ?_
    repeat' (first | exact cl1 | (refine stx ?_; first | exact exHM _ | refine exU8 ?_) | ((with_reducible show callX _ _ _ _ _); (first | refine call_p (q1) (by kernel_rfl) rfl ?_ | refine call_i [1152] (q2) (by kernel_rfl) rfl rfl (by decide) cl6 (fun i hi => by match i, hi with | 0, _ => rfl) cl7 cl8 (by simp [keys]) ?_ | refine call_p (q3) (by kernel_rfl) rfl ?_ | refine call_p (q4) (by kernel_rfl) rfl ?_ | refine call_p (q5) (by kernel_rfl) rfl ?_)) | ((fail_if_success refine stp ?_); (conv => whnf) <;> (first | exact cl2 | refine kX ?_ | refine kP ?_ | refine kBd (fun hc => ?_) (fun hc => ?_) | refine kT ?_ | refine kF ?_ | refine kN ?_ | refine kBm (fun hc => ?_) (fun hc => ?_) | refine kO ?_ | refine kS ?_ | refine kA ?_ | exact PV.leL_nil | refine kC ?_ ?_ | refine And.intro ?_ ?_ | refine ix_map (fun x hx => ?_) | refine exU8 ?_ | refine nilc (fun hn => ?_) ?_ | exact cl3 | refine imp0 (fun hpos => ?_) | refine kG ?_ ?_ | exact rfl | exact trivial | (first | refine stq ?_ | fail)))) <;> (try exact cl5)
    refine ⟨txL x, rfl, ?_⟩
    repeat' (first | exact cl1 | (refine stx ?_; first | exact exHM _ | refine exU8 ?_) | ((with_reducible show callX _ _ _ _ _); (first | refine call_z q6 (by kernel_rfl) rfl ?_)) | ((fail_if_success refine stp ?_); (conv => whnf) <;> (first | exact cl2 | refine kX ?_ | refine kP ?_ | refine kBd (fun hc => ?_) (fun hc => ?_) | refine kT ?_ | refine kF ?_ | refine kN ?_ | refine kBm (fun hc => ?_) (fun hc => ?_) | refine kO ?_ | refine kS ?_ | refine kA ?_ | exact PV.leL_nil | refine kC ?_ ?_ | refine And.intro ?_ ?_ | refine ix_map (fun x hx => ?_) | refine exU8 ?_ | refine nilc (fun hn => ?_) ?_ | refine call_z q6 (by kernel_rfl) rfl ?_ | exact cl3 | refine imp0 (fun hpos => ?_) | refine kG ?_ ?_ | exact rfl | exact trivial | (first | refine stq ?_ | fail)))) <;> (try exact cl5)
    exact doc_le x
end Go.Proofs.Ytgclicahmbgfiaa

namespace Go.Proofs.Ytgclicahmbgfiaa
open Go Go.Sg
def txB (x y : Dc) : Bool := (decide (x.tx 0 = y.tx 0) && (decide (x.tx 1 = y.tx 1) && (decide (x.tx 2 = y.tx 2) && (decide (x.tx 3 = y.tx 3) && (decide (x.tx 4 = y.tx 4) && (decide (x.tx 5 = y.tx 5) && (decide (x.tx 6 = y.tx 6) && (decide (x.tx 7 = y.tx 7) && (decide (x.tx 8 = y.tx 8) && (decide (x.tx 9 = y.tx 9) && (decide (x.tx 10 = y.tx 10) && (decide (x.tx 11 = y.tx 11) && (decide (x.tx 12 = y.tx 12) && (decide (x.tx 13 = y.tx 13) && (decide (x.tx 14 = y.tx 14) && (decide (x.tx 15 = y.tx 15) && (decide (x.tx 16 = y.tx 16) && (decide (x.tx 17 = y.tx 17) && (decide (x.tx 18 = y.tx 18) && (decide (x.tx 19 = y.tx 19) && (decide (x.tx 20 = y.tx 20) && (decide (x.tx 21 = y.tx 21) && (decide (x.tx 22 = y.tx 22) && (decide (x.tx 23 = y.tx 23) && (decide (x.tx 24 = y.tx 24) && (decide (x.tx 25 = y.tx 25) && (decide (x.tx 26 = y.tx 26) && (decide (x.tx 27 = y.tx 27) && (decide (x.tx 28 = y.tx 28) && (decide (x.tx 29 = y.tx 29) && (decide (x.tx 30 = y.tx 30) && decide (x.tx 31 = y.tx 31))))))))))))))))))))))))))))))))
def numB (x y : Dc) : Bool := decide (x.no = y.no) && decide (x.tm = y.tm) && decide (x.kind = y.kind) && decide (x.val = y.val) && decide (x.frm = y.frm) && decide (x.til = y.til)
def lisB (x y : Dc) : Bool := decide (x.par = y.par) && decide (x.rev = y.rev) && decide (x.need = y.need)
def sameDB (x y : Dc) : Bool := numB x y && lisB x y && txB x y
theorem sameDB_refl (x : Dc) : sameDB x x = true := by simp [sameDB, numB, lisB, txB]
theorem sameD_calls (x y : Dc) (h1 : x.par.length < 1000000) (h2 : x.rev.length < 1000000) (h3 : x.need.length < 1000000) : PCalls Try.prog 32 [eA x, eA y] (.bool (sameDB x y)) := by
  have q1 := sameI_calls x.par y.par h1
  have q2 := sameI_calls x.rev y.rev h2
  have q3 := sameI_calls x.need y.need h3
  refine PCalls.of (N := 73) (res := [.tmp 4]) mixed Try.func32 rfl rfl rfl (by kernel_rfl) (by simp) [0, 1, 2, 3, 4] ?_
  repeat' (first | exact cl1 | (refine stx ?_; first | exact exHM _ | refine exU8 ?_) | ((with_reducible show callX _ _ _ _ _); (first | refine call_p (q1) (by kernel_rfl) rfl ?_ | refine call_p (q2) (by kernel_rfl) rfl ?_ | refine call_p (q3) (by kernel_rfl) rfl ?_)) | ((fail_if_success refine stp ?_); (conv => whnf) <;> (first | exact cl2 | refine kX ?_ | refine kP ?_ | refine kBd (fun hc => ?_) (fun hc => ?_) | refine kT ?_ | refine kF ?_ | refine kN ?_ | refine kBm (fun hc => ?_) (fun hc => ?_) | refine kO ?_ | refine kS ?_ | refine kA ?_ | exact PV.leL_nil | refine kC ?_ ?_ | refine And.intro ?_ ?_ | refine ix_map (fun x hx => ?_) | refine exU8 ?_ | refine nilc (fun hn => ?_) ?_ | exact cl3 | refine imp0 (fun hpos => ?_) | refine kG ?_ ?_ | exact rfl | exact trivial | (first | refine stq ?_ | fail)))) <;> (try exact cl5)
  all_goals first
  | (refine LeG.bool ?_
     have hn : numB x y = true := by simp [numB, *]
     have hl : lisB x y = true := by simp [lisB, *]
     unfold sameDB
     rw [hn, hl]
     rfl)
  | (have hn : sameDB x y = false := by simp [sameDB, numB, lisB, *]
     rw [hn]; exact LeG.refl _)
def sameLB : List Dc → List Dc → Bool
  | [], [] => true
  | x :: r, y :: s => sameDB x y && sameLB r s
  | _, _ => false
theorem sameLB_refl : ∀ l, sameLB l l = true
  | [] => rfl
  | x :: r => by rw [sameLB, sameDB_refl, sameLB_refl r]; rfl
theorem sameLB_len : ∀ {a b : List Dc}, a.length ≠ b.length → sameLB a b = false
  | [], [], h => absurd rfl h
  | [], _ :: _, _ => rfl
  | _ :: _, [], _ => rfl
  | x :: r, y :: s, h => by rw [sameLB, sameLB_len (a := r) (b := s) (fun e => h (by simp [e])), Bool.and_false]
theorem same_calls (a b : List Dc) (hl : a.length < 1000000) (hd : ∀ x ∈ a, x.par.length < 1000000 ∧ x.rev.length < 1000000 ∧ x.need.length < 1000000) : PCalls Try.prog 19 [eL a, eL b] (.bool (sameLB a b)) := by
  by_cases hab : a.length = b.length
  case neg =>
    have h : ((a.map eA).length : Int) ≠ ((b.map eA).length : Int) := by simp only [List.length_map]; omega
    rw [sameLB_len hab]
    refine PCalls.of (N := 27) (res := [.tmp 4]) mixed Try.func19 rfl rfl rfl (by kernel_rfl) (by simp) [0, 1, 4, 5, 10, 14, 26] ?_
    repeat' (first | exact cl1 | (refine stx ?_; first | exact exHM _ | refine exU8 ?_) | ((fail_if_success refine stp ?_); (conv => whnf) <;> (first | exact cl2 | refine kBy h fun hc => ?_ | refine kX ?_ | refine kP ?_ | refine kBd (fun hc => ?_) (fun hc => ?_) | refine kT ?_ | refine kF ?_ | refine kN ?_ | refine kBm (fun hc => ?_) (fun hc => ?_) | refine kO ?_ | refine kS ?_ | refine kA ?_ | exact PV.leL_nil | refine kC ?_ ?_ | refine And.intro ?_ ?_ | refine ix_map (fun x hx => ?_) | refine exU8 ?_ | refine nilc (fun hn => ?_) ?_ | exact cl3 | refine imp0 (fun hpos => ?_) | refine kG ?_ ?_ | exact rfl | exact trivial | (first | refine stq ?_ | fail)))) <;> (try exact cl5)
  have h : ¬ ((a.map eA).length : Int) ≠ ((b.map eA).length : Int) := by simp only [List.length_map]; omega
  refine PCalls.of (N := 27) (res := [.tmp 4]) mixed Try.func19 rfl rfl rfl (by kernel_rfl) (by simp) [0, 1, 4, 5, 10, 14, 26] ?_
  repeat' (first | exact cl1 | (refine stx ?_; first | exact exHM _ | refine exU8 ?_) | ((fail_if_success refine stp ?_); (conv => whnf) <;> (first | exact cl2 | refine kBn h fun hc => ?_ | refine kX ?_ | refine kP ?_ | refine kBd (fun hc => ?_) (fun hc => ?_) | refine kT ?_ | refine kF ?_ | refine kN ?_ | refine kBm (fun hc => ?_) (fun hc => ?_) | refine kO ?_ | refine kS ?_ | refine kA ?_ | exact PV.leL_nil | refine kC ?_ ?_ | refine And.intro ?_ ?_ | refine ix_map (fun x hx => ?_) | refine exU8 ?_ | refine nilc (fun hn => ?_) ?_ | exact cl3 | refine imp0 (fun hpos => ?_) | refine kG ?_ ?_ | exact rfl | exact trivial | (first | refine stq ?_ | fail)))) <;> (try exact cl5)
  refine Wpc.loopB (α := {i : Nat // i ≤ a.length ∧ sameLB (a.drop i) (b.drop i) = sameLB a b}) mixed [0, 1, 4, 5, 10, 14, 26] (fun i => [(5, .p (eI i.1))]) (fun i => a.length - i.1) ⟨0, by omega, rfl⟩ ?_ ?_
  · (first | refine Ent.ofA [] ?_ | refine Ent.ofC [] ?_) <;> (repeat' (first | exact trivial | refine kHd ?_ | refine kHm rfl (by simp) rfl (fun h => AObj.noConfusion h) ?_ ?_ | refine And.intro ?_ ?_ | exact cl9 | refine kVp ?_ | refine kVa ?_ | refine kVt ?_ | refine kVf ?_ ?_ | refine kVc ?_ ?_ | exact VLeL.nil | exact OLe.row _ _ | rfl | refine VLe.rsle rfl ?_ ?_ ?_ | refine kQw ?_ ?_ | refine kQm ?_ ?_ | refine kQj ?_ ?_ | refine kQc ?_ ?_ | refine kQs ?_ ?_ ?_ | exact OLe.mapS0 rfl)) <;> try exact kZ
  rintro ⟨i, hi, hq⟩
  have hi : i ≤ a.length := hi
  have hq : sameLB (a.drop i) (b.drop i) = sameLB a b := hq
  cases hx : a[i]? with
  | none =>
    have hge : a.length ≤ i := List.getElem?_eq_none_iff.1 hx
    have hno : ¬ ((i : Int) < ((a.map eA).length : Int)) := by rw [List.length_map]; omega
    rw [List.drop_eq_nil_of_le hge, List.drop_eq_nil_of_le (by omega)] at hq
    repeat' (first | exact cl1 | (refine stx ?_; first | exact exHM _ | refine exU8 ?_) | ((fail_if_success refine stp ?_); (conv => whnf) <;> (first | exact cl2 | refine kBn hno fun hc => ?_ | refine kX ?_ | refine kP ?_ | refine kBd (fun hc => ?_) (fun hc => ?_) | refine kT ?_ | refine kF ?_ | refine kN ?_ | refine kBm (fun hc => ?_) (fun hc => ?_) | refine kO ?_ | refine kS ?_ | refine kA ?_ | exact PV.leL_nil | refine kC ?_ ?_ | refine And.intro ?_ ?_ | refine ix_map (fun x hx => ?_) | refine exU8 ?_ | refine nilc (fun hn => ?_) ?_ | exact cl3 | refine imp0 (fun hpos => ?_) | refine kG ?_ ?_ | exact rfl | exact trivial | (first | refine stq ?_ | fail)))) <;> (try exact cl5)
    rw [← hq]; exact LeG.refl _
  | some x =>
    have hlt : i < a.length := (List.getElem?_eq_some_iff.1 hx).1
    have hyes : ((i : Int) < ((a.map eA).length : Int)) := by rw [List.length_map]; omega
    obtain ⟨y, hy⟩ : ∃ y, b[i]? = some y := ⟨_, List.getElem?_eq_getElem (by omega)⟩
    obtain ⟨d1, d2, d3⟩ := hd x (List.mem_of_getElem? hx)
    have q := sameD_calls x y d1 d2 d3
    have ea : a.drop i = x :: a.drop (i + 1) := by rw [List.drop_eq_getElem_cons hlt]; congr 1; exact (List.getElem?_eq_some_iff.1 hx).2
    have eb : b.drop i = y :: b.drop (i + 1) := by rw [List.drop_eq_getElem_cons (by omega)]; congr 1; exact (List.getElem?_eq_some_iff.1 hy).2
    rw [ea, eb, sameLB] at hq
    cases hs : sameDB x y with
    | false =>
      rw [hs] at q hq
      repeat' (first | exact cl1 | (refine stx ?_; first | exact exHM _ | refine exU8 ?_) | ((with_reducible show callX _ _ _ _ _); (first | refine call_p (q) (by kernel_rfl) rfl ?_)) | ((fail_if_success refine stp ?_); (conv => whnf) <;> (first | exact cl2 | refine kBy hyes fun hc => ?_ | refine ix_at hx ?_ | refine ix_at hy ?_ | refine kX ?_ | refine kP ?_ | refine kBd (fun hc => ?_) (fun hc => ?_) | refine kT ?_ | refine kF ?_ | refine kN ?_ | refine kBm (fun hc => ?_) (fun hc => ?_) | refine kO ?_ | refine kS ?_ | refine kA ?_ | exact PV.leL_nil | refine kC ?_ ?_ | refine And.intro ?_ ?_ | refine ix_map (fun x hx => ?_) | refine exU8 ?_ | refine nilc (fun hn => ?_) ?_ | exact cl3 | refine imp0 (fun hpos => ?_) | refine kG ?_ ?_ | exact rfl | exact trivial | (first | refine stq ?_ | fail)))) <;> (try exact cl5)
      rw [← hq]; exact LeG.refl _
    | true =>
      rw [hs, Bool.true_and] at hq
      rw [hs] at q
      repeat' (first | exact cl1 | (refine stx ?_; first | exact exHM _ | refine exU8 ?_) | ((with_reducible show callX _ _ _ _ _); (first | refine call_p (q) (by kernel_rfl) rfl ?_)) | ((fail_if_success refine stp ?_); (conv => whnf) <;> (first | exact cl2 | refine kBy hyes fun hc => ?_ | refine ix_at hx ?_ | refine ix_at hy ?_ | refine kX ?_ | refine kP ?_ | refine kBd (fun hc => ?_) (fun hc => ?_) | refine kT ?_ | refine kF ?_ | refine kN ?_ | refine kBm (fun hc => ?_) (fun hc => ?_) | refine kO ?_ | refine kS ?_ | refine kA ?_ | exact PV.leL_nil | refine kC ?_ ?_ | refine And.intro ?_ ?_ | refine ix_map (fun x hx => ?_) | refine exU8 ?_ | refine nilc (fun hn => ?_) ?_ | exact cl3 | refine imp0 (fun hpos => ?_) | refine kG ?_ ?_ | exact rfl | exact trivial | (first | refine stq ?_ | fail)))) <;> (try exact cl5)
      refine ⟨⟨i + 1, hlt, hq⟩, by show a.length - (i + 1) < a.length - i; omega, ?_⟩
      (first | refine Ent.ofA [] ?_ | refine Ent.ofC [] ?_) <;> (repeat' (first | exact trivial | refine kHd ?_ | refine kHm rfl (by simp) rfl (fun h => AObj.noConfusion h) ?_ ?_ | refine And.intro ?_ ?_ | exact cl9 | refine kVp ?_ | refine kVa ?_ | refine kVt ?_ | refine kVf ?_ ?_ | refine kVc ?_ ?_ | exact VLeL.nil | exact OLe.row _ _ | rfl | refine VLe.rsle rfl ?_ ?_ ?_ | refine kQw ?_ ?_ | refine kQm ?_ ?_ | refine kQj ?_ ?_ | refine kQc ?_ ?_ | refine kQs ?_ ?_ ?_ | exact OLe.mapS0 rfl)) <;> try exact kZ
end Go.Proofs.Ytgclicahmbgfiaa
