/- A part of the proof: contracts of the functions that the statement reaches. -/
import Derived.Test.YtkgjhghbnocnbaaChp1
set_option linter.unusedSimpArgs false
set_option linter.unusedVariables false
set_option linter.unnecessarySimpa false
namespace Go.Proofs.Ytkgjhghbnocnbaa
open Go Go.Sg
set_option maxRecDepth 100000
set_option maxHeartbeats 20000000
theorem okBs.len {l : List Int} (h : okBs l) : l.length < 140737488355328 := Nat.lt_of_le_of_lt h.1 reachBytes_lt
theorem okBs.B8 {l : List Int} (h : okBs l) : B8 l := fun b hb => wf_u8 (h.2 b hb)
theorem okV_nums : ∀ v, okV v → nums v := by
  refine Vl.ind fun v ih h => ?_
  obtain ⟨k, n, s, l⟩ := v
  obtain ⟨h1, h2, h3, h4, h5⟩ := h
  exact ⟨wf_i64 h2, numsL_of fun x hx => ih x hx (okVs_iff.1 h5 x hx)⟩
theorem okV_strs : ∀ v, okV v → strs v := by
  have of : ∀ {l : List Vl}, (∀ x ∈ l, strs x) → strsL l := by
    intro l
    induction l with
    | nil => intro _; trivial
    | cons a r ih => exact fun h => ⟨h a (by simp), ih fun x hx => h x (by simp [hx])⟩
  refine Vl.ind fun v ih h => ?_
  obtain ⟨k, n, s, l⟩ := v
  obtain ⟨h1, h2, h3, h4, h5⟩ := h
  exact ⟨Nat.le_of_lt (Nat.lt_trans (Nat.lt_of_le_of_lt h3 reachBytes_lt) (by decide)), Nat.le_of_lt (Nat.lt_trans (Nat.lt_of_le_of_lt h4 reachBytes_lt) (by decide)), of fun x hx => ih x hx (okVs_iff.1 h5 x hx)⟩
theorem few1 (v : Vl) (h : okV v) : PCalls Try.prog 11 [.sl 4 false [eW v]] (.bool (fewV v)) := by
  have := fews_calls [v] (by simp) (fun x hx => by simp at hx; subst hx; exact okV_strs x h)
  have e : eVL [v] = .sl 4 false [eW v] := by unfold eVL; rw [List.map_cons, eV_eq]; rfl
  rw [e] at this
  simpa using this
theorem few2 (v w : Vl) (h : okV v) (k : okV w) : PCalls Try.prog 11 [.sl 4 false [eW v, eW w]] (.bool (fewV v && fewV w)) := by
  have := fews_calls [v, w] (by simp) (fun x hx => by simp at hx; rcases hx with rfl | rfl; exact okV_strs _ h; exact okV_strs _ k)
  have e : eVL [v, w] = .sl 4 false [eW v, eW w] := by unfold eVL; rw [List.map_cons, List.map_cons, eV_eq, eV_eq]; rfl
  rw [e] at this
  simpa using this
theorem encodeSpec_calls (v : Vl) (h : okV v) : PCalls Try.prog 3 [eW v] (.bool true) := by
  have q0 := few1 v h
  cases hf : fewV v with
  | false =>
    rw [hf] at q0
    refine PCalls.of (N := 64) (res := [.tmp 2]) mixed Try.func3 rfl rfl rfl (by kernel_rfl) (by simp) [0, 1, 2, 3, 4, 5, 6, 7, 8, 9, 10, 12, 16] ?_
    repeat' (first | exact cl1 | ((with_reducible show Exists _); refine exU8 ?_) | ((with_reducible show callX _ _ _ _ _); (first | refine call_p (sane_calls) (by kernel_rfl) rfl ?_ | (refine call_z (q0) (by kernel_rfl) rfl ?_; (repeat' (first | exact PV.leL_nil | refine PV.leL_cons ?_ ?_ | refine And.intro ?_ ?_ | exact Nat.zero_lt_succ _ | exact Nat.le_of_ble_eq_true rfl | exact PV.le_refl _ | exact PV.le_nil _ _ _ | exact PV.le_clip _ _ _ | refine PV.le_agg ?_ | refine PV.le_tup ?_ | rfl)); fail_if_success (any_goals (refine PV.le_of ?_))))) | ((fail_if_success with_reducible first | show LeG _ _ | show Lp _ _ _ _ | show Exists _ | show callX _ _ _ _ _ | show (_ : Int) ≤ _ | show (_ : Int) < _ | show (_ : Nat) ≤ _ | show (_ : Nat) < _); (conv => whnf) <;> (first | exact cl2 | refine XAlt.l ?_ | refine Sq.pr ?_ | refine Br.dec (fun hc => ?_) (fun hc => ?_) | refine Br.tt ?_ | refine Br.ff ?_ | refine Br.not ?_ | refine Br.mk (fun hc => ?_) (fun hc => ?_) | refine Opt.nn ?_ | refine Opt.ss ?_ | refine AltA.l ?_ | exact PV.leL_nil | refine PV.leL_cons ?_ ?_ | refine And.intro ?_ ?_ | refine ix_map (fun x hx => ?_) | refine exU8 ?_ | refine nilc (fun hn => ?_) ?_ | exact cl3 | refine imp0 (fun hpos => ?_) | refine fits_i64 ?_ ?_ | exact rfl | (with_reducible first | show LeG _ _ | show Lp _ _ _ _ | show Exists _ | show callX _ _ _ _ _)))) <;> (try exact cl5)
  | true =>
    rw [hf] at q0
    obtain ⟨ho, _, _⟩ := few_ok hf (okV_nums v h)
    have p1 := encode_calls v ho
    have p2 := rEncode_calls v ho
    have p3 := size_calls v ho
    have p4 := rSize_calls v ho
    have p5 := check_calls v ho.sm
    have p6 := rcheck_calls v ho.sm
    refine PCalls.of (N := 64) (res := [.tmp 2]) mixed Try.func3 rfl rfl rfl (by kernel_rfl) (by simp) [0, 1, 2, 3, 4, 5, 6, 7, 8, 9, 10, 12, 16] ?_
    repeat' (first | exact cl1 | ((with_reducible show Exists _); refine exU8 ?_) | ((with_reducible show callX _ _ _ _ _); (first | refine call_p (sane_calls) (by kernel_rfl) rfl ?_ | (refine call_z (q0) (by kernel_rfl) rfl ?_; (repeat' (first | exact PV.leL_nil | refine PV.leL_cons ?_ ?_ | refine And.intro ?_ ?_ | exact Nat.zero_lt_succ _ | exact Nat.le_of_ble_eq_true rfl | exact PV.le_refl _ | exact PV.le_nil _ _ _ | exact PV.le_clip _ _ _ | refine PV.le_agg ?_ | refine PV.le_tup ?_ | rfl)); fail_if_success (any_goals (refine PV.le_of ?_))) | refine call_p (p1) (by kernel_rfl) rfl ?_ | refine call_p (p2) (by kernel_rfl) rfl ?_ | refine call_p (p3) (by kernel_rfl) rfl ?_ | refine call_p (p4) (by kernel_rfl) rfl ?_ | refine call_p (p5) (by kernel_rfl) rfl ?_ | refine call_p (p6) (by kernel_rfl) rfl ?_)) | ((fail_if_success with_reducible first | show LeG _ _ | show Lp _ _ _ _ | show Exists _ | show callX _ _ _ _ _ | show (_ : Int) ≤ _ | show (_ : Int) < _ | show (_ : Nat) ≤ _ | show (_ : Nat) < _); (conv => whnf) <;> (first | exact cl2 | refine XAlt.l ?_ | refine Sq.pr ?_ | refine Br.dec (fun hc => ?_) (fun hc => ?_) | refine Br.tt ?_ | refine Br.ff ?_ | refine Br.not ?_ | refine Br.mk (fun hc => ?_) (fun hc => ?_) | refine Opt.nn ?_ | refine Opt.ss ?_ | refine AltA.l ?_ | exact PV.leL_nil | refine PV.leL_cons ?_ ?_ | refine And.intro ?_ ?_ | refine ix_map (fun x hx => ?_) | refine exU8 ?_ | refine nilc (fun hn => ?_) ?_ | exact cl3 | refine imp0 (fun hpos => ?_) | refine fits_i64 ?_ ?_ | exact rfl | (with_reducible first | show LeG _ _ | show Lp _ _ _ _ | show Exists _ | show callX _ _ _ _ _)))) <;> (try exact cl5)
    all_goals first
    | exact LeG.bool (decide_eq_true rfl)
    | (rename_i hc; exact absurd rfl hc)
theorem decodeSpec_calls (b : List Int) (hB : B8 b) (hb : b.length < 140737488355328) : PCalls Try.prog 4 [eR b] (.bool true) := by
  by_cases hl : b.length > 2000
  · have hl' : (2000 : Int) < ((b.map (PV.int .u8)).length : Int) := by rw [List.length_map]; omega
    refine PCalls.of (N := 30) (res := [.tmp 2]) mixed Try.func4 rfl rfl rfl (by kernel_rfl) (by simp) [0, 2, 3, 4, 5, 6, 8, 11] ?_
    repeat' (first | exact cl1 | ((with_reducible show Exists _); refine exU8 ?_) | ((with_reducible show callX _ _ _ _ _); (first | refine call_p (sane_calls) (by kernel_rfl) rfl ?_)) | ((fail_if_success with_reducible first | show LeG _ _ | show Lp _ _ _ _ | show Exists _ | show callX _ _ _ _ _ | show (_ : Int) ≤ _ | show (_ : Int) < _ | show (_ : Nat) ≤ _ | show (_ : Nat) < _); (conv => whnf) <;> (first | exact cl2 | refine Br.dec (fun hc => ?_) (fun hc => absurd hl' hc) | refine XAlt.l ?_ | refine Sq.pr ?_ | refine Br.dec (fun hc => ?_) (fun hc => ?_) | refine Br.tt ?_ | refine Br.ff ?_ | refine Br.not ?_ | refine Br.mk (fun hc => ?_) (fun hc => ?_) | refine Opt.nn ?_ | refine Opt.ss ?_ | refine AltA.l ?_ | exact PV.leL_nil | refine PV.leL_cons ?_ ?_ | refine And.intro ?_ ?_ | refine ix_map (fun x hx => ?_) | refine exU8 ?_ | refine nilc (fun hn => ?_) ?_ | exact cl3 | refine imp0 (fun hpos => ?_) | refine fits_i64 ?_ ?_ | exact rfl | (with_reducible first | show LeG _ _ | show Lp _ _ _ _ | show Exists _ | show callX _ _ _ _ _)))) <;> (try exact cl5)
  · have hl' : ¬ (2000 : Int) < ((b.map (PV.int .u8)).length : Int) := by rw [List.length_map]; omega
    have p1 := decode_calls b (by omega) hB
    have p2 := rdecode_calls b (by omega) hB
    have hln : lens 5000 (decA b).1 := by
      unfold decA
      cases hv : valD 16 b with
      | none => exact ⟨by decide, trivial⟩
      | some y =>
        obtain ⟨v, s⟩ := y
        obtain ⟨g1, g2, g3⟩ := valD_inv b.length 16 b v s hv (Nat.le_refl _) hB
        by_cases hs : s = []
        · simp only [if_pos hs]; exact RdV.ok.lens_mono (by omega) v g2.l
        · simp only [if_neg hs]; exact ⟨by decide, trivial⟩
    have p3 := rsame_calls (decA b).1 hln (decA b).1 hln
    rw [eqV_t rfl] at p3
    refine PCalls.of (N := 30) (res := [.tmp 2]) mixed Try.func4 rfl rfl rfl (by kernel_rfl) (by simp) [0, 2, 3, 4, 5, 6, 8, 11] ?_
    repeat' (first | exact cl1 | ((with_reducible show Exists _); refine exU8 ?_) | ((with_reducible show callX _ _ _ _ _); (first | refine call_p (sane_calls) (by kernel_rfl) rfl ?_ | refine call_p (p1) (by kernel_rfl) rfl ?_ | refine call_p (p2) (by kernel_rfl) rfl ?_ | refine call_p (p3) (by kernel_rfl) rfl ?_)) | ((fail_if_success with_reducible first | show LeG _ _ | show Lp _ _ _ _ | show Exists _ | show callX _ _ _ _ _ | show (_ : Int) ≤ _ | show (_ : Int) < _ | show (_ : Nat) ≤ _ | show (_ : Nat) < _); (conv => whnf) <;> (first | exact cl2 | refine Br.dec (fun hc => absurd hc hl') (fun hc => ?_) | refine XAlt.l ?_ | refine Sq.pr ?_ | refine Br.dec (fun hc => ?_) (fun hc => ?_) | refine Br.tt ?_ | refine Br.ff ?_ | refine Br.not ?_ | refine Br.mk (fun hc => ?_) (fun hc => ?_) | refine Opt.nn ?_ | refine Opt.ss ?_ | refine AltA.l ?_ | exact PV.leL_nil | refine PV.leL_cons ?_ ?_ | refine And.intro ?_ ?_ | refine ix_map (fun x hx => ?_) | refine exU8 ?_ | refine nilc (fun hn => ?_) ?_ | exact cl3 | refine imp0 (fun hpos => ?_) | refine fits_i64 ?_ ?_ | exact rfl | (with_reducible first | show LeG _ _ | show Lp _ _ _ _ | show Exists _ | show callX _ _ _ _ _)))) <;> (try exact cl5)
    all_goals exact LeG.bool (decide_eq_true rfl)
theorem sameSpec_calls (v w : Vl) (h : okV v) (k : okV w) : PCalls Try.prog 5 [eW v, eW w] (.bool true) := by
  have q0 := few2 v w h k
  cases hf : (fewV v && fewV w) with
  | false =>
    rw [hf] at q0
    refine PCalls.of (N := 29) (res := [.tmp 4]) mixed Try.func5 rfl rfl rfl (by kernel_rfl) (by simp) [0, 1, 2, 3, 4, 6, 11] ?_
    repeat' (first | exact cl1 | ((with_reducible show Exists _); refine exU8 ?_) | ((with_reducible show callX _ _ _ _ _); (first | refine call_p (sane_calls) (by kernel_rfl) rfl ?_ | (refine call_z (q0) (by kernel_rfl) rfl ?_; (repeat' (first | exact PV.leL_nil | refine PV.leL_cons ?_ ?_ | refine And.intro ?_ ?_ | exact Nat.zero_lt_succ _ | exact Nat.le_of_ble_eq_true rfl | exact PV.le_refl _ | exact PV.le_nil _ _ _ | exact PV.le_clip _ _ _ | refine PV.le_agg ?_ | refine PV.le_tup ?_ | rfl)); fail_if_success (any_goals (refine PV.le_of ?_))))) | ((fail_if_success with_reducible first | show LeG _ _ | show Lp _ _ _ _ | show Exists _ | show callX _ _ _ _ _ | show (_ : Int) ≤ _ | show (_ : Int) < _ | show (_ : Nat) ≤ _ | show (_ : Nat) < _); (conv => whnf) <;> (first | exact cl2 | refine XAlt.l ?_ | refine Sq.pr ?_ | refine Br.dec (fun hc => ?_) (fun hc => ?_) | refine Br.tt ?_ | refine Br.ff ?_ | refine Br.not ?_ | refine Br.mk (fun hc => ?_) (fun hc => ?_) | refine Opt.nn ?_ | refine Opt.ss ?_ | refine AltA.l ?_ | exact PV.leL_nil | refine PV.leL_cons ?_ ?_ | refine And.intro ?_ ?_ | refine ix_map (fun x hx => ?_) | refine exU8 ?_ | refine nilc (fun hn => ?_) ?_ | exact cl3 | refine imp0 (fun hpos => ?_) | refine fits_i64 ?_ ?_ | exact rfl | (with_reducible first | show LeG _ _ | show Lp _ _ _ _ | show Exists _ | show callX _ _ _ _ _)))) <;> (try exact cl5)
  | true =>
    rw [hf] at q0
    simp only [Bool.and_eq_true] at hf
    obtain ⟨ho, _, _⟩ := few_ok hf.1 (okV_nums v h)
    obtain ⟨ho2, _, _⟩ := few_ok hf.2 (okV_nums w k)
    have p1 := same_calls v ho.sm.1 w ho2.sm.1
    have p2 := rsame_calls v ho.sm.1 w ho2.sm.1
    have p3 := same_calls v ho.sm.1 v ho.sm.1
    have p4 := same_calls w ho2.sm.1 w ho2.sm.1
    rw [eqV_t rfl] at p3 p4
    refine PCalls.of (N := 29) (res := [.tmp 4]) mixed Try.func5 rfl rfl rfl (by kernel_rfl) (by simp) [0, 1, 2, 3, 4, 6, 11] ?_
    repeat' (first | exact cl1 | ((with_reducible show Exists _); refine exU8 ?_) | ((with_reducible show callX _ _ _ _ _); (first | refine call_p (sane_calls) (by kernel_rfl) rfl ?_ | (refine call_z (q0) (by kernel_rfl) rfl ?_; (repeat' (first | exact PV.leL_nil | refine PV.leL_cons ?_ ?_ | refine And.intro ?_ ?_ | exact Nat.zero_lt_succ _ | exact Nat.le_of_ble_eq_true rfl | exact PV.le_refl _ | exact PV.le_nil _ _ _ | exact PV.le_clip _ _ _ | refine PV.le_agg ?_ | refine PV.le_tup ?_ | rfl)); fail_if_success (any_goals (refine PV.le_of ?_))) | refine call_p (p1) (by kernel_rfl) rfl ?_ | refine call_p (p2) (by kernel_rfl) rfl ?_ | refine call_p (p3) (by kernel_rfl) rfl ?_ | refine call_p (p4) (by kernel_rfl) rfl ?_)) | ((fail_if_success with_reducible first | show LeG _ _ | show Lp _ _ _ _ | show Exists _ | show callX _ _ _ _ _ | show (_ : Int) ≤ _ | show (_ : Int) < _ | show (_ : Nat) ≤ _ | show (_ : Nat) < _); (conv => whnf) <;> (first | exact cl2 | refine XAlt.l ?_ | refine Sq.pr ?_ | refine Br.dec (fun hc => ?_) (fun hc => ?_) | refine Br.tt ?_ | refine Br.ff ?_ | refine Br.not ?_ | refine Br.mk (fun hc => ?_) (fun hc => ?_) | refine Opt.nn ?_ | refine Opt.ss ?_ | refine AltA.l ?_ | exact PV.leL_nil | refine PV.leL_cons ?_ ?_ | refine And.intro ?_ ?_ | refine ix_map (fun x hx => ?_) | refine exU8 ?_ | refine nilc (fun hn => ?_) ?_ | exact cl3 | refine imp0 (fun hpos => ?_) | refine fits_i64 ?_ ?_ | exact rfl | (with_reducible first | show LeG _ _ | show Lp _ _ _ _ | show Exists _ | show callX _ _ _ _ _)))) <;> (try exact cl5)
    exact absurd rfl hc
end Go.Proofs.Ytkgjhghbnocnbaa

namespace Go.Proofs.Ytkgjhghbnocnbaa
open Go Go.Sg
set_option maxRecDepth 100000
set_option maxHeartbeats 20000000
theorem chk_dep {v : Vl} (h : chkV v = 0) : dep v ≤ 16 := by
  have hf := chk_frm h
  unfold chkV at h; rw [hf] at h; simp only [if_true] at h
  exact Classical.byContradiction fun hh => by rw [if_pos (by omega)] at h; cases h
theorem pre_eq {v w : Vl} (hv : Ok v) (hw : Ok w) (cv : chkV v = 0) (cw : chkV w = 0) {r : List Int} (e : enc w = enc v ++ r) : v = w := by
  have a := valD_of v 16 (chk_frm cv) hv.nm (chk_dep cv) (Nat.lt_of_le_of_lt (hv.sz cv) (by decide)) r
  have b := valD_of w 16 (chk_frm cw) hw.nm (chk_dep cw) (Nat.lt_of_le_of_lt (hw.sz cw) (by decide)) []
  rw [List.append_nil, e, a] at b
  injection b with b; injection b
theorem pre_ne {v w : Vl} (hv : Ok v) (hw : Ok w) (cv : chkV v = 0) (cw : chkV w = 0) (h : ¬ v = w) : ¬ (enc v).take (min (enc v).length (enc w).length) = (enc w).take (min (enc v).length (enc w).length) := fun e => h (by
  by_cases hl : (enc v).length ≤ (enc w).length
  · rw [Nat.min_eq_left hl, List.take_length] at e
    have := List.take_append_drop (enc v).length (enc w)
    rw [← e] at this
    exact pre_eq hv hw cv cw this.symm
  · rw [Nat.min_eq_right (by omega), List.take_length] at e
    have := List.take_append_drop (enc w).length (enc v)
    rw [e] at this
    exact (pre_eq hw hv cw cv this.symm).symm)
/-- What Decode answers, and what its answer is then. -/
theorem decA_cases (b : List Int) (hB : B8 b) : (decA b = (vZ, 10)) ∨ ∃ v, decA b = (v, 0) ∧ enc v = b ∧ chkV v = 0 ∧ nums v ∧ lens b.length v ∧ dep v ≤ 16 := by
  unfold decA
  cases hv : valD 16 b with
  | none => exact .inl rfl
  | some y =>
    obtain ⟨v, s⟩ := y
    obtain ⟨g1, g2, g3⟩ := valD_inv b.length 16 b v s hv (Nat.le_refl _) hB
    by_cases hs : s = []
    · refine .inr ⟨v, by simp only [if_pos hs], ?_, ?_, g2.n, g2.l, g2.d⟩
      · rw [hs, List.append_nil] at g1; exact g1
      · unfold chkV; rw [g2.f, if_pos rfl, if_neg (by have := g2.d; omega)]
    · exact .inl (by simp only [if_neg hs])
theorem roundTrip_calls (v : Vl) (b : List Int) (h : okV v) (hB : B8 b) (hb : b.length < 140737488355328) : PCalls Try.prog 6 [eW v, eR b] (.bool true) := by
  have q0 := few1 v h
  cases hf : fewV v with
  | false =>
    rw [hf] at q0
    refine PCalls.of (N := 87) (res := [.tmp 4]) mixed Try.func6 rfl rfl rfl (by kernel_rfl) (by simp) [0, 1, 2, 4, 5, 6, 7, 8, 9, 10, 11, 12, 14, 23, 32, 34, 53, 60] ?_
    repeat' (first | exact cl1 | ((with_reducible show Exists _); refine exU8 ?_) | ((with_reducible show callX _ _ _ _ _); (first | refine call_p (sane_calls) (by kernel_rfl) rfl ?_ | (refine call_z (q0) (by kernel_rfl) rfl ?_; (repeat' (first | exact PV.leL_nil | refine PV.leL_cons ?_ ?_ | refine And.intro ?_ ?_ | exact Nat.zero_lt_succ _ | exact Nat.le_of_ble_eq_true rfl | exact PV.le_refl _ | exact PV.le_nil _ _ _ | exact PV.le_clip _ _ _ | refine PV.le_agg ?_ | refine PV.le_tup ?_ | rfl)); fail_if_success (any_goals (refine PV.le_of ?_))))) | ((fail_if_success with_reducible first | show LeG _ _ | show Lp _ _ _ _ | show Exists _ | show callX _ _ _ _ _ | show (_ : Int) ≤ _ | show (_ : Int) < _ | show (_ : Nat) ≤ _ | show (_ : Nat) < _); (conv => whnf) <;> (first | exact cl2 | refine XAlt.l ?_ | refine Sq.pr ?_ | refine Br.dec (fun hc => ?_) (fun hc => ?_) | refine Br.tt ?_ | refine Br.ff ?_ | refine Br.not ?_ | refine Br.mk (fun hc => ?_) (fun hc => ?_) | refine Opt.nn ?_ | refine Opt.ss ?_ | refine AltA.l ?_ | exact PV.leL_nil | refine PV.leL_cons ?_ ?_ | refine And.intro ?_ ?_ | refine ix_map (fun x hx => ?_) | refine exU8 ?_ | refine nilc (fun hn => ?_) ?_ | exact cl3 | refine imp0 (fun hpos => ?_) | refine fits_i64 ?_ ?_ | exact rfl | (with_reducible first | show LeG _ _ | show Lp _ _ _ _ | show Exists _ | show callX _ _ _ _ _)))) <;> (try exact cl5)
  | true =>
    rw [hf] at q0
    obtain ⟨ho, _, hz⟩ := few_ok hf (okV_nums v h)
    have p1 := encode_calls v ho
    have p2 := check_calls v ho.sm
    by_cases hl : b.length > 2000
    · have hl' : (2000 : Int) < ((b.map (PV.int .u8)).length : Int) := by rw [List.length_map]; omega
      refine PCalls.of (N := 87) (res := [.tmp 4]) mixed Try.func6 rfl rfl rfl (by kernel_rfl) (by simp) [0, 1, 2, 4, 5, 6, 7, 8, 9, 10, 11, 12, 14, 23, 32, 34, 53, 60] ?_
      repeat' (first | exact cl1 | ((with_reducible show Exists _); refine exU8 ?_) | ((with_reducible show callX _ _ _ _ _); (first | refine call_p (sane_calls) (by kernel_rfl) rfl ?_ | (refine call_z (q0) (by kernel_rfl) rfl ?_; (repeat' (first | exact PV.leL_nil | refine PV.leL_cons ?_ ?_ | refine And.intro ?_ ?_ | exact Nat.zero_lt_succ _ | exact Nat.le_of_ble_eq_true rfl | exact PV.le_refl _ | exact PV.le_nil _ _ _ | exact PV.le_clip _ _ _ | refine PV.le_agg ?_ | refine PV.le_tup ?_ | rfl)); fail_if_success (any_goals (refine PV.le_of ?_))))) | ((fail_if_success with_reducible first | show LeG _ _ | show Lp _ _ _ _ | show Exists _ | show callX _ _ _ _ _ | show (_ : Int) ≤ _ | show (_ : Int) < _ | show (_ : Nat) ≤ _ | show (_ : Nat) < _); (conv => whnf) <;> (first | exact cl2 | refine Br.dec (fun hc => ?_) (fun hc => absurd hl' hc) | refine XAlt.l ?_ | refine Sq.pr ?_ | refine Br.dec (fun hc => ?_) (fun hc => ?_) | refine Br.tt ?_ | refine Br.ff ?_ | refine Br.not ?_ | refine Br.mk (fun hc => ?_) (fun hc => ?_) | refine Opt.nn ?_ | refine Opt.ss ?_ | refine AltA.l ?_ | exact PV.leL_nil | refine PV.leL_cons ?_ ?_ | refine And.intro ?_ ?_ | refine ix_map (fun x hx => ?_) | refine exU8 ?_ | refine nilc (fun hn => ?_) ?_ | exact cl3 | refine imp0 (fun hpos => ?_) | refine fits_i64 ?_ ?_ | exact rfl | (with_reducible first | show LeG _ _ | show Lp _ _ _ _ | show Exists _ | show callX _ _ _ _ _)))) <;> (try exact cl5)
    · have hl' : ¬ (2000 : Int) < ((b.map (PV.int .u8)).length : Int) := by rw [List.length_map]; omega
      have p6 := decode_calls b (by omega) hB
      have p4 := same_calls v ho.sm.1 v ho.sm.1
      have p5 := rsame_calls v ho.sm.1 v ho.sm.1
      rw [eqV_t rfl] at p4 p5
      have hzl : lens 5000 vZ := ⟨by decide, trivial⟩
      have p9 := same_calls vZ hzl vZ hzl
      rw [eqV_t rfl] at p9
      by_cases hc : chkV v = 0
      · rw [encA_ok hc] at p1
        rw [hc] at p2
        have p3 := decode_calls (enc v) (by omega) (enc_B8 v)
        rw [decA_enc hc ho.nm (by omega)] at p3
        rcases decA_cases b hB with e | ⟨w, e, g1, g2, g3, g4, g5⟩
        · rw [e] at p6
          refine PCalls.of (N := 87) (res := [.tmp 4]) mixed Try.func6 rfl rfl rfl (by kernel_rfl) (by simp) [0, 1, 2, 4, 5, 6, 7, 8, 9, 10, 11, 12, 14, 23, 32, 34, 53, 60] ?_
          repeat' (first | exact cl1 | ((with_reducible show Exists _); refine exU8 ?_) | ((with_reducible show callX _ _ _ _ _); (first | refine call_p (sane_calls) (by kernel_rfl) rfl ?_ | (refine call_z (q0) (by kernel_rfl) rfl ?_; (repeat' (first | exact PV.leL_nil | refine PV.leL_cons ?_ ?_ | refine And.intro ?_ ?_ | exact Nat.zero_lt_succ _ | exact Nat.le_of_ble_eq_true rfl | exact PV.le_refl _ | exact PV.le_nil _ _ _ | exact PV.le_clip _ _ _ | refine PV.le_agg ?_ | refine PV.le_tup ?_ | rfl)); fail_if_success (any_goals (refine PV.le_of ?_))) | refine call_p (p1) (by kernel_rfl) rfl ?_ | refine call_p (p2) (by kernel_rfl) rfl ?_ | refine call_p (p3) (by kernel_rfl) rfl ?_ | refine call_p (p4) (by kernel_rfl) rfl ?_ | refine call_p (p5) (by kernel_rfl) rfl ?_ | refine call_p (p6) (by kernel_rfl) rfl ?_ | (refine call_z (p9) (by kernel_rfl) rfl ?_; (repeat' (first | exact PV.leL_nil | refine PV.leL_cons ?_ ?_ | refine And.intro ?_ ?_ | exact Nat.zero_lt_succ _ | exact Nat.le_of_ble_eq_true rfl | exact PV.le_refl _ | exact PV.le_nil _ _ _ | exact PV.le_clip _ _ _ | refine PV.le_agg ?_ | refine PV.le_tup ?_ | rfl)); fail_if_success (any_goals (refine PV.le_of ?_))))) | ((fail_if_success with_reducible first | show LeG _ _ | show Lp _ _ _ _ | show Exists _ | show callX _ _ _ _ _ | show (_ : Int) ≤ _ | show (_ : Int) < _ | show (_ : Nat) ≤ _ | show (_ : Nat) < _); (conv => whnf) <;> (first | exact cl2 | refine Br.dec (fun hc => absurd hc hl') (fun hc => ?_) | refine XAlt.l ?_ | refine Sq.pr ?_ | refine Br.dec (fun hc => ?_) (fun hc => ?_) | refine Br.tt ?_ | refine Br.ff ?_ | refine Br.not ?_ | refine Br.mk (fun hc => ?_) (fun hc => ?_) | refine Opt.nn ?_ | refine Opt.ss ?_ | refine AltA.l ?_ | exact PV.leL_nil | refine PV.leL_cons ?_ ?_ | refine And.intro ?_ ?_ | refine ix_map (fun x hx => ?_) | refine exU8 ?_ | refine nilc (fun hn => ?_) ?_ | exact cl3 | refine imp0 (fun hpos => ?_) | refine fits_i64 ?_ ?_ | exact rfl | (with_reducible first | show LeG _ _ | show Lp _ _ _ _ | show Exists _ | show callX _ _ _ _ _)))) <;> (try exact cl5)
        · rw [e] at p6
          have hlw : lens 5000 w := RdV.ok.lens_mono (by omega) w g4
          have ow : Ok w := ⟨⟨hlw, by omega⟩, g3, fun _ => by rw [g1]; omega⟩
          have p7 := encode_calls w ow
          rw [encA_ok g2, g1] at p7
          have p8 := check_calls w ow.sm
          rw [g2] at p8
          refine PCalls.of (N := 87) (res := [.tmp 4]) mixed Try.func6 rfl rfl rfl (by kernel_rfl) (by simp) [0, 1, 2, 4, 5, 6, 7, 8, 9, 10, 11, 12, 14, 23, 32, 34, 53, 60] ?_
          repeat' (first | exact cl1 | ((with_reducible show Exists _); refine exU8 ?_) | ((with_reducible show callX _ _ _ _ _); (first | refine call_p (sane_calls) (by kernel_rfl) rfl ?_ | (refine call_z (q0) (by kernel_rfl) rfl ?_; (repeat' (first | exact PV.leL_nil | refine PV.leL_cons ?_ ?_ | refine And.intro ?_ ?_ | exact Nat.zero_lt_succ _ | exact Nat.le_of_ble_eq_true rfl | exact PV.le_refl _ | exact PV.le_nil _ _ _ | exact PV.le_clip _ _ _ | refine PV.le_agg ?_ | refine PV.le_tup ?_ | rfl)); fail_if_success (any_goals (refine PV.le_of ?_))) | refine call_p (p1) (by kernel_rfl) rfl ?_ | refine call_p (p2) (by kernel_rfl) rfl ?_ | refine call_p (p3) (by kernel_rfl) rfl ?_ | refine call_p (p4) (by kernel_rfl) rfl ?_ | refine call_p (p5) (by kernel_rfl) rfl ?_ | refine call_p (p6) (by kernel_rfl) rfl ?_ | refine call_p (p7) (by kernel_rfl) rfl ?_ | refine call_p (p8) (by kernel_rfl) rfl ?_)) | ((fail_if_success with_reducible first | show LeG _ _ | show Lp _ _ _ _ | show Exists _ | show callX _ _ _ _ _ | show (_ : Int) ≤ _ | show (_ : Int) < _ | show (_ : Nat) ≤ _ | show (_ : Nat) < _); (conv => whnf) <;> (first | exact cl2 | refine Br.dec (fun hc => absurd hc hl') (fun hc => ?_) | refine XAlt.l ?_ | refine Sq.pr ?_ | refine Br.dec (fun hc => ?_) (fun hc => ?_) | refine Br.tt ?_ | refine Br.ff ?_ | refine Br.not ?_ | refine Br.mk (fun hc => ?_) (fun hc => ?_) | refine Opt.nn ?_ | refine Opt.ss ?_ | refine AltA.l ?_ | exact PV.leL_nil | refine PV.leL_cons ?_ ?_ | refine And.intro ?_ ?_ | refine ix_map (fun x hx => ?_) | refine exU8 ?_ | refine nilc (fun hn => ?_) ?_ | exact cl3 | refine imp0 (fun hpos => ?_) | refine fits_i64 ?_ ?_ | exact rfl | (with_reducible first | show LeG _ _ | show Lp _ _ _ _ | show Exists _ | show callX _ _ _ _ _)))) <;> (try exact cl5)
          exact absurd rfl hc
      · have hen : encA v = ([], chkV v) := by unfold encA; rw [if_neg hc]
        rw [hen] at p1
        rcases decA_cases b hB with e | ⟨w, e, g1, g2, g3, g4, g5⟩
        · rw [e] at p6
          refine PCalls.of (N := 87) (res := [.tmp 4]) mixed Try.func6 rfl rfl rfl (by kernel_rfl) (by simp) [0, 1, 2, 4, 5, 6, 7, 8, 9, 10, 11, 12, 14, 23, 32, 34, 53, 60] ?_
          repeat' (first | exact cl1 | ((with_reducible show Exists _); refine exU8 ?_) | ((with_reducible show callX _ _ _ _ _); (first | refine call_p (sane_calls) (by kernel_rfl) rfl ?_ | (refine call_z (q0) (by kernel_rfl) rfl ?_; (repeat' (first | exact PV.leL_nil | refine PV.leL_cons ?_ ?_ | refine And.intro ?_ ?_ | exact Nat.zero_lt_succ _ | exact Nat.le_of_ble_eq_true rfl | exact PV.le_refl _ | exact PV.le_nil _ _ _ | exact PV.le_clip _ _ _ | refine PV.le_agg ?_ | refine PV.le_tup ?_ | rfl)); fail_if_success (any_goals (refine PV.le_of ?_))) | refine call_p (p1) (by kernel_rfl) rfl ?_ | refine call_p (p2) (by kernel_rfl) rfl ?_ | refine call_p (p6) (by kernel_rfl) rfl ?_ | (refine call_z (p9) (by kernel_rfl) rfl ?_; (repeat' (first | exact PV.leL_nil | refine PV.leL_cons ?_ ?_ | refine And.intro ?_ ?_ | exact Nat.zero_lt_succ _ | exact Nat.le_of_ble_eq_true rfl | exact PV.le_refl _ | exact PV.le_nil _ _ _ | exact PV.le_clip _ _ _ | refine PV.le_agg ?_ | refine PV.le_tup ?_ | rfl)); fail_if_success (any_goals (refine PV.le_of ?_))))) | ((fail_if_success with_reducible first | show LeG _ _ | show Lp _ _ _ _ | show Exists _ | show callX _ _ _ _ _ | show (_ : Int) ≤ _ | show (_ : Int) < _ | show (_ : Nat) ≤ _ | show (_ : Nat) < _); (conv => whnf) <;> (first | exact cl2 | refine Br.dec (fun hc => absurd hc hl') (fun hc => ?_) | refine XAlt.l ?_ | refine Sq.pr ?_ | refine Br.dec (fun hc => ?_) (fun hc => ?_) | refine Br.tt ?_ | refine Br.ff ?_ | refine Br.not ?_ | refine Br.mk (fun hc => ?_) (fun hc => ?_) | refine Opt.nn ?_ | refine Opt.ss ?_ | refine AltA.l ?_ | exact PV.leL_nil | refine PV.leL_cons ?_ ?_ | refine And.intro ?_ ?_ | refine ix_map (fun x hx => ?_) | refine exU8 ?_ | refine nilc (fun hn => ?_) ?_ | exact cl3 | refine imp0 (fun hpos => ?_) | refine fits_i64 ?_ ?_ | exact rfl | (with_reducible first | show LeG _ _ | show Lp _ _ _ _ | show Exists _ | show callX _ _ _ _ _)))) <;> (try exact cl5)
        · rw [e] at p6
          have hlw : lens 5000 w := RdV.ok.lens_mono (by omega) w g4
          have ow : Ok w := ⟨⟨hlw, by omega⟩, g3, fun _ => by rw [g1]; omega⟩
          have p7 := encode_calls w ow
          rw [encA_ok g2, g1] at p7
          have p8 := check_calls w ow.sm
          rw [g2] at p8
          refine PCalls.of (N := 87) (res := [.tmp 4]) mixed Try.func6 rfl rfl rfl (by kernel_rfl) (by simp) [0, 1, 2, 4, 5, 6, 7, 8, 9, 10, 11, 12, 14, 23, 32, 34, 53, 60] ?_
          repeat' (first | exact cl1 | ((with_reducible show Exists _); refine exU8 ?_) | ((with_reducible show callX _ _ _ _ _); (first | refine call_p (sane_calls) (by kernel_rfl) rfl ?_ | (refine call_z (q0) (by kernel_rfl) rfl ?_; (repeat' (first | exact PV.leL_nil | refine PV.leL_cons ?_ ?_ | refine And.intro ?_ ?_ | exact Nat.zero_lt_succ _ | exact Nat.le_of_ble_eq_true rfl | exact PV.le_refl _ | exact PV.le_nil _ _ _ | exact PV.le_clip _ _ _ | refine PV.le_agg ?_ | refine PV.le_tup ?_ | rfl)); fail_if_success (any_goals (refine PV.le_of ?_))) | refine call_p (p1) (by kernel_rfl) rfl ?_ | refine call_p (p2) (by kernel_rfl) rfl ?_ | refine call_p (p6) (by kernel_rfl) rfl ?_ | refine call_p (p7) (by kernel_rfl) rfl ?_ | refine call_p (p8) (by kernel_rfl) rfl ?_)) | ((fail_if_success with_reducible first | show LeG _ _ | show Lp _ _ _ _ | show Exists _ | show callX _ _ _ _ _ | show (_ : Int) ≤ _ | show (_ : Int) < _ | show (_ : Nat) ≤ _ | show (_ : Nat) < _); (conv => whnf) <;> (first | exact cl2 | refine Br.dec (fun hc => absurd hc hl') (fun hc => ?_) | refine XAlt.l ?_ | refine Sq.pr ?_ | refine Br.dec (fun hc => ?_) (fun hc => ?_) | refine Br.tt ?_ | refine Br.ff ?_ | refine Br.not ?_ | refine Br.mk (fun hc => ?_) (fun hc => ?_) | refine Opt.nn ?_ | refine Opt.ss ?_ | refine AltA.l ?_ | exact PV.leL_nil | refine PV.leL_cons ?_ ?_ | refine And.intro ?_ ?_ | refine ix_map (fun x hx => ?_) | refine exU8 ?_ | refine nilc (fun hn => ?_) ?_ | exact cl3 | refine imp0 (fun hpos => ?_) | refine fits_i64 ?_ ?_ | exact rfl | (with_reducible first | show LeG _ _ | show Lp _ _ _ _ | show Exists _ | show callX _ _ _ _ _)))) <;> (try exact cl5)
          exact absurd rfl hc
theorem exTake {b : List Int} {n : Int} {K : List Int → Prop} (m : Nat) (hn : n = (m : Int)) (h : K (b.take m)) : ∃ q, u8s (List.drop (Int.toNat 0) (List.take n.toNat (b.map (PV.int .u8)))) = some q ∧ K q := by
  subst hn
  rw [Int.toNat_natCast, show Int.toNat 0 = 0 from rfl, List.drop_zero, ← List.map_take]
  exact ⟨_, u8s_map _, h⟩
theorem min_if (a b : Nat) : (if false = true then (if (b : Int) > a then (b : Int) else a) else (if (b : Int) < a then (b : Int) else a)) = ((min a b : Nat) : Int) := by
  rw [if_neg Bool.false_ne_true]
  split <;> omega
theorem different_calls (v w : Vl) (h : okV v) (k : okV w) : PCalls Try.prog 7 [eW v, eW w] (.bool true) := by
  have q0 := few2 v w h k
  cases hf : (fewV v && fewV w) with
  | false =>
    rw [hf] at q0
    refine PCalls.of (N := 55) (res := [.tmp 4]) mixed Try.func7 rfl rfl rfl (by kernel_rfl) (by simp) [0, 1, 2, 3, 4, 5, 6, 7, 8, 9, 11, 16, 32, 35] ?_
    repeat' (first | exact cl1 | ((with_reducible show Exists _); refine exU8 ?_) | ((with_reducible show callX _ _ _ _ _); (first | refine call_p (sane_calls) (by kernel_rfl) rfl ?_ | (refine call_z (q0) (by kernel_rfl) rfl ?_; (repeat' (first | exact PV.leL_nil | refine PV.leL_cons ?_ ?_ | refine And.intro ?_ ?_ | exact Nat.zero_lt_succ _ | exact Nat.le_of_ble_eq_true rfl | exact PV.le_refl _ | exact PV.le_nil _ _ _ | exact PV.le_clip _ _ _ | refine PV.le_agg ?_ | refine PV.le_tup ?_ | rfl)); fail_if_success (any_goals (refine PV.le_of ?_))))) | ((fail_if_success with_reducible first | show LeG _ _ | show Lp _ _ _ _ | show Exists _ | show callX _ _ _ _ _ | show (_ : Int) ≤ _ | show (_ : Int) < _ | show (_ : Nat) ≤ _ | show (_ : Nat) < _); (conv => whnf) <;> (first | exact cl2 | refine XAlt.l ?_ | refine Sq.pr ?_ | refine Br.dec (fun hc => ?_) (fun hc => ?_) | refine Br.tt ?_ | refine Br.ff ?_ | refine Br.not ?_ | refine Br.mk (fun hc => ?_) (fun hc => ?_) | refine Opt.nn ?_ | refine Opt.ss ?_ | refine AltA.l ?_ | exact PV.leL_nil | refine PV.leL_cons ?_ ?_ | refine And.intro ?_ ?_ | refine ix_map (fun x hx => ?_) | refine exU8 ?_ | refine nilc (fun hn => ?_) ?_ | exact cl3 | refine imp0 (fun hpos => ?_) | refine fits_i64 ?_ ?_ | exact rfl | (with_reducible first | show LeG _ _ | show Lp _ _ _ _ | show Exists _ | show callX _ _ _ _ _)))) <;> (try exact cl5)
  | true =>
    rw [hf] at q0
    simp only [Bool.and_eq_true] at hf
    obtain ⟨ho, _, hz1⟩ := few_ok hf.1 (okV_nums v h)
    obtain ⟨ho2, _, hz2⟩ := few_ok hf.2 (okV_nums w k)
    have p1 := encode_calls v ho
    have p2 := encode_calls w ho2
    have p3 := same_calls v ho.sm.1 w ho2.sm.1
    by_cases hv : chkV v = 0
    · by_cases hw : chkV w = 0
      · rw [encA_ok hv] at p1
        rw [encA_ok hw] at p2
        by_cases e : v = w
        · subst e
          rw [eqV_t rfl] at p3
          refine PCalls.of (N := 55) (res := [.tmp 4]) mixed Try.func7 rfl rfl rfl (by kernel_rfl) (by simp) [0, 1, 2, 3, 4, 5, 6, 7, 8, 9, 11, 16, 32, 35] ?_
          repeat' (first | exact cl1 | ((with_reducible show Exists _); refine exU8 ?_) | ((with_reducible show callX _ _ _ _ _); (first | refine call_p (sane_calls) (by kernel_rfl) rfl ?_ | (refine call_z (q0) (by kernel_rfl) rfl ?_; (repeat' (first | exact PV.leL_nil | refine PV.leL_cons ?_ ?_ | refine And.intro ?_ ?_ | exact Nat.zero_lt_succ _ | exact Nat.le_of_ble_eq_true rfl | exact PV.le_refl _ | exact PV.le_nil _ _ _ | exact PV.le_clip _ _ _ | refine PV.le_agg ?_ | refine PV.le_tup ?_ | rfl)); fail_if_success (any_goals (refine PV.le_of ?_))) | refine call_p (p1) (by kernel_rfl) rfl ?_ | refine call_p (p2) (by kernel_rfl) rfl ?_ | refine call_p (p3) (by kernel_rfl) rfl ?_)) | ((fail_if_success with_reducible first | show LeG _ _ | show Lp _ _ _ _ | show Exists _ | show callX _ _ _ _ _ | show (_ : Int) ≤ _ | show (_ : Int) < _ | show (_ : Nat) ≤ _ | show (_ : Nat) < _); (conv => whnf) <;> (first | exact cl2 | refine XAlt.l ?_ | refine Sq.pr ?_ | refine Br.dec (fun hc => ?_) (fun hc => ?_) | refine Br.tt ?_ | refine Br.ff ?_ | refine Br.not ?_ | refine Br.mk (fun hc => ?_) (fun hc => ?_) | refine Opt.nn ?_ | refine Opt.ss ?_ | refine AltA.l ?_ | exact PV.leL_nil | refine PV.leL_cons ?_ ?_ | refine And.intro ?_ ?_ | refine ix_map (fun x hx => ?_) | refine exU8 ?_ | refine nilc (fun hn => ?_) ?_ | exact cl3 | refine imp0 (fun hpos => ?_) | refine fits_i64 ?_ ?_ | exact rfl | (with_reducible first | show LeG _ _ | show Lp _ _ _ _ | show Exists _ | show callX _ _ _ _ _)))) <;> (try exact cl5)
          exact LeG.bool (decide_eq_true rfl)
        · rw [eqV_f e] at p3
          refine PCalls.of (N := 55) (res := [.tmp 4]) mixed Try.func7 rfl rfl rfl (by kernel_rfl) (by simp) [0, 1, 2, 3, 4, 5, 6, 7, 8, 9, 11, 16, 32, 35] ?_
          repeat' (first | exact cl1 | ((with_reducible show Exists _); refine exU8 ?_) | ((with_reducible show callX _ _ _ _ _); (first | refine call_p (sane_calls) (by kernel_rfl) rfl ?_ | (refine call_z (q0) (by kernel_rfl) rfl ?_; (repeat' (first | exact PV.leL_nil | refine PV.leL_cons ?_ ?_ | refine And.intro ?_ ?_ | exact Nat.zero_lt_succ _ | exact Nat.le_of_ble_eq_true rfl | exact PV.le_refl _ | exact PV.le_nil _ _ _ | exact PV.le_clip _ _ _ | refine PV.le_agg ?_ | refine PV.le_tup ?_ | rfl)); fail_if_success (any_goals (refine PV.le_of ?_))) | refine call_p (p1) (by kernel_rfl) rfl ?_ | refine call_p (p2) (by kernel_rfl) rfl ?_ | refine call_p (p3) (by kernel_rfl) rfl ?_)) | ((fail_if_success with_reducible first | show LeG _ _ | show Lp _ _ _ _ | show Exists _ | show callX _ _ _ _ _ | show (_ : Int) ≤ _ | show (_ : Int) < _ | show (_ : Nat) ≤ _ | show (_ : Nat) < _); (conv => whnf) <;> (first | exact cl2 | refine XAlt.l ?_ | refine Sq.pr ?_ | refine Br.dec (fun hc => ?_) (fun hc => ?_) | refine Br.tt ?_ | refine Br.ff ?_ | refine Br.not ?_ | refine Br.mk (fun hc => ?_) (fun hc => ?_) | refine Opt.nn ?_ | refine Opt.ss ?_ | refine AltA.l ?_ | exact PV.leL_nil | refine PV.leL_cons ?_ ?_ | refine And.intro ?_ ?_ | refine ix_map (fun x hx => ?_) | refine exU8 ?_ | refine nilc (fun hn => ?_) ?_ | exact cl3 | refine imp0 (fun hpos => ?_) | refine fits_i64 ?_ ?_ | exact rfl | (with_reducible first | show LeG _ _ | show Lp _ _ _ _ | show Exists _ | show callX _ _ _ _ _)))) <;> (try exact cl5)
          · simp only [Bool.false_eq_true, if_false, List.length_map]; split <;> omega
          · refine exTake (min (enc v).length (enc w).length) (by simp only [List.length_map]; exact min_if _ _) ?_
            repeat' (first | exact cl1 | ((with_reducible show Exists _); refine exU8 ?_) | ((fail_if_success with_reducible first | show LeG _ _ | show Lp _ _ _ _ | show Exists _ | show callX _ _ _ _ _ | show (_ : Int) ≤ _ | show (_ : Int) < _ | show (_ : Nat) ≤ _ | show (_ : Nat) < _); (conv => whnf) <;> (first | exact cl2 | refine XAlt.l ?_ | refine Sq.pr ?_ | refine Br.dec (fun hc => ?_) (fun hc => ?_) | refine Br.tt ?_ | refine Br.ff ?_ | refine Br.not ?_ | refine Br.mk (fun hc => ?_) (fun hc => ?_) | refine Opt.nn ?_ | refine Opt.ss ?_ | refine AltA.l ?_ | exact PV.leL_nil | refine PV.leL_cons ?_ ?_ | refine And.intro ?_ ?_ | refine ix_map (fun x hx => ?_) | refine exU8 ?_ | refine nilc (fun hn => ?_) ?_ | exact cl3 | refine imp0 (fun hpos => ?_) | refine fits_i64 ?_ ?_ | exact rfl | (with_reducible first | show LeG _ _ | show Lp _ _ _ _ | show Exists _ | show callX _ _ _ _ _)))) <;> (try exact cl5)
            · simp only [Bool.false_eq_true, if_false, List.length_map]; split <;> omega
            · refine exTake (min (enc v).length (enc w).length) (by simp only [List.length_map]; exact min_if _ _) ?_
              repeat' (first | exact cl1 | ((with_reducible show Exists _); refine exU8 ?_) | ((fail_if_success with_reducible first | show LeG _ _ | show Lp _ _ _ _ | show Exists _ | show callX _ _ _ _ _ | show (_ : Int) ≤ _ | show (_ : Int) < _ | show (_ : Nat) ≤ _ | show (_ : Nat) < _); (conv => whnf) <;> (first | exact cl2 | refine XAlt.l ?_ | refine Sq.pr ?_ | refine Br.dec (fun hc => ?_) (fun hc => ?_) | refine Br.tt ?_ | refine Br.ff ?_ | refine Br.not ?_ | refine Br.mk (fun hc => ?_) (fun hc => ?_) | refine Opt.nn ?_ | refine Opt.ss ?_ | refine AltA.l ?_ | exact PV.leL_nil | refine PV.leL_cons ?_ ?_ | refine And.intro ?_ ?_ | refine ix_map (fun x hx => ?_) | refine exU8 ?_ | refine nilc (fun hn => ?_) ?_ | exact cl3 | refine imp0 (fun hpos => ?_) | refine fits_i64 ?_ ?_ | exact rfl | (with_reducible first | show LeG _ _ | show Lp _ _ _ _ | show Exists _ | show callX _ _ _ _ _)))) <;> (try exact cl5)
              refine LeG.bool (decide_eq_true fun hh => ?_)
              exact pre_ne ho ho2 hv hw e ((strOf_inj (fun c hc => enc_B8 v c (List.mem_of_mem_take hc)) (fun c hc => enc_B8 w c (List.mem_of_mem_take hc))).1 hh)
      · have hen : encA w = ([], chkV w) := by unfold encA; rw [if_neg hw]
        rw [hen] at p2
        rw [encA_ok hv] at p1
        refine PCalls.of (N := 55) (res := [.tmp 4]) mixed Try.func7 rfl rfl rfl (by kernel_rfl) (by simp) [0, 1, 2, 3, 4, 5, 6, 7, 8, 9, 11, 16, 32, 35] ?_
        repeat' (first | exact cl1 | ((with_reducible show Exists _); refine exU8 ?_) | ((with_reducible show callX _ _ _ _ _); (first | refine call_p (sane_calls) (by kernel_rfl) rfl ?_ | (refine call_z (q0) (by kernel_rfl) rfl ?_; (repeat' (first | exact PV.leL_nil | refine PV.leL_cons ?_ ?_ | refine And.intro ?_ ?_ | exact Nat.zero_lt_succ _ | exact Nat.le_of_ble_eq_true rfl | exact PV.le_refl _ | exact PV.le_nil _ _ _ | exact PV.le_clip _ _ _ | refine PV.le_agg ?_ | refine PV.le_tup ?_ | rfl)); fail_if_success (any_goals (refine PV.le_of ?_))) | refine call_p (p1) (by kernel_rfl) rfl ?_ | refine call_p (p2) (by kernel_rfl) rfl ?_ | refine call_p (p3) (by kernel_rfl) rfl ?_)) | ((fail_if_success with_reducible first | show LeG _ _ | show Lp _ _ _ _ | show Exists _ | show callX _ _ _ _ _ | show (_ : Int) ≤ _ | show (_ : Int) < _ | show (_ : Nat) ≤ _ | show (_ : Nat) < _); (conv => whnf) <;> (first | exact cl2 | refine XAlt.l ?_ | refine Sq.pr ?_ | refine Br.dec (fun hc => ?_) (fun hc => ?_) | refine Br.tt ?_ | refine Br.ff ?_ | refine Br.not ?_ | refine Br.mk (fun hc => ?_) (fun hc => ?_) | refine Opt.nn ?_ | refine Opt.ss ?_ | refine AltA.l ?_ | exact PV.leL_nil | refine PV.leL_cons ?_ ?_ | refine And.intro ?_ ?_ | refine ix_map (fun x hx => ?_) | refine exU8 ?_ | refine nilc (fun hn => ?_) ?_ | exact cl3 | refine imp0 (fun hpos => ?_) | refine fits_i64 ?_ ?_ | exact rfl | (with_reducible first | show LeG _ _ | show Lp _ _ _ _ | show Exists _ | show callX _ _ _ _ _)))) <;> (try exact cl5)
    · have hen : encA v = ([], chkV v) := by unfold encA; rw [if_neg hv]
      rw [hen] at p1
      refine PCalls.of (N := 55) (res := [.tmp 4]) mixed Try.func7 rfl rfl rfl (by kernel_rfl) (by simp) [0, 1, 2, 3, 4, 5, 6, 7, 8, 9, 11, 16, 32, 35] ?_
      repeat' (first | exact cl1 | ((with_reducible show Exists _); refine exU8 ?_) | ((with_reducible show callX _ _ _ _ _); (first | refine call_p (sane_calls) (by kernel_rfl) rfl ?_ | (refine call_z (q0) (by kernel_rfl) rfl ?_; (repeat' (first | exact PV.leL_nil | refine PV.leL_cons ?_ ?_ | refine And.intro ?_ ?_ | exact Nat.zero_lt_succ _ | exact Nat.le_of_ble_eq_true rfl | exact PV.le_refl _ | exact PV.le_nil _ _ _ | exact PV.le_clip _ _ _ | refine PV.le_agg ?_ | refine PV.le_tup ?_ | rfl)); fail_if_success (any_goals (refine PV.le_of ?_))) | refine call_p (p1) (by kernel_rfl) rfl ?_ | refine call_p (p2) (by kernel_rfl) rfl ?_ | refine call_p (p3) (by kernel_rfl) rfl ?_)) | ((fail_if_success with_reducible first | show LeG _ _ | show Lp _ _ _ _ | show Exists _ | show callX _ _ _ _ _ | show (_ : Int) ≤ _ | show (_ : Int) < _ | show (_ : Nat) ≤ _ | show (_ : Nat) < _); (conv => whnf) <;> (first | exact cl2 | refine XAlt.l ?_ | refine Sq.pr ?_ | refine Br.dec (fun hc => ?_) (fun hc => ?_) | refine Br.tt ?_ | refine Br.ff ?_ | refine Br.not ?_ | refine Br.mk (fun hc => ?_) (fun hc => ?_) | refine Opt.nn ?_ | refine Opt.ss ?_ | refine AltA.l ?_ | exact PV.leL_nil | refine PV.leL_cons ?_ ?_ | refine And.intro ?_ ?_ | refine ix_map (fun x hx => ?_) | refine exU8 ?_ | refine nilc (fun hn => ?_) ?_ | exact cl3 | refine imp0 (fun hpos => ?_) | refine fits_i64 ?_ ?_ | exact rfl | (with_reducible first | show LeG _ _ | show Lp _ _ _ _ | show Exists _ | show callX _ _ _ _ _)))) <;> (try exact cl5)
end Go.Proofs.Ytkgjhghbnocnbaa

namespace Go.Proofs.Ytkgjhghbnocnbaa
open Go Go.Sg
set_option maxRecDepth 100000
set_option maxHeartbeats 40000000
theorem nml_pos (u : Nat) : 1 ≤ (nml u).length := by
  by_cases h : u < 128
  · rw [nml_lt h]; exact Nat.le_refl _
  · rw [nml_ge h]; simp
theorem nml_mono : ∀ u w : Nat, u ≤ w → (nml u).length ≤ (nml w).length := by
  intro u
  induction u using Nat.strongRecOn with
  | _ u ih =>
    intro w h
    by_cases hu : u < 128
    · rw [nml_lt hu]; exact nml_pos w
    · rw [nml_ge hu, nml_ge (by omega : ¬ w < 128)]
      have := ih (u / 128) (by omega) (w / 128) (by omega)
      simp only [List.length_cons]; omega
def vI (n : Int) : Vl := .mk 1 n ByteArray.empty []
theorem vI_chk (n : Int) : chkV (vI n) = 0 := by
  have hf : frm (vI n) = true := by unfold vI; rw [frm_int, decide_eq_true rfl]; rfl
  have hd : dep (vI n) = 0 := dep_no (by decide)
  unfold chkV; rw [hf, hd]; rfl
theorem vI_enc (n : Int) : enc (vI n) = 1 :: nml (zz n) := enc_int
theorem vI_ok {n : Int} (h : I64 n) : Ok (vI n) := by
  have hd : dep (vI n) = 0 := dep_no (by decide)
  have h10 := nml_len64 (zz_lt h)
  exact ⟨⟨⟨by decide, trivial⟩, by rw [hd]; decide⟩, ⟨h, trivial⟩, fun _ => by rw [vI_enc, List.length_cons]; omega⟩
theorem numbers_calls (x y : Int) (hx : I64 x) (hy : I64 y) : PCalls Try.prog 9 [eI x, eI y] (.bool true) := by
  have p1 := int_calls x
  have p2 := int_calls y
  have p3 := size_calls (vI x) (vI_ok hx)
  have p4 := size_calls (vI y) (vI_ok hy)
  have p5 := encode_calls (vI x) (vI_ok hx)
  rw [encA_ok (vI_chk x), vI_enc] at p3 p5
  rw [encA_ok (vI_chk y), vI_enc] at p4
  have hlx := nml_len64 (zz_lt hx)
  have p6 := decode_calls (enc (vI x)) (by rw [vI_enc, List.length_cons]; omega) (enc_B8 _)
  rw [decA_enc (vI_chk x) (vI_ok hx).nm (by rw [vI_enc, List.length_cons]; omega), vI_enc] at p6
  have m1 : 0 ≤ x → x ≤ y → (nml (zz x)).length ≤ (nml (zz y)).length := fun h1 h2 => nml_mono _ _ (by unfold zz; split <;> split <;> omega)
  have m2 : x < 0 → y ≤ x → (nml (zz x)).length ≤ (nml (zz y)).length := fun h1 h2 => nml_mono _ _ (by unfold zz; split <;> split <;> omega)
  have l1 := nml_pos (zz x)
  have l2 := nml_pos (zz y)
  have l3 := nml_len64 (zz_lt hx)
  have l4 := nml_len64 (zz_lt hy)
  simp only [List.length_cons] at p3 p4
  generalize (nml (zz x)).length = a at *
  generalize (nml (zz y)).length = b at *
  refine PCalls.of (N := 114) (res := [.tmp 4]) mixed Try.func9 rfl rfl rfl (by kernel_rfl) (by simp) [0, 1, 4, 5, 6, 7, 8, 9, 10, 11, 12, 14, 48, 74] ?_
  repeat' (first | exact cl1 | ((with_reducible show Exists _); refine exU8 ?_) | ((with_reducible show callX _ _ _ _ _); (first | refine call_p (sane_calls) (by kernel_rfl) rfl ?_ | refine call_p (p1) (by kernel_rfl) rfl ?_ | refine call_p (p2) (by kernel_rfl) rfl ?_ | refine call_p (p3) (by kernel_rfl) rfl ?_ | refine call_p (p4) (by kernel_rfl) rfl ?_ | refine call_p (p5) (by kernel_rfl) rfl ?_ | refine call_p (p6) (by kernel_rfl) rfl ?_)) | ((fail_if_success with_reducible first | show LeG _ _ | show Lp _ _ _ _ | show Exists _ | show callX _ _ _ _ _ | show (_ : Int) ≤ _ | show (_ : Int) < _ | show (_ : Nat) ≤ _ | show (_ : Nat) < _); (conv => whnf) <;> (first | exact cl2 | refine XAlt.l ?_ | refine Sq.pr ?_ | refine Br.dec (fun hc => ?_) (fun hc => ?_) | refine Br.tt ?_ | refine Br.ff ?_ | refine Br.not ?_ | refine Br.mk (fun hc => ?_) (fun hc => ?_) | refine Opt.nn ?_ | refine Opt.ss ?_ | refine AltA.l ?_ | exact PV.leL_nil | refine PV.leL_cons ?_ ?_ | refine And.intro ?_ ?_ | refine ix_map (fun x hx => ?_) | refine exU8 ?_ | refine nilc (fun hn => ?_) ?_ | exact cl3 | refine imp0 (fun hpos => ?_) | refine fits_i64 ?_ ?_ | exact rfl | (with_reducible first | show LeG _ _ | show Lp _ _ _ _ | show Exists _ | show callX _ _ _ _ _)))) <;> (try exact cl5)
  all_goals first
  | exact LeG.bool (decide_eq_true rfl)
  | exact (hc rfl).elim
  | (exfalso; omega)
end Go.Proofs.Ytkgjhghbnocnbaa

namespace Go.Proofs.Ytkgjhghbnocnbaa
open Go Go.Sg
set_option maxRecDepth 100000
set_option maxHeartbeats 40000000
def lsV (n t : Nat) (l : List PV) : AV := match l with
  | [] => .p (.sl 0 true [])
  | a :: r => .rsl n t 0 (a :: r).length
def lsH (n t : Nat) (l : List PV) : Heap := match l with
  | [] => []
  | a :: r => [(n, .row t (a :: r))]
def vL (l : List Vl) : Vl := .mk 3 0 ByteArray.empty l
theorem numsL_of' {l : List Vl} (h : ∀ x ∈ l, nums x) : numsL l := numsL_of h
theorem zeros_encs : ∀ n : Nat, (encs (List.replicate n (vI 0))).length = 2 * n
  | 0 => rfl
  | n + 1 => by
    have ih := zeros_encs n
    rw [List.replicate_succ, encs, List.length_append, ih, vI_enc, show zz 0 = 0 from rfl, nml_lt (by decide)]
    simp only [List.length_cons, List.length_nil]; omega
theorem zeros_chk (n : Nat) : chkV (vL (List.replicate n (vI 0))) = 0 := by
  have hf : frm (vL (List.replicate n (vI 0))) = true := by
    unfold vL; rw [frm_list, decide_eq_true rfl, decide_eq_true rfl]
    simp only [Bool.true_and, List.all_eq_true]
    intro x hx
    rw [(List.mem_replicate.1 hx).2]; exact chk_frm (vI_chk 0)
  have hd : deps (List.replicate n (vI 0)) ≤ 0 := deps_le.2 fun x hx => by
    rw [(List.mem_replicate.1 hx).2]; exact Nat.le_of_eq (dep_no (by decide))
  unfold chkV; rw [hf, if_pos rfl, if_neg]
  unfold vL; rw [dep_list]; omega
theorem vL_ok {l : List Vl} (hl : l.length ≤ 20) (h : ∀ x ∈ l, Ok x ∧ dep x ≤ 21 ∧ (enc x).length ≤ 60000) : Ok (vL l) := by
  have hd : deps l ≤ 21 := deps_le.2 fun x hx => (h x hx).2.1
  have hs := encs_sum (f := fun _ => 200) l (fun x hx => (h x hx).2.2)
  have e : (l.map fun _ => 200).sum = 200 * l.length := by
    clear hs hd h hl
    induction l with
    | nil => rfl
    | cons a r ih => simp only [List.map_cons, List.sum_cons, List.length_cons, ih]; omega
  refine ⟨⟨⟨by omega, lensL_of fun x hx => (h x hx).1.sm.1⟩, ?_⟩, ⟨(by unfold I64; omega), numsL_of fun x hx => (h x hx).1.nm⟩, fun _ => ?_⟩
  · unfold vL; rw [dep_list]; omega
  · have h10 := nml_len64 (u := l.length) (by omega)
    unfold vL; rw [enc_list, List.length_cons, List.length_append]; omega
/-- A list's Check, from its elements'. -/
theorem vL_chk {l : List Vl} (h : ∀ x ∈ l, chkV x = 0) : chkV (vL l) = 0 ∨ chkV (vL l) = 2 := by
  have hf : frm (vL l) = true := by
    unfold vL; rw [frm_list, decide_eq_true rfl, decide_eq_true rfl]
    simp only [Bool.true_and, List.all_eq_true]
    exact fun x hx => chk_frm (h x hx)
  unfold chkV; rw [hf, if_pos rfl]
  split <;> simp
theorem vL_bad {l : List Vl} {x : Vl} (hx : x ∈ l) (h : ¬ chkV x = 0) : ¬ chkV (vL l) = 0 := fun hc => h (by
  have hf := chk_frm hc
  have hd := chk_dep hc
  unfold vL at hf hd
  rw [frm_list] at hf
  simp only [Bool.and_eq_true, List.all_eq_true] at hf
  rw [dep_list] at hd
  have := dep_mem hx
  unfold chkV; rw [hf.2 x hx, if_pos rfl, if_neg (by omega)])
theorem exDrop {b : List Int} {n N : Int} {K : List Int → Prop} (m : Nat) (hn : n = (m : Int)) (hN : N = ((b.length : Nat) : Int)) (h : K (b.drop m)) : ∃ q, u8s (List.drop n.toNat (List.take N.toNat (b.map (PV.int .u8)))) = some q ∧ K q := by
  subst hn; subst hN
  rw [Int.toNat_natCast, Int.toNat_natCast, List.take_of_length_le (by rw [List.length_map]; exact Nat.le_refl _), ← List.map_drop]
  exact ⟨_, u8s_map _, h⟩
theorem lists_calls (l : List Vl) (h : okVL l) : PCalls Try.prog 8 [eVL l] (.bool true) := by
  have q0 := fews_calls l (Nat.le_of_lt (Nat.lt_of_le_of_lt h.1 (Nat.lt_trans reachBytes_lt (by decide)))) (fun x hx => okV_strs x (h.2 x hx))
  cases hf : l.all fewV with
  | false =>
    rw [hf] at q0
    refine PCalls.of (N := 127) (res := [.tmp 2]) mixed Try.func8 rfl rfl rfl (by kernel_rfl) (by simp) [0, 2, 3, 4, 5, 7, 8, 9, 10, 11, 13, 14, 15, 16, 17, 18, 20, 28, 29, 30, 31, 32, 57, 59, 86] ?_
    repeat' (first | exact cl1 | ((with_reducible show Exists _); refine exU8 ?_) | ((with_reducible show callX _ _ _ _ _); (first | refine call_p (sane_calls) (by kernel_rfl) rfl ?_ | refine call_p (q0) (by kernel_rfl) rfl ?_)) | ((fail_if_success with_reducible first | show LeG _ _ | show Lp _ _ _ _ | show Exists _ | show callX _ _ _ _ _ | show (_ : Int) ≤ _ | show (_ : Int) < _ | show (_ : Nat) ≤ _ | show (_ : Nat) < _); (conv => whnf) <;> (first | exact cl2 | refine XAlt.l ?_ | refine Sq.pr ?_ | refine Br.dec (fun hc => ?_) (fun hc => ?_) | refine Br.tt ?_ | refine Br.ff ?_ | refine Br.not ?_ | refine Br.mk (fun hc => ?_) (fun hc => ?_) | refine Opt.nn ?_ | refine Opt.ss ?_ | refine AltA.l ?_ | exact PV.leL_nil | refine PV.leL_cons ?_ ?_ | refine And.intro ?_ ?_ | refine ix_map (fun x hx => ?_) | refine exU8 ?_ | refine nilc (fun hn => ?_) ?_ | exact cl3 | refine imp0 (fun hpos => ?_) | refine fits_i64 ?_ ?_ | exact rfl | (with_reducible first | show LeG _ _ | show Lp _ _ _ _ | show Exists _ | show callX _ _ _ _ _)))) <;> (try exact cl5)
  | true =>
    rw [hf] at q0
    rw [List.all_eq_true] at hf
    have hall : ∀ x ∈ l, Ok x ∧ dep x ≤ 21 ∧ (enc x).length ≤ 60000 := fun x hx => few_ok (hf x hx) (okV_nums x (h.2 x hx))
    by_cases hl : l.length > 20
    · have hl' : (20 : Int) < ((l.map eV).length : Int) := by rw [List.length_map]; omega
      refine PCalls.of (N := 127) (res := [.tmp 2]) mixed Try.func8 rfl rfl rfl (by kernel_rfl) (by simp) [0, 2, 3, 4, 5, 7, 8, 9, 10, 11, 13, 14, 15, 16, 17, 18, 20, 28, 29, 30, 31, 32, 57, 59, 86] ?_
      repeat' (first | exact cl1 | ((with_reducible show Exists _); refine exU8 ?_) | ((with_reducible show callX _ _ _ _ _); (first | refine call_p (sane_calls) (by kernel_rfl) rfl ?_ | refine call_p (q0) (by kernel_rfl) rfl ?_)) | ((fail_if_success with_reducible first | show LeG _ _ | show Lp _ _ _ _ | show Exists _ | show callX _ _ _ _ _ | show (_ : Int) ≤ _ | show (_ : Int) < _ | show (_ : Nat) ≤ _ | show (_ : Nat) < _); (conv => whnf) <;> (first | exact cl2 | refine Br.dec (fun hc => ?_) (fun hc => absurd hl' hc) | refine XAlt.l ?_ | refine Sq.pr ?_ | refine Br.dec (fun hc => ?_) (fun hc => ?_) | refine Br.tt ?_ | refine Br.ff ?_ | refine Br.not ?_ | refine Br.mk (fun hc => ?_) (fun hc => ?_) | refine Opt.nn ?_ | refine Opt.ss ?_ | refine AltA.l ?_ | exact PV.leL_nil | refine PV.leL_cons ?_ ?_ | refine And.intro ?_ ?_ | refine ix_map (fun x hx => ?_) | refine exU8 ?_ | refine nilc (fun hn => ?_) ?_ | exact cl3 | refine imp0 (fun hpos => ?_) | refine fits_i64 ?_ ?_ | exact rfl | (with_reducible first | show LeG _ _ | show Lp _ _ _ _ | show Exists _ | show callX _ _ _ _ _)))) <;> (try exact cl5)
    · have hl' : ¬ (20 : Int) < ((l.map eV).length : Int) := by rw [List.length_map]; omega
      have p1 := list_calls l
      have okL := vL_ok (by omega) hall
      have p2 := encode_calls (vL l) okL
      refine PCalls.of (N := 127) (res := [.tmp 2]) mixed Try.func8 rfl rfl rfl (by kernel_rfl) (by simp) [0, 2, 3, 4, 5, 7, 8, 9, 10, 11, 13, 14, 15, 16, 17, 18, 20, 28, 29, 30, 31, 32, 57, 59, 86] ?_
      repeat' (first | exact cl1 | ((with_reducible show Exists _); refine exU8 ?_) | ((with_reducible show callX _ _ _ _ _); (first | refine call_p (sane_calls) (by kernel_rfl) rfl ?_ | refine call_p (q0) (by kernel_rfl) rfl ?_)) | ((fail_if_success with_reducible first | show LeG _ _ | show Lp _ _ _ _ | show Exists _ | show callX _ _ _ _ _ | show (_ : Int) ≤ _ | show (_ : Int) < _ | show (_ : Nat) ≤ _ | show (_ : Nat) < _); (conv => whnf) <;> (first | exact cl2 | refine Br.dec (fun hc => absurd hc hl') (fun hc => ?_) | refine XAlt.l ?_ | refine Sq.pr ?_ | refine Br.dec (fun hc => ?_) (fun hc => ?_) | refine Br.tt ?_ | refine Br.ff ?_ | refine Br.not ?_ | refine Br.mk (fun hc => ?_) (fun hc => ?_) | refine Opt.nn ?_ | refine Opt.ss ?_ | refine AltA.l ?_ | exact PV.leL_nil | refine PV.leL_cons ?_ ?_ | refine And.intro ?_ ?_ | refine ix_map (fun x hx => ?_) | refine exU8 ?_ | refine nilc (fun hn => ?_) ?_ | exact cl3 | refine imp0 (fun hpos => ?_) | refine fits_i64 ?_ ?_ | exact rfl | (with_reducible first | show LeG _ _ | show Lp _ _ _ _ | show Exists _ | show callX _ _ _ _ _)))) <;> (try exact cl5)
      refine Wpc.loopA (α := {p : Nat × List Int // p.1 ≤ l.length ∧ p.2 = encs (l.take p.1) ∧ ∀ x ∈ l.take p.1, chkV x = 0}) mixed [0, 2, 3, 4, 5, 7, 8, 9, 10, 11, 13, 14, 15, 16, 17, 18, 20, 28, 29, 30, 31, 32, 57, 59, 86] (fun p => [(3, lsV 1 1 (p.1.2.map (.int .u8))), (4, lsV 2 4 (List.replicate p.1.1 (eW (vI 0)))), (5, .p (eI p.1.2.length)), (31, .p (eI p.1.1))]) (fun p => lsH 1 1 (p.1.2.map (.int .u8)) ++ lsH 2 4 (List.replicate p.1.1 (eW (vI 0)))) (fun _ => 0) (fun p => l.length - p.1.1) ⟨(0, []), Nat.zero_le _, rfl, fun x hx => absurd hx (by simp)⟩ ?_ ?_
      · (first | refine Ent.ofA [] ?_ | refine Ent.ofC [] ?_) <;> (repeat' (first | exact trivial | refine HpLe.dd ?_ | refine HpLe.mk rfl (by simp) rfl (fun h => AObj.noConfusion h) ?_ ?_ | refine And.intro ?_ ?_ | exact cl9 | exact VLe.p (PV.le_nil _ _ _) | refine VLe.pe ?_ | refine VLe.agg ?_ | refine VLe.tup ?_ | refine VLe.fn ?_ ?_ | refine VLeL.cons ?_ ?_ | exact VLeL.nil | exact OLe.row _ _ | rfl | refine VLe.rsle rfl ?_ ?_ ?_ | refine OLe.rowe2 ?_ ?_ | refine OLe.mape ?_ ?_ | refine OLe.iter0 ?_ | refine OLe.itere ?_ ?_)) <;> try (first | (simp; done) | (congr 1; omega) | (congr 1; (first | (simp; done) | (simp; omega))))
      rintro ⟨⟨i, E⟩, hi, hE, hch⟩
      have hi : i ≤ l.length := hi
      have hE : E = encs (l.take i) := hE
      have hch : ∀ x ∈ l.take i, chkV x = 0 := hch
      have hEl : E.length ≤ 1200000 := by
        have hs := encs_sum (f := fun _ => 200) (l.take i) (fun x hx => (hall x (List.mem_of_mem_take hx)).2.2)
        have e : ∀ m : List Vl, (m.map fun _ => 200).sum = 200 * m.length := fun m => by
          induction m with
          | nil => rfl
          | cons a r ih => simp only [List.map_cons, List.sum_cons, List.length_cons, ih]; omega
        rw [e, List.length_take, ← hE] at hs; omega
      have hi0 : i = 0 → E = [] := fun h => by rw [hE, h]; rfl
      have hi1 : ∀ k, i = k + 1 → ∃ a r, E = a :: r ∧ r.length ≤ 1200000 := fun k h => by
        have := encs_len (l.take i)
        rw [List.length_take, ← hE] at this
        cases E with
        | nil => rw [List.length_nil] at this; omega
        | cons a r => exact ⟨a, r, rfl, by rw [List.length_cons] at hEl; omega⟩
      cases hxi : l[i]? with
      | none =>
        have hge : l.length ≤ i := List.getElem?_eq_none_iff.1 hxi
        have hno : ¬ ((i : Int) < ((l.map eV).length : Int)) := by rw [List.length_map]; omega
        rw [List.take_of_length_le hge] at hE hch
        rcases vL_chk hch with hv | hv
        · rw [encA_ok hv] at p2
          have e3 : enc (vL l) = 3 :: (nml l.length ++ encs l) := enc_list
          have p3 := list_calls (List.replicate i (vI 0))
          have ok0 : Ok (vL (List.replicate i (vI 0))) := vL_ok (by rw [List.length_replicate]; omega) fun x hx => by
            rw [(List.mem_replicate.1 hx).2]
            exact ⟨vI_ok (by unfold I64; omega), by rw [show dep (vI 0) = 0 from dep_no (by decide)]; decide, by rw [vI_enc, show zz 0 = 0 from rfl, nml_lt (by decide)]; decide⟩
          have p4 := size_calls _ ok0
          have ez : (enc (vL (List.replicate i (vI 0)))).length = 1 + ((nml i).length + 2 * i) := by
            unfold vL; rw [enc_list, List.length_cons, List.length_append, zeros_encs, List.length_replicate]; omega
          rw [encA_ok (zeros_chk i)] at p4
          dsimp only at p2 p4
          rw [ez] at p4
          rw [e3] at p2
          rw [← hE] at p2
          cases i with
          | zero =>
            have hE0 := hi0 rfl
            subst hE0
            have hl0 : l = [] := List.eq_nil_of_length_eq_zero (by omega)
            subst hl0
            rw [show (([] : List Vl).length) = 0 from rfl, nml_lt (u := 0) (by decide)] at p2
            rw [nml_lt (u := 0) (by decide)] at p4
            repeat' (first | exact cl1 | ((with_reducible show Exists _); refine exU8 ?_) | ((with_reducible show callX _ _ _ _ _); (first | refine call_p (p1) (by kernel_rfl) rfl ?_ | refine call_p (p2) (by kernel_rfl) rfl ?_ | (refine call_z (p3) (by kernel_rfl) rfl ?_; (repeat' (first | exact PV.leL_nil | refine PV.leL_cons ?_ ?_ | refine And.intro ?_ ?_ | exact Nat.zero_lt_succ _ | exact Nat.le_of_ble_eq_true rfl | exact PV.le_refl _ | exact PV.le_nil _ _ _ | exact PV.le_clip _ _ _ | refine PV.le_agg ?_ | refine PV.le_tup ?_ | rfl)); fail_if_success (any_goals (refine PV.le_of ?_))) | refine call_p (p4) (by kernel_rfl) rfl ?_)) | ((fail_if_success with_reducible first | show LeG _ _ | show Lp _ _ _ _ | show Exists _ | show callX _ _ _ _ _ | show (_ : Int) ≤ _ | show (_ : Int) < _ | show (_ : Nat) ≤ _ | show (_ : Nat) < _); (conv => whnf) <;> (first | exact cl2 | refine Br.dec (fun hc => absurd hc hno) (fun hc => ?_) | refine XAlt.l ?_ | refine Sq.pr ?_ | refine Br.dec (fun hc => ?_) (fun hc => ?_) | refine Br.tt ?_ | refine Br.ff ?_ | refine Br.not ?_ | refine Br.mk (fun hc => ?_) (fun hc => ?_) | refine Opt.nn ?_ | refine Opt.ss ?_ | refine AltA.l ?_ | exact PV.leL_nil | refine PV.leL_cons ?_ ?_ | refine And.intro ?_ ?_ | refine ix_map (fun x hx => ?_) | refine exU8 ?_ | refine nilc (fun hn => ?_) ?_ | exact cl3 | refine imp0 (fun hpos => ?_) | refine fits_i64 ?_ ?_ | exact rfl | (with_reducible first | show LeG _ _ | show Lp _ _ _ _ | show Exists _ | show callX _ _ _ _ _)))) <;> (try exact cl5)
            · refine exDrop 2 rfl rfl ?_
              repeat' (first | exact cl1 | ((with_reducible show Exists _); refine exU8 ?_) | ((fail_if_success with_reducible first | show LeG _ _ | show Lp _ _ _ _ | show Exists _ | show callX _ _ _ _ _ | show (_ : Int) ≤ _ | show (_ : Int) < _ | show (_ : Nat) ≤ _ | show (_ : Nat) < _); (conv => whnf) <;> (first | exact cl2 | refine XAlt.l ?_ | refine Sq.pr ?_ | refine Br.dec (fun hc => ?_) (fun hc => ?_) | refine Br.tt ?_ | refine Br.ff ?_ | refine Br.not ?_ | refine Br.mk (fun hc => ?_) (fun hc => ?_) | refine Opt.nn ?_ | refine Opt.ss ?_ | refine AltA.l ?_ | exact PV.leL_nil | refine PV.leL_cons ?_ ?_ | refine And.intro ?_ ?_ | refine ix_map (fun x hx => ?_) | refine exU8 ?_ | refine nilc (fun hn => ?_) ?_ | exact cl3 | refine imp0 (fun hpos => ?_) | refine fits_i64 ?_ ?_ | exact rfl | (with_reducible first | show LeG _ _ | show Lp _ _ _ _ | show Exists _ | show callX _ _ _ _ _)))) <;> (try exact cl5)
              refine ⟨[], rfl, ?_⟩
              repeat' (first | exact cl1 | ((with_reducible show Exists _); refine exU8 ?_) | ((fail_if_success with_reducible first | show LeG _ _ | show Lp _ _ _ _ | show Exists _ | show callX _ _ _ _ _ | show (_ : Int) ≤ _ | show (_ : Int) < _ | show (_ : Nat) ≤ _ | show (_ : Nat) < _); (conv => whnf) <;> (first | exact cl2 | refine XAlt.l ?_ | refine Sq.pr ?_ | refine Br.dec (fun hc => ?_) (fun hc => ?_) | refine Br.tt ?_ | refine Br.ff ?_ | refine Br.not ?_ | refine Br.mk (fun hc => ?_) (fun hc => ?_) | refine Opt.nn ?_ | refine Opt.ss ?_ | refine AltA.l ?_ | exact PV.leL_nil | refine PV.leL_cons ?_ ?_ | refine And.intro ?_ ?_ | refine ix_map (fun x hx => ?_) | refine exU8 ?_ | refine nilc (fun hn => ?_) ?_ | exact cl3 | refine imp0 (fun hpos => ?_) | refine fits_i64 ?_ ?_ | exact rfl | (with_reducible first | show LeG _ _ | show Lp _ _ _ _ | show Exists _ | show callX _ _ _ _ _)))) <;> (try exact cl5)
            · exfalso; simp only [List.length_map, List.length_append, List.length_cons, List.length_nil] at *; omega
            · exfalso; simp only [List.length_map, List.length_append, List.length_cons, List.length_nil] at *; omega
          | succ k =>
            obtain ⟨a, r, e, hr⟩ := hi1 k rfl
            subst e
            rw [List.replicate_succ]
            have hfz : ∀ L : List PV, List.take L.length (List.drop 0 L) = L := fun L => by rw [List.drop_zero, List.take_length]
            have hk : l.length = k + 1 := by omega
            rw [hk] at p2
            have n1 := nml_len64 (u := k + 1) (by omega)
            have n2 := nml_pos (k + 1)
            rw [show eVL (List.replicate (k + 1) (vI 0)) = .sl 4 false (List.take (eW (vI 0) :: List.replicate k (eW (vI 0))).length (List.drop 0 (eW (vI 0) :: List.replicate k (eW (vI 0))))) from by rw [hfz]; unfold eVL; rw [List.map_replicate, eV_eq]; rfl] at p3
            repeat' (first | exact cl1 | ((with_reducible show Exists _); refine exU8 ?_) | ((with_reducible show callX _ _ _ _ _); (first | refine call_p (p1) (by kernel_rfl) rfl ?_ | refine call_p (p2) (by kernel_rfl) rfl ?_ | (refine call_z (p3) (by kernel_rfl) rfl ?_; (repeat' (first | exact PV.leL_nil | refine PV.leL_cons ?_ ?_ | refine And.intro ?_ ?_ | exact Nat.zero_lt_succ _ | exact Nat.le_of_ble_eq_true rfl | exact PV.le_refl _ | exact PV.le_nil _ _ _ | exact PV.le_clip _ _ _ | refine PV.le_agg ?_ | refine PV.le_tup ?_ | rfl)); fail_if_success (any_goals (refine PV.le_of ?_))) | refine call_p (p4) (by kernel_rfl) rfl ?_)) | ((fail_if_success with_reducible first | show LeG _ _ | show Lp _ _ _ _ | show Exists _ | show callX _ _ _ _ _ | show (_ : Int) ≤ _ | show (_ : Int) < _ | show (_ : Nat) ≤ _ | show (_ : Nat) < _); (conv => whnf) <;> (first | exact cl2 | refine Br.dec (fun hc => absurd hc hno) (fun hc => ?_) | refine Sq.fz (id := 25) [(4, false)] ?_ | refine XAlt.l ?_ | refine Sq.pr ?_ | refine Br.dec (fun hc => ?_) (fun hc => ?_) | refine Br.tt ?_ | refine Br.ff ?_ | refine Br.not ?_ | refine Br.mk (fun hc => ?_) (fun hc => ?_) | refine Opt.nn ?_ | refine Opt.ss ?_ | refine AltA.l ?_ | exact PV.leL_nil | refine PV.leL_cons ?_ ?_ | refine And.intro ?_ ?_ | refine ix_map (fun x hx => ?_) | refine exU8 ?_ | refine nilc (fun hn => ?_) ?_ | exact cl3 | refine imp0 (fun hpos => ?_) | refine fits_i64 ?_ ?_ | exact rfl | (with_reducible first | show LeG _ _ | show Lp _ _ _ _ | show Exists _ | show callX _ _ _ _ _)))) <;> (try exact cl5)
            · refine exDrop (1 + (nml (k + 1)).length) (by simp only [List.length_map, List.length_append, List.length_cons]; omega) (by rw [List.length_map]) ?_
              have hd : (3 :: (nml (k + 1) ++ a :: r)).drop (1 + (nml (k + 1)).length) = a :: r := by
                rw [Nat.add_comm 1, List.drop_succ_cons, List.drop_left]
              rw [hd]
              repeat' (first | exact cl1 | ((with_reducible show Exists _); refine exU8 ?_) | ((fail_if_success with_reducible first | show LeG _ _ | show Lp _ _ _ _ | show Exists _ | show callX _ _ _ _ _ | show (_ : Int) ≤ _ | show (_ : Int) < _ | show (_ : Nat) ≤ _ | show (_ : Nat) < _); (conv => whnf) <;> (first | exact cl2 | refine XAlt.l ?_ | refine Sq.pr ?_ | refine Br.dec (fun hc => ?_) (fun hc => ?_) | refine Br.tt ?_ | refine Br.ff ?_ | refine Br.not ?_ | refine Br.mk (fun hc => ?_) (fun hc => ?_) | refine Opt.nn ?_ | refine Opt.ss ?_ | refine AltA.l ?_ | exact PV.leL_nil | refine PV.leL_cons ?_ ?_ | refine And.intro ?_ ?_ | refine ix_map (fun x hx => ?_) | refine exU8 ?_ | refine nilc (fun hn => ?_) ?_ | exact cl3 | refine imp0 (fun hpos => ?_) | refine fits_i64 ?_ ?_ | exact rfl | (with_reducible first | show LeG _ _ | show Lp _ _ _ _ | show Exists _ | show callX _ _ _ _ _)))) <;> (try exact cl5)
              refine ⟨a :: r, by rw [List.drop_zero, List.take_of_length_le (by simp)]; exact u8s_map (a :: r), ?_⟩
              repeat' (first | exact cl1 | ((with_reducible show Exists _); refine exU8 ?_) | ((fail_if_success with_reducible first | show LeG _ _ | show Lp _ _ _ _ | show Exists _ | show callX _ _ _ _ _ | show (_ : Int) ≤ _ | show (_ : Int) < _ | show (_ : Nat) ≤ _ | show (_ : Nat) < _); (conv => whnf) <;> (first | exact cl2 | refine XAlt.l ?_ | refine Sq.pr ?_ | refine Br.dec (fun hc => ?_) (fun hc => ?_) | refine Br.tt ?_ | refine Br.ff ?_ | refine Br.not ?_ | refine Br.mk (fun hc => ?_) (fun hc => ?_) | refine Opt.nn ?_ | refine Opt.ss ?_ | refine AltA.l ?_ | exact PV.leL_nil | refine PV.leL_cons ?_ ?_ | refine And.intro ?_ ?_ | refine ix_map (fun x hx => ?_) | refine exU8 ?_ | refine nilc (fun hn => ?_) ?_ | exact cl3 | refine imp0 (fun hpos => ?_) | refine fits_i64 ?_ ?_ | exact rfl | (with_reducible first | show LeG _ _ | show Lp _ _ _ _ | show Exists _ | show callX _ _ _ _ _)))) <;> (try exact cl5)
              exact LeG.bool (decide_eq_true rfl)
            · exfalso; dsimp only at *; simp only [List.length_map, List.length_append, List.length_cons] at *; omega
            · exfalso; dsimp only at *; simp only [List.length_map, List.length_append, List.length_cons] at *; omega
        · have hen2 : encA (vL l) = ([], 2) := by unfold encA; rw [if_neg (by rw [hv]; decide), hv]
          rw [hen2] at p2
          cases i with
          | zero =>
            have hE0 := hi0 rfl
            subst hE0
            repeat' (first | exact cl1 | ((with_reducible show Exists _); refine exU8 ?_) | ((with_reducible show callX _ _ _ _ _); (first | refine call_p (p1) (by kernel_rfl) rfl ?_ | refine call_p (p2) (by kernel_rfl) rfl ?_)) | ((fail_if_success with_reducible first | show LeG _ _ | show Lp _ _ _ _ | show Exists _ | show callX _ _ _ _ _ | show (_ : Int) ≤ _ | show (_ : Int) < _ | show (_ : Nat) ≤ _ | show (_ : Nat) < _); (conv => whnf) <;> (first | exact cl2 | refine Br.dec (fun hc => absurd hc hno) (fun hc => ?_) | refine XAlt.l ?_ | refine Sq.pr ?_ | refine Br.dec (fun hc => ?_) (fun hc => ?_) | refine Br.tt ?_ | refine Br.ff ?_ | refine Br.not ?_ | refine Br.mk (fun hc => ?_) (fun hc => ?_) | refine Opt.nn ?_ | refine Opt.ss ?_ | refine AltA.l ?_ | exact PV.leL_nil | refine PV.leL_cons ?_ ?_ | refine And.intro ?_ ?_ | refine ix_map (fun x hx => ?_) | refine exU8 ?_ | refine nilc (fun hn => ?_) ?_ | exact cl3 | refine imp0 (fun hpos => ?_) | refine fits_i64 ?_ ?_ | exact rfl | (with_reducible first | show LeG _ _ | show Lp _ _ _ _ | show Exists _ | show callX _ _ _ _ _)))) <;> (try exact cl5)
          | succ k =>
            obtain ⟨a, r, e, hr⟩ := hi1 k rfl
            subst e
            rw [List.replicate_succ]
            repeat' (first | exact cl1 | ((with_reducible show Exists _); refine exU8 ?_) | ((with_reducible show callX _ _ _ _ _); (first | refine call_p (p1) (by kernel_rfl) rfl ?_ | refine call_p (p2) (by kernel_rfl) rfl ?_)) | ((fail_if_success with_reducible first | show LeG _ _ | show Lp _ _ _ _ | show Exists _ | show callX _ _ _ _ _ | show (_ : Int) ≤ _ | show (_ : Int) < _ | show (_ : Nat) ≤ _ | show (_ : Nat) < _); (conv => whnf) <;> (first | exact cl2 | refine Br.dec (fun hc => absurd hc hno) (fun hc => ?_) | refine XAlt.l ?_ | refine Sq.pr ?_ | refine Br.dec (fun hc => ?_) (fun hc => ?_) | refine Br.tt ?_ | refine Br.ff ?_ | refine Br.not ?_ | refine Br.mk (fun hc => ?_) (fun hc => ?_) | refine Opt.nn ?_ | refine Opt.ss ?_ | refine AltA.l ?_ | exact PV.leL_nil | refine PV.leL_cons ?_ ?_ | refine And.intro ?_ ?_ | refine ix_map (fun x hx => ?_) | refine exU8 ?_ | refine nilc (fun hn => ?_) ?_ | exact cl3 | refine imp0 (fun hpos => ?_) | refine fits_i64 ?_ ?_ | exact rfl | (with_reducible first | show LeG _ _ | show Lp _ _ _ _ | show Exists _ | show callX _ _ _ _ _)))) <;> (try exact cl5)
      | some x =>
        have hlt : i < l.length := (List.getElem?_eq_some_iff.1 hxi).1
        have hyes : ((i : Int) < ((l.map eV).length : Int)) := by rw [List.length_map]; omega
        have hxm := List.mem_of_getElem? hxi
        have okx := (hall x hxm).1
        have hzx := (hall x hxm).2.2
        have q1 := encode_calls x okx
        have q2 := size_calls x okx
        have q3 := int_calls 0
        by_cases hc : chkV x = 0
        · rw [encA_ok hc] at q1 q2
          dsimp only at q1 q2
          have ht := encs_take hxi
          have hps := enc_pos x
          have hch' : ∀ y ∈ l.take (i + 1), chkV y = 0 := fun y hy => by
            rw [List.take_add_one, hxi] at hy
            rcases List.mem_append.1 hy with e | e
            · exact hch y e
            · simp at e; subst e; exact hc
          rw [← hE] at ht
          cases i with
          | zero =>
            have hE0 := hi0 rfl
            subst hE0
            rw [List.nil_append] at ht
            cases hx1 : enc x with
            | nil => rw [hx1] at hps; simp at hps
            | cons a r =>
            rw [hx1] at q1 q2 ht hzx
            rw [List.length_cons] at hzx
            repeat' (first | exact cl1 | ((with_reducible show Exists _); refine exU8 ?_) | ((with_reducible show callX _ _ _ _ _); (first | refine call_p (q1) (by kernel_rfl) rfl ?_ | refine call_p (q2) (by kernel_rfl) rfl ?_ | refine call_p (q3) (by kernel_rfl) rfl ?_)) | ((fail_if_success with_reducible first | show LeG _ _ | show Lp _ _ _ _ | show Exists _ | show callX _ _ _ _ _ | show (_ : Int) ≤ _ | show (_ : Int) < _ | show (_ : Nat) ≤ _ | show (_ : Nat) < _); (conv => whnf) <;> (first | exact cl2 | refine Br.dec (fun hc => ?_) (fun hc => absurd hyes hc) | refine ix_v hxi ?_ | refine XAlt.l ?_ | refine Sq.pr ?_ | refine Br.dec (fun hc => ?_) (fun hc => ?_) | refine Br.tt ?_ | refine Br.ff ?_ | refine Br.not ?_ | refine Br.mk (fun hc => ?_) (fun hc => ?_) | refine Opt.nn ?_ | refine Opt.ss ?_ | refine AltA.l ?_ | exact PV.leL_nil | refine PV.leL_cons ?_ ?_ | refine And.intro ?_ ?_ | refine ix_map (fun x hx => ?_) | refine exU8 ?_ | refine nilc (fun hn => ?_) ?_ | exact cl3 | refine imp0 (fun hpos => ?_) | refine fits_i64 ?_ ?_ | exact rfl | (with_reducible first | show LeG _ _ | show Lp _ _ _ _ | show Exists _ | show callX _ _ _ _ _)))) <;> (try exact cl5)
            · exact absurd (by rw [List.length_map]) hc
            refine ⟨⟨(0 + 1, a :: r), hlt, ht.symm, hch'⟩, by show l.length - (0 + 1) < l.length - 0; omega, ?_⟩
            (first | refine Ent.ofA [] ?_ | refine Ent.ofC [] ?_) <;> (repeat' (first | exact trivial | refine HpLe.dd ?_ | refine HpLe.mk rfl (by simp) rfl (fun h => AObj.noConfusion h) ?_ ?_ | refine And.intro ?_ ?_ | exact cl9 | refine VLe.pe ?_ | refine VLe.agg ?_ | refine VLe.tup ?_ | refine VLe.fn ?_ ?_ | refine VLeL.cons ?_ ?_ | exact VLeL.nil | exact OLe.row _ _ | rfl | refine VLe.rsle rfl ?_ ?_ ?_ | refine OLe.rowe2 ?_ ?_ | refine OLe.mape ?_ ?_ | refine OLe.iter0 ?_ | refine OLe.itere ?_ ?_)) <;> try (first | (simp; done) | (congr 1; omega) | (congr 1; (first | (simp; done) | (simp; omega))))
          | succ k =>
            obtain ⟨a, r, e, hr⟩ := hi1 k rfl
            subst e
            rw [List.replicate_succ]
            repeat' (first | exact cl1 | ((with_reducible show Exists _); refine exU8 ?_) | ((with_reducible show callX _ _ _ _ _); (first | refine call_p (q1) (by kernel_rfl) rfl ?_ | refine call_p (q2) (by kernel_rfl) rfl ?_ | refine call_p (q3) (by kernel_rfl) rfl ?_)) | ((fail_if_success with_reducible first | show LeG _ _ | show Lp _ _ _ _ | show Exists _ | show callX _ _ _ _ _ | show (_ : Int) ≤ _ | show (_ : Int) < _ | show (_ : Nat) ≤ _ | show (_ : Nat) < _); (conv => whnf) <;> (first | exact cl2 | refine Br.dec (fun hc => ?_) (fun hc => absurd hyes hc) | refine ix_v hxi ?_ | refine XAlt.l ?_ | refine Sq.pr ?_ | refine Br.dec (fun hc => ?_) (fun hc => ?_) | refine Br.tt ?_ | refine Br.ff ?_ | refine Br.not ?_ | refine Br.mk (fun hc => ?_) (fun hc => ?_) | refine Opt.nn ?_ | refine Opt.ss ?_ | refine AltA.l ?_ | exact PV.leL_nil | refine PV.leL_cons ?_ ?_ | refine And.intro ?_ ?_ | refine ix_map (fun x hx => ?_) | refine exU8 ?_ | refine nilc (fun hn => ?_) ?_ | exact cl3 | refine imp0 (fun hpos => ?_) | refine fits_i64 ?_ ?_ | exact rfl | (with_reducible first | show LeG _ _ | show Lp _ _ _ _ | show Exists _ | show callX _ _ _ _ _)))) <;> (try exact cl5)
            · exact absurd (by rw [List.length_map]) hc
            refine ⟨⟨(k + 1 + 1, a :: r ++ enc x), hlt, ht.symm, hch'⟩, by show l.length - (k + 1 + 1) < l.length - (k + 1); omega, ?_⟩
            (first | refine Ent.ofA [] ?_ | refine Ent.ofC [] ?_) <;> (repeat' (first | exact trivial | refine HpLe.dd ?_ | refine HpLe.mk rfl (by simp) rfl (fun h => AObj.noConfusion h) ?_ ?_ | refine And.intro ?_ ?_ | exact cl9 | refine VLe.pe ?_ | refine VLe.agg ?_ | refine VLe.tup ?_ | refine VLe.fn ?_ ?_ | refine VLeL.cons ?_ ?_ | exact VLeL.nil | exact OLe.row _ _ | rfl | refine VLe.rsle rfl ?_ ?_ ?_ | refine OLe.rowe2 ?_ ?_ | refine OLe.mape ?_ ?_ | refine OLe.iter0 ?_ | refine OLe.itere ?_ ?_)) <;> try (first | (simp; done) | (congr 1; omega) | (congr 1; (first | (simp; done) | (simp; omega))))
            · simp; omega
            · show eW (vI 0) :: List.replicate k (eW (vI 0)) ++ [eW (vI 0)] = eW (vI 0) :: List.replicate (k + 1) (eW (vI 0))
              rw [List.cons_append, ← List.replicate_succ']
        · have hen : encA x = ([], chkV x) := by unfold encA; rw [if_neg hc]
          have hbad := vL_bad hxm hc
          have hen2 : encA (vL l) = ([], chkV (vL l)) := by unfold encA; rw [if_neg hbad]
          rw [hen] at q1 q2
          rw [hen2] at p2
          cases i with
          | zero =>
            have hE0 := hi0 rfl
            subst hE0
            repeat' (first | exact cl1 | ((with_reducible show Exists _); refine exU8 ?_) | ((with_reducible show callX _ _ _ _ _); (first | refine call_p (p1) (by kernel_rfl) rfl ?_ | refine call_p (p2) (by kernel_rfl) rfl ?_ | refine call_p (q1) (by kernel_rfl) rfl ?_ | refine call_p (q2) (by kernel_rfl) rfl ?_)) | ((fail_if_success with_reducible first | show LeG _ _ | show Lp _ _ _ _ | show Exists _ | show callX _ _ _ _ _ | show (_ : Int) ≤ _ | show (_ : Int) < _ | show (_ : Nat) ≤ _ | show (_ : Nat) < _); (conv => whnf) <;> (first | exact cl2 | refine Br.dec (fun hc => ?_) (fun hc => absurd hyes hc) | refine ix_v hxi ?_ | refine XAlt.l ?_ | refine Sq.pr ?_ | refine Br.dec (fun hc => ?_) (fun hc => ?_) | refine Br.tt ?_ | refine Br.ff ?_ | refine Br.not ?_ | refine Br.mk (fun hc => ?_) (fun hc => ?_) | refine Opt.nn ?_ | refine Opt.ss ?_ | refine AltA.l ?_ | exact PV.leL_nil | refine PV.leL_cons ?_ ?_ | refine And.intro ?_ ?_ | refine ix_map (fun x hx => ?_) | refine exU8 ?_ | refine nilc (fun hn => ?_) ?_ | exact cl3 | refine imp0 (fun hpos => ?_) | refine fits_i64 ?_ ?_ | exact rfl | (with_reducible first | show LeG _ _ | show Lp _ _ _ _ | show Exists _ | show callX _ _ _ _ _)))) <;> (try exact cl5)
            all_goals exact LeG.bool (decide_eq_true hbad)
          | succ k =>
            obtain ⟨a, r, e, hr⟩ := hi1 k rfl
            subst e
            rw [List.replicate_succ]
            repeat' (first | exact cl1 | ((with_reducible show Exists _); refine exU8 ?_) | ((with_reducible show callX _ _ _ _ _); (first | refine call_p (p1) (by kernel_rfl) rfl ?_ | refine call_p (p2) (by kernel_rfl) rfl ?_ | refine call_p (q1) (by kernel_rfl) rfl ?_ | refine call_p (q2) (by kernel_rfl) rfl ?_)) | ((fail_if_success with_reducible first | show LeG _ _ | show Lp _ _ _ _ | show Exists _ | show callX _ _ _ _ _ | show (_ : Int) ≤ _ | show (_ : Int) < _ | show (_ : Nat) ≤ _ | show (_ : Nat) < _); (conv => whnf) <;> (first | exact cl2 | refine Br.dec (fun hc => ?_) (fun hc => absurd hyes hc) | refine ix_v hxi ?_ | refine XAlt.l ?_ | refine Sq.pr ?_ | refine Br.dec (fun hc => ?_) (fun hc => ?_) | refine Br.tt ?_ | refine Br.ff ?_ | refine Br.not ?_ | refine Br.mk (fun hc => ?_) (fun hc => ?_) | refine Opt.nn ?_ | refine Opt.ss ?_ | refine AltA.l ?_ | exact PV.leL_nil | refine PV.leL_cons ?_ ?_ | refine And.intro ?_ ?_ | refine ix_map (fun x hx => ?_) | refine exU8 ?_ | refine nilc (fun hn => ?_) ?_ | exact cl3 | refine imp0 (fun hpos => ?_) | refine fits_i64 ?_ ?_ | exact rfl | (with_reducible first | show LeG _ _ | show Lp _ _ _ _ | show Exists _ | show callX _ _ _ _ _)))) <;> (try exact cl5)
            all_goals exact LeG.bool (decide_eq_true hbad)
end Go.Proofs.Ytkgjhghbnocnbaa
