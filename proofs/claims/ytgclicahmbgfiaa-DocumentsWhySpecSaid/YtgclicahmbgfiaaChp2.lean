/- A part of the proof: contracts of the functions that the statement reaches. -/
import Derived.Test.YtgclicahmbgfiaaChp1
import Derived.Test.YtgclicahmbgfiaaRows
set_option linter.unusedSimpArgs false
set_option linter.unusedVariables false
set_option linter.unnecessarySimpa false
set_option maxRecDepth 100000
set_option maxHeartbeats 40000000
open Go.Sg.XAlt renaming l → kX
open Go.Sg.Sq renaming pr → kP
open Go.Sg.Br renaming tt → kT, ff → kF, not → kN, dec → kBd, mk → kBm
open Go.Sg.Opt renaming nn → kO, ss → kS
open Go.Sg.AltA renaming l → kA
open Go.Sg.PV renaming leL_cons → kC
open Go.Sg renaming fits_i64 → kG
open Go.Sg.VLe renaming pe → kVp, agg → kVa, tup → kVt, fn → kVf
open Go.Sg.VLeL renaming cons → kVc
open Go.Sg.OLe renaming rowe2 → kQw, mape → kQm, itere → kQj, chane → kQc, mapSe → kQs
open Go.Sg.HpLe renaming dd → kHd, mk → kHm
namespace Go.Proofs.Ytgclicahmbgfiaa
open Go Go.Sg
theorem PCalls_leA {P : Program} {f : FuncId} {a b : List PV} {r : PV} (h : PCalls P f b r) (hl : PV.leL a b) : PCalls P f a r := fun F w vs hF hvs hrv => h F w vs hF (hvs.trans hl.1) fun i q hq => by
  obtain ⟨p, hp⟩ : ∃ p, a[i]? = some p := ⟨_, List.getElem?_eq_getElem (by have := (List.getElem?_eq_some_iff.1 hq).1; rw [hl.1]; exact this)⟩
  exact hl.2 i p q hp hq F w _ (hrv i p hp)
def mkD (n : Int) (r s : List Int) : Dc := ⟨n, 0, 0, 0, 10, 100, [], r, s, fun _ => 0⟩
theorem doc_calls (n : Int) (r s : List Int) : PCalls Try.prog 33 [eI n, eIs r, eIs s] (eA (mkD n r s)) := by
  refine PCalls.of (N := 11) (res := [.cell 6 27]) mixed Try.func33 rfl rfl rfl (by kernel_rfl) (by simp) [0, 1, 2, 6] ?_
  repeat' (first | exact cl1 | (refine stx ?_; first | exact exHM _ | refine exU8 ?_) | ((fail_if_success refine stp ?_); (conv => whnf) <;> (first | exact cl2 | refine kX ?_ | refine kP ?_ | refine kBd (fun hc => ?_) (fun hc => ?_) | refine kT ?_ | refine kF ?_ | refine kN ?_ | refine kBm (fun hc => ?_) (fun hc => ?_) | refine kO ?_ | refine kS ?_ | refine kA ?_ | exact PV.leL_nil | refine kC ?_ ?_ | refine And.intro ?_ ?_ | refine ix_map (fun x hx => ?_) | refine exU8 ?_ | refine nilc (fun hn => ?_) ?_ | exact cl3 | refine imp0 (fun hpos => ?_) | refine kG ?_ ?_ | exact rfl | exact trivial | (first | refine stq ?_ | fail)))) <;> (try exact cl5)
  all_goals exact LeG.mk (PV.le_agg (PV.leL_cons (PV.le_refl _) (PV.leL_cons (PV.le_refl _) (PV.leL_cons (PV.le_refl _) (PV.leL_cons (PV.le_refl _) (PV.leL_cons (PV.le_refl _) (PV.leL_cons (PV.le_refl _) (PV.leL_cons (PV.le_nil _ _ _) (PV.leL_refl _)))))))))
def whyB (l : List Dc) (sg : List Int) (no at_ s b : Int) : Bool := decide ((whyA l sg no at_).2.2 = 0) && decide ((whyA l sg no at_).1 = s) && decide ((whyA l sg no at_).2.1 = b)
theorem whyb_calls (l : List Dc) (sg : List Int) (no at_ s b : Int) (hl : l.length ≤ 20) (hd : ∀ x ∈ l, okF x) (hsl : sg.length < 1000000) : PCalls Try.prog 34 [eL l, eIs sg, eI no, eI at_, eI s, eI b] (.bool (whyB l sg no at_ s b)) := by
  have q := why_calls l sg no at_ hl hd hsl
  unfold whyB
  generalize whyA l sg no at_ = w at *
  refine PCalls.of (N := 37) (res := [.tmp 12]) mixed Try.func34 rfl rfl rfl (by kernel_rfl) (by simp) [0, 1, 2, 3, 4, 5, 12, 13, 14, 15] ?_
  repeat' (first | exact cl1 | (refine stx ?_; first | exact exHM _ | refine exU8 ?_) | ((with_reducible show callX _ _ _ _ _); (first | refine call_p (q) (by kernel_rfl) rfl ?_)) | ((fail_if_success refine stp ?_); (conv => whnf) <;> (first | exact cl2 | refine kX ?_ | refine kP ?_ | refine kBd (fun hc => ?_) (fun hc => ?_) | refine kT ?_ | refine kF ?_ | refine kN ?_ | refine kBm (fun hc => ?_) (fun hc => ?_) | refine kO ?_ | refine kS ?_ | refine kA ?_ | exact PV.leL_nil | refine kC ?_ ?_ | refine And.intro ?_ ?_ | refine ix_map (fun x hx => ?_) | refine exU8 ?_ | refine nilc (fun hn => ?_) ?_ | exact cl3 | refine imp0 (fun hpos => ?_) | refine kG ?_ ?_ | exact rfl | exact trivial | (first | refine stq ?_ | fail)))) <;> (try exact cl5)
  all_goals (refine LeG.bool ?_; simp_all)
theorem check_lim (L : List PV) (h : (4096 : Int) < (L.length : Int)) : PCalls Try.prog 17 [.sl 41 false L] (eI 2) := by
  refine PCalls.of (N := 43) (res := [.tmp 2]) mixed Try.func17 rfl rfl rfl (by kernel_rfl) (by simp) [0, 2, 3, 4, 5, 8, 11, 12, 13, 14, 41] ?_
  repeat' (first | exact cl1 | (refine stx ?_; first | exact exHM _ | refine exU8 ?_) | ((fail_if_success refine stp ?_); (conv => whnf) <;> (first | exact cl2 | refine kBy h fun hc => ?_ | refine kX ?_ | refine kP ?_ | refine kBd (fun hc => ?_) (fun hc => ?_) | refine kT ?_ | refine kF ?_ | refine kN ?_ | refine kBm (fun hc => ?_) (fun hc => ?_) | refine kO ?_ | refine kS ?_ | refine kA ?_ | exact PV.leL_nil | refine kC ?_ ?_ | refine And.intro ?_ ?_ | refine ix_map (fun x hx => ?_) | refine exU8 ?_ | refine nilc (fun hn => ?_) ?_ | exact cl3 | refine imp0 (fun hpos => ?_) | refine kG ?_ ?_ | exact rfl | exact trivial | (first | refine stq ?_ | fail)))) <;> (try exact cl5)
def d0 : Dc := mkD 0 [] []
def d1 : Dc := mkD 1 [] [0]
def f1 : Dc := mkD 1 [] []
def d2 : Dc := mkD 2 [1] []
def d3 : Dc := mkD 3 [2] []
def g0 : Dc := mkD 0 [0] []
theorem ok2 : ∀ x ∈ [d0, d1], okF x := fun x hx => by
  simp only [List.mem_cons, List.not_mem_nil, or_false] at hx
  rcases hx with rfl | rfl <;> exact ⟨by decide, by decide, by decide⟩
theorem ok4 : ∀ x ∈ [d0, f1, d2, d3], okF x := fun x hx => by
  simp only [List.mem_cons, List.not_mem_nil, or_false] at hx
  rcases hx with rfl | rfl | rfl | rfl <;> exact ⟨by decide, by decide, by decide⟩
theorem okN0 : ∀ x ∈ ([] : List Dc), okF x := fun x hx => by cases hx
theorem m0 : PCalls Try.prog 33 [eI 0, eIs [], eIs []] (eA d0) := by exact doc_calls 0 [] []
theorem m1 : PCalls Try.prog 33 [eI 1, eIs [], eIs [0]] (eA d1) := by exact doc_calls 1 [] [0]
theorem m2 : PCalls Try.prog 33 [eI 1, eIs [], eIs []] (eA f1) := by exact doc_calls 1 [] []
theorem m3 : PCalls Try.prog 33 [eI 2, eIs [1], eIs []] (eA d2) := by exact doc_calls 2 [1] []
theorem m4 : PCalls Try.prog 33 [eI 3, eIs [2], eIs []] (eA d3) := by exact doc_calls 3 [2] []
theorem m5 : PCalls Try.prog 33 [eI 0, eIs [0], eIs []] (eA g0) := by exact doc_calls 0 [0] []
theorem w0 : PCalls Try.prog 34 [eL [d0, d1], eIs [7, 5], eI 1, eI 9, eI 4, eI 0] (.bool true) := by have h := whyb_calls [d0, d1] [7, 5] 1 9 4 0 (by decide) ok2 (by decide); rwa [show whyB [d0, d1] [7, 5] 1 9 4 0 = true from by kernel_rfl] at h
theorem w1 : PCalls Try.prog 34 [eL [d0, d1], eIs [7, 12], eI 1, eI 20, eI 0, eI (-1)] (.bool true) := by have h := whyb_calls [d0, d1] [7, 12] 1 20 0 (-1) (by decide) ok2 (by decide); rwa [show whyB [d0, d1] [7, 12] 1 20 0 (-1) = true from by kernel_rfl] at h
theorem w2 : PCalls Try.prog 34 [eL [d0, d1], eIs [7, 8], eI 1, eI 20, eI 4, eI 0] (.bool true) := by have h := whyb_calls [d0, d1] [7, 8] 1 20 4 0 (by decide) ok2 (by decide); rwa [show whyB [d0, d1] [7, 8] 1 20 4 0 = true from by kernel_rfl] at h
theorem w3 : PCalls Try.prog 34 [eL [d0, d1], eIs [7, 12], eI 1, eI 11, eI 1, eI (-1)] (.bool true) := by have h := whyb_calls [d0, d1] [7, 12] 1 11 1 (-1) (by decide) ok2 (by decide); rwa [show whyB [d0, d1] [7, 12] 1 11 1 (-1) = true from by kernel_rfl] at h
theorem w4 : PCalls Try.prog 34 [eL [d0, f1, d2, d3], eIs [-1, 1, 2, 3], eI 1, eI 50, eI 5, eI 2] (.bool true) := by have h := whyb_calls [d0, f1, d2, d3] [-1, 1, 2, 3] 1 50 5 2 (by decide) ok4 (by decide); rwa [show whyB [d0, f1, d2, d3] [-1, 1, 2, 3] 1 50 5 2 = true from by kernel_rfl] at h
theorem w5 : PCalls Try.prog 34 [eL [d0, f1, d2, d3], eIs [-1, 1, 2, 3], eI 2, eI 50, eI 5, eI 3] (.bool true) := by have h := whyb_calls [d0, f1, d2, d3] [-1, 1, 2, 3] 2 50 5 3 (by decide) ok4 (by decide); rwa [show whyB [d0, f1, d2, d3] [-1, 1, 2, 3] 2 50 5 3 = true from by kernel_rfl] at h
theorem w6 : PCalls Try.prog 34 [eL [d0, f1, d2, d3], eIs [-1, 1, 2, 3], eI 3, eI 9, eI 2, eI (-1)] (.bool true) := by have h := whyb_calls [d0, f1, d2, d3] [-1, 1, 2, 3] 3 9 2 (-1) (by decide) ok4 (by decide); rwa [show whyB [d0, f1, d2, d3] [-1, 1, 2, 3] 3 9 2 (-1) = true from by kernel_rfl] at h
theorem w7 : PCalls Try.prog 34 [eL [d0, f1, d2, d3], eIs [-1, 1, 2, 3], eI 3, eI 100, eI 3, eI (-1)] (.bool true) := by have h := whyb_calls [d0, f1, d2, d3] [-1, 1, 2, 3] 3 100 3 (-1) (by decide) ok4 (by decide); rwa [show whyB [d0, f1, d2, d3] [-1, 1, 2, 3] 3 100 3 (-1) = true from by kernel_rfl] at h
theorem w8 : PCalls Try.prog 34 [eL [d0, f1, d2, d3], eIs [-1, 1, 2, 3], eI 1, eI 1, eI 2, eI (-1)] (.bool true) := by have h := whyb_calls [d0, f1, d2, d3] [-1, 1, 2, 3] 1 1 2 (-1) (by decide) ok4 (by decide); rwa [show whyB [d0, f1, d2, d3] [-1, 1, 2, 3] 1 1 2 (-1) = true from by kernel_rfl] at h
theorem n0 : PCalls Try.prog 20 [eL [d0, f1, d2, d3], eIs [-1, 1, 2, 3], eI 50] (eI2 ([3], 0)) := by have h := inForce_calls [d0, f1, d2, d3] [-1, 1, 2, 3] 50 (by decide) ok4 (by decide); rwa [show inA [d0, f1, d2, d3] [-1, 1, 2, 3] 50 = ([3], 0) from by kernel_rfl] at h
theorem n1 : PCalls Try.prog 20 [eL [], eIs [], eI 0] (eI2 ([], 0)) := by have h := inForce_calls [] [] 0 (by decide) okN0 (by decide); rwa [show inA [] [] 0 = ([], 0) from by kernel_rfl] at h
theorem n2 : PCalls Try.prog 20 [eL [d0, d1], eIs [7], eI 0] (eI2 ([], 1)) := by have h := inForce_calls [d0, d1] [7] 0 (by decide) ok2 (by decide); rwa [show inA [d0, d1] [7] 0 = ([], 1) from by kernel_rfl] at h
theorem n3 : PCalls Try.prog 20 [eL [d0, d1], eIs [7, -2], eI 0] (eI2 ([], 1)) := by have h := inForce_calls [d0, d1] [7, -2] 0 (by decide) ok2 (by decide); rwa [show inA [d0, d1] [7, -2] 0 = ([], 1) from by kernel_rfl] at h
theorem y0 : PCalls Try.prog 22 [eL [], eIs [], eI 0, eI 0] (eW3 (0, 0, 1)) := by have h := why_calls [] [] 0 0 (by decide) okN0 (by decide); rwa [show whyA [] [] 0 0 = (0, 0, 1) from by kernel_rfl] at h
theorem a0 : PCalls Try.prog 13 [eL [], eA d1] (eR ([], 170)) := by have h := add_calls [] d1 (by decide) (fun y hy => (okN0 y hy).e) (ok2 d1 (by simp)).e; rwa [show addA [] d1 = ([], 170) from by kernel_rfl] at h
theorem a1 : PCalls Try.prog 13 [eL [], eA d0] (eR ([d0], 0)) := by have h := add_calls [] d0 (by decide) (fun y hy => (okN0 y hy).e) (ok2 d0 (by simp)).e; rwa [show addA [] d0 = ([d0], 0) from by kernel_rfl] at h
theorem a2 : PCalls Try.prog 13 [eL [d0, d1], eA d1] (eR ([], 151)) := by have h := add_calls [d0, d1] d1 (by decide) (fun y hy => (ok2 y hy).e) (ok2 d1 (by simp)).e; rwa [show addA [d0, d1] d1 = ([], 151) from by kernel_rfl] at h
theorem k0 : PCalls Try.prog 17 [eL []] (eI 0) := by have h := check_calls [] (by decide) (fun y hy => (okN0 y hy).e); rwa [show chkA [] = 0 from by kernel_rfl] at h
theorem k1 : PCalls Try.prog 17 [eL [d0, d1]] (eI 0) := by have h := check_calls [d0, d1] (by decide) (fun y hy => (ok2 y hy).e); rwa [show chkA [d0, d1] = 0 from by kernel_rfl] at h
theorem k2 : PCalls Try.prog 17 [eL [d1]] (eI 170) := by have h := check_calls [d1] (by decide) (fun y hy => (ok2 y (by simp only [List.mem_cons, List.not_mem_nil, or_false] at hy; subst hy; simp)).e); rwa [show chkA [d1] = 170 from by kernel_rfl] at h
def z0 : Dc := ⟨0, 0, 0, 0, 0, 0, [], [], [], fun _ => 0⟩
def zA : PV := .agg [eI 0, eI 0, eI 0, eI 0, eI 0, eI 0, .sl 0 true [], .sl 0 true [], .sl 0 true [], u8 0, u8 0, u8 0, u8 0, u8 0, u8 0, u8 0, u8 0, u8 0, u8 0, u8 0, u8 0, u8 0, u8 0, u8 0, u8 0, u8 0, u8 0, u8 0, u8 0, u8 0, u8 0, u8 0, u8 0, u8 0, u8 0, u8 0, u8 0, u8 0, u8 0, u8 0, u8 0]
theorem zA_le : PV.leL zA.cells (eA z0).cells :=
  PV.leL_cons (PV.le_refl _) (PV.leL_cons (PV.le_refl _) (PV.leL_cons (PV.le_refl _) (PV.leL_cons (PV.le_refl _) (PV.leL_cons (PV.le_refl _) (PV.leL_cons (PV.le_refl _) (PV.leL_cons (PV.le_nil _ _ _) (PV.leL_cons (PV.le_nil _ _ _) (PV.leL_cons (PV.le_nil _ _ _) (PV.leL_refl _)))))))))
theorem eA_one (x : Dc) : Go.Sg.okE 41 (eA x) := ⟨rfl, fun c hc => by
  have h : (eA x).cells.all (fun c => c.one) = true := rfl
  exact List.all_eq_true.1 h c hc⟩
theorem kz : PCalls Try.prog 17 [.sl 41 false [zA]] (eI 170) := by
  have h := check_calls [z0] (by decide) (fun y hy => by
    simp only [List.mem_cons, List.not_mem_nil, or_false] at hy; subst hy
    exact okF.e (x := z0) ⟨by decide, by decide, by decide⟩)
  rw [show chkA [z0] = 170 from by kernel_rfl] at h
  refine PCalls_leA h (PV.leL_cons (PV_le_sl rfl fun i p q hp hq => ?_) PV.leL_nil)
  match i, hp, hq with
  | 0, hp, hq =>
    have hp : some zA = some p := hp
    have hq : some (eA z0) = some q := hq
    injection hp with hp; injection hq with hq; subst hp; subst hq
    exact ⟨eA_one z0, zA_le⟩
  | i + 1, hp, _ => simp at hp
theorem k4 : PCalls Try.prog 17 [.sl 41 false (List.take (Int.toNat 4097) (List.drop 0 (List.replicate (Int.toNat 4097) zA)))] (eI 2) := by
  rw [List.drop_zero, List.take_of_length_le (by rw [List.length_replicate]; exact Nat.le_refl _)]
  exact check_lim _ (by rw [List.length_replicate]; decide)
theorem t0 : ∃ E : List Int, ¬ (((E.map (PV.int .u8)).length : Nat) : Int) = 0 ∧ PCalls Try.prog 15 [eA d0] (.tup [Cd.eB E, eI 0]) := by
  have h := text_calls d0 (by decide) (by decide) (by decide)
  have e : textA d0 = (Cd.enc (docV d0), 0) := by unfold textA; rw [show rightA d0 = true from by kernel_rfl]; rfl
  rw [e] at h
  have hp := Cd.enc_pos (docV d0)
  exact ⟨Cd.enc (docV d0), by rw [List.length_map]; omega, h⟩
theorem t1 : PCalls Try.prog 15 [eA g0] (.tup [Cd.eB [], eI 170]) := by have h := text_calls g0 (by decide) (by decide) (by decide); rwa [show textA g0 = ([], 170) from by unfold textA; rw [show rightA g0 = false from by kernel_rfl]; rfl] at h
theorem e1 : PCalls Try.prog 24 [eIs [3], eIs [3]] (.bool true) := by have h := sameI_calls [3] [3] (by decide); rwa [show decide (([3] : List Int) = [3]) = true from by kernel_rfl] at h
theorem e2 : PCalls Try.prog 19 [eL [d0], eL [d0]] (.bool true) := by have h := same_calls [d0] [d0] (by decide) (fun x hx => by simp only [List.mem_cons, List.not_mem_nil, or_false] at hx; subst hx; exact ⟨by decide, by decide, by decide⟩); rwa [sameLB_refl] at h
theorem sane_calls : PCalls Try.prog 10 [] (.bool true) := by
  obtain ⟨E, hT, tt⟩ := t0
  refine PCalls.of (N := 229) (res := [.tmp 0]) mixed Try.func10 rfl rfl rfl (by kernel_rfl) (by simp) [0, 1, 2, 3, 4, 5, 6, 7, 10, 12, 13, 14, 16, 18, 20, 21, 22, 24, 50, 86, 193] ?_
  repeat' (first | exact cl1 | (refine stx ?_; first | exact exHM _ | refine exU8 ?_) | ((with_reducible show callX _ _ _ _ _); (first | (refine call_z (m0) (by kernel_rfl) rfl ?_; (repeat' (first | exact PV.leL_nil | refine kC ?_ ?_ | refine And.intro ?_ ?_ | exact Nat.zero_lt_succ _ | exact Nat.le_of_ble_eq_true rfl | exact PV.le_refl _ | exact PV.le_nil _ _ _ | exact PV.le_clip _ _ _ | refine PV.le_agg ?_ | refine PV.le_tup ?_ | rfl)); fail_if_success (any_goals (refine PV.le_of ?_))) | (refine call_z (m1) (by kernel_rfl) rfl ?_; (repeat' (first | exact PV.leL_nil | refine kC ?_ ?_ | refine And.intro ?_ ?_ | exact Nat.zero_lt_succ _ | exact Nat.le_of_ble_eq_true rfl | exact PV.le_refl _ | exact PV.le_nil _ _ _ | exact PV.le_clip _ _ _ | refine PV.le_agg ?_ | refine PV.le_tup ?_ | rfl)); fail_if_success (any_goals (refine PV.le_of ?_))) | (refine call_z (m2) (by kernel_rfl) rfl ?_; (repeat' (first | exact PV.leL_nil | refine kC ?_ ?_ | refine And.intro ?_ ?_ | exact Nat.zero_lt_succ _ | exact Nat.le_of_ble_eq_true rfl | exact PV.le_refl _ | exact PV.le_nil _ _ _ | exact PV.le_clip _ _ _ | refine PV.le_agg ?_ | refine PV.le_tup ?_ | rfl)); fail_if_success (any_goals (refine PV.le_of ?_))) | (refine call_z (m3) (by kernel_rfl) rfl ?_; (repeat' (first | exact PV.leL_nil | refine kC ?_ ?_ | refine And.intro ?_ ?_ | exact Nat.zero_lt_succ _ | exact Nat.le_of_ble_eq_true rfl | exact PV.le_refl _ | exact PV.le_nil _ _ _ | exact PV.le_clip _ _ _ | refine PV.le_agg ?_ | refine PV.le_tup ?_ | rfl)); fail_if_success (any_goals (refine PV.le_of ?_))) | (refine call_z (m4) (by kernel_rfl) rfl ?_; (repeat' (first | exact PV.leL_nil | refine kC ?_ ?_ | refine And.intro ?_ ?_ | exact Nat.zero_lt_succ _ | exact Nat.le_of_ble_eq_true rfl | exact PV.le_refl _ | exact PV.le_nil _ _ _ | exact PV.le_clip _ _ _ | refine PV.le_agg ?_ | refine PV.le_tup ?_ | rfl)); fail_if_success (any_goals (refine PV.le_of ?_))) | (refine call_z (m5) (by kernel_rfl) rfl ?_; (repeat' (first | exact PV.leL_nil | refine kC ?_ ?_ | refine And.intro ?_ ?_ | exact Nat.zero_lt_succ _ | exact Nat.le_of_ble_eq_true rfl | exact PV.le_refl _ | exact PV.le_nil _ _ _ | exact PV.le_clip _ _ _ | refine PV.le_agg ?_ | refine PV.le_tup ?_ | rfl)); fail_if_success (any_goals (refine PV.le_of ?_))) | (refine call_z (w0) (by kernel_rfl) rfl ?_; (repeat' (first | exact PV.leL_nil | refine kC ?_ ?_ | refine And.intro ?_ ?_ | exact Nat.zero_lt_succ _ | exact Nat.le_of_ble_eq_true rfl | exact PV.le_refl _ | exact PV.le_nil _ _ _ | exact PV.le_clip _ _ _ | refine PV.le_agg ?_ | refine PV.le_tup ?_ | rfl)); fail_if_success (any_goals (refine PV.le_of ?_))) | (refine call_z (w1) (by kernel_rfl) rfl ?_; (repeat' (first | exact PV.leL_nil | refine kC ?_ ?_ | refine And.intro ?_ ?_ | exact Nat.zero_lt_succ _ | exact Nat.le_of_ble_eq_true rfl | exact PV.le_refl _ | exact PV.le_nil _ _ _ | exact PV.le_clip _ _ _ | refine PV.le_agg ?_ | refine PV.le_tup ?_ | rfl)); fail_if_success (any_goals (refine PV.le_of ?_))) | (refine call_z (w2) (by kernel_rfl) rfl ?_; (repeat' (first | exact PV.leL_nil | refine kC ?_ ?_ | refine And.intro ?_ ?_ | exact Nat.zero_lt_succ _ | exact Nat.le_of_ble_eq_true rfl | exact PV.le_refl _ | exact PV.le_nil _ _ _ | exact PV.le_clip _ _ _ | refine PV.le_agg ?_ | refine PV.le_tup ?_ | rfl)); fail_if_success (any_goals (refine PV.le_of ?_))) | (refine call_z (w3) (by kernel_rfl) rfl ?_; (repeat' (first | exact PV.leL_nil | refine kC ?_ ?_ | refine And.intro ?_ ?_ | exact Nat.zero_lt_succ _ | exact Nat.le_of_ble_eq_true rfl | exact PV.le_refl _ | exact PV.le_nil _ _ _ | exact PV.le_clip _ _ _ | refine PV.le_agg ?_ | refine PV.le_tup ?_ | rfl)); fail_if_success (any_goals (refine PV.le_of ?_))) | (refine call_z (w4) (by kernel_rfl) rfl ?_; (repeat' (first | exact PV.leL_nil | refine kC ?_ ?_ | refine And.intro ?_ ?_ | exact Nat.zero_lt_succ _ | exact Nat.le_of_ble_eq_true rfl | exact PV.le_refl _ | exact PV.le_nil _ _ _ | exact PV.le_clip _ _ _ | refine PV.le_agg ?_ | refine PV.le_tup ?_ | rfl)); fail_if_success (any_goals (refine PV.le_of ?_))) | (refine call_z (w5) (by kernel_rfl) rfl ?_; (repeat' (first | exact PV.leL_nil | refine kC ?_ ?_ | refine And.intro ?_ ?_ | exact Nat.zero_lt_succ _ | exact Nat.le_of_ble_eq_true rfl | exact PV.le_refl _ | exact PV.le_nil _ _ _ | exact PV.le_clip _ _ _ | refine PV.le_agg ?_ | refine PV.le_tup ?_ | rfl)); fail_if_success (any_goals (refine PV.le_of ?_))) | (refine call_z (w6) (by kernel_rfl) rfl ?_; (repeat' (first | exact PV.leL_nil | refine kC ?_ ?_ | refine And.intro ?_ ?_ | exact Nat.zero_lt_succ _ | exact Nat.le_of_ble_eq_true rfl | exact PV.le_refl _ | exact PV.le_nil _ _ _ | exact PV.le_clip _ _ _ | refine PV.le_agg ?_ | refine PV.le_tup ?_ | rfl)); fail_if_success (any_goals (refine PV.le_of ?_))) | (refine call_z (w7) (by kernel_rfl) rfl ?_; (repeat' (first | exact PV.leL_nil | refine kC ?_ ?_ | refine And.intro ?_ ?_ | exact Nat.zero_lt_succ _ | exact Nat.le_of_ble_eq_true rfl | exact PV.le_refl _ | exact PV.le_nil _ _ _ | exact PV.le_clip _ _ _ | refine PV.le_agg ?_ | refine PV.le_tup ?_ | rfl)); fail_if_success (any_goals (refine PV.le_of ?_))) | (refine call_z (w8) (by kernel_rfl) rfl ?_; (repeat' (first | exact PV.leL_nil | refine kC ?_ ?_ | refine And.intro ?_ ?_ | exact Nat.zero_lt_succ _ | exact Nat.le_of_ble_eq_true rfl | exact PV.le_refl _ | exact PV.le_nil _ _ _ | exact PV.le_clip _ _ _ | refine PV.le_agg ?_ | refine PV.le_tup ?_ | rfl)); fail_if_success (any_goals (refine PV.le_of ?_))) | (refine call_z (n0) (by kernel_rfl) rfl ?_; (repeat' (first | exact PV.leL_nil | refine kC ?_ ?_ | refine And.intro ?_ ?_ | exact Nat.zero_lt_succ _ | exact Nat.le_of_ble_eq_true rfl | exact PV.le_refl _ | exact PV.le_nil _ _ _ | exact PV.le_clip _ _ _ | refine PV.le_agg ?_ | refine PV.le_tup ?_ | rfl)); fail_if_success (any_goals (refine PV.le_of ?_))) | (refine call_z (n1) (by kernel_rfl) rfl ?_; (repeat' (first | exact PV.leL_nil | refine kC ?_ ?_ | refine And.intro ?_ ?_ | exact Nat.zero_lt_succ _ | exact Nat.le_of_ble_eq_true rfl | exact PV.le_refl _ | exact PV.le_nil _ _ _ | exact PV.le_clip _ _ _ | refine PV.le_agg ?_ | refine PV.le_tup ?_ | rfl)); fail_if_success (any_goals (refine PV.le_of ?_))) | (refine call_z (n2) (by kernel_rfl) rfl ?_; (repeat' (first | exact PV.leL_nil | refine kC ?_ ?_ | refine And.intro ?_ ?_ | exact Nat.zero_lt_succ _ | exact Nat.le_of_ble_eq_true rfl | exact PV.le_refl _ | exact PV.le_nil _ _ _ | exact PV.le_clip _ _ _ | refine PV.le_agg ?_ | refine PV.le_tup ?_ | rfl)); fail_if_success (any_goals (refine PV.le_of ?_))) | (refine call_z (n3) (by kernel_rfl) rfl ?_; (repeat' (first | exact PV.leL_nil | refine kC ?_ ?_ | refine And.intro ?_ ?_ | exact Nat.zero_lt_succ _ | exact Nat.le_of_ble_eq_true rfl | exact PV.le_refl _ | exact PV.le_nil _ _ _ | exact PV.le_clip _ _ _ | refine PV.le_agg ?_ | refine PV.le_tup ?_ | rfl)); fail_if_success (any_goals (refine PV.le_of ?_))) | (refine call_z (y0) (by kernel_rfl) rfl ?_; (repeat' (first | exact PV.leL_nil | refine kC ?_ ?_ | refine And.intro ?_ ?_ | exact Nat.zero_lt_succ _ | exact Nat.le_of_ble_eq_true rfl | exact PV.le_refl _ | exact PV.le_nil _ _ _ | exact PV.le_clip _ _ _ | refine PV.le_agg ?_ | refine PV.le_tup ?_ | rfl)); fail_if_success (any_goals (refine PV.le_of ?_))) | (refine call_z (a0) (by kernel_rfl) rfl ?_; (repeat' (first | exact PV.leL_nil | refine kC ?_ ?_ | refine And.intro ?_ ?_ | exact Nat.zero_lt_succ _ | exact Nat.le_of_ble_eq_true rfl | exact PV.le_refl _ | exact PV.le_nil _ _ _ | exact PV.le_clip _ _ _ | refine PV.le_agg ?_ | refine PV.le_tup ?_ | rfl)); fail_if_success (any_goals (refine PV.le_of ?_))) | (refine call_z (a1) (by kernel_rfl) rfl ?_; (repeat' (first | exact PV.leL_nil | refine kC ?_ ?_ | refine And.intro ?_ ?_ | exact Nat.zero_lt_succ _ | exact Nat.le_of_ble_eq_true rfl | exact PV.le_refl _ | exact PV.le_nil _ _ _ | exact PV.le_clip _ _ _ | refine PV.le_agg ?_ | refine PV.le_tup ?_ | rfl)); fail_if_success (any_goals (refine PV.le_of ?_))) | (refine call_z (a2) (by kernel_rfl) rfl ?_; (repeat' (first | exact PV.leL_nil | refine kC ?_ ?_ | refine And.intro ?_ ?_ | exact Nat.zero_lt_succ _ | exact Nat.le_of_ble_eq_true rfl | exact PV.le_refl _ | exact PV.le_nil _ _ _ | exact PV.le_clip _ _ _ | refine PV.le_agg ?_ | refine PV.le_tup ?_ | rfl)); fail_if_success (any_goals (refine PV.le_of ?_))) | (refine call_z (k0) (by kernel_rfl) rfl ?_; (repeat' (first | exact PV.leL_nil | refine kC ?_ ?_ | refine And.intro ?_ ?_ | exact Nat.zero_lt_succ _ | exact Nat.le_of_ble_eq_true rfl | exact PV.le_refl _ | exact PV.le_nil _ _ _ | exact PV.le_clip _ _ _ | refine PV.le_agg ?_ | refine PV.le_tup ?_ | rfl)); fail_if_success (any_goals (refine PV.le_of ?_))) | (refine call_z (k1) (by kernel_rfl) rfl ?_; (repeat' (first | exact PV.leL_nil | refine kC ?_ ?_ | refine And.intro ?_ ?_ | exact Nat.zero_lt_succ _ | exact Nat.le_of_ble_eq_true rfl | exact PV.le_refl _ | exact PV.le_nil _ _ _ | exact PV.le_clip _ _ _ | refine PV.le_agg ?_ | refine PV.le_tup ?_ | rfl)); fail_if_success (any_goals (refine PV.le_of ?_))) | (refine call_z (k2) (by kernel_rfl) rfl ?_; (repeat' (first | exact PV.leL_nil | refine kC ?_ ?_ | refine And.intro ?_ ?_ | exact Nat.zero_lt_succ _ | exact Nat.le_of_ble_eq_true rfl | exact PV.le_refl _ | exact PV.le_nil _ _ _ | exact PV.le_clip _ _ _ | refine PV.le_agg ?_ | refine PV.le_tup ?_ | rfl)); fail_if_success (any_goals (refine PV.le_of ?_))) | (refine call_z (t1) (by kernel_rfl) rfl ?_; (repeat' (first | exact PV.leL_nil | refine kC ?_ ?_ | refine And.intro ?_ ?_ | exact Nat.zero_lt_succ _ | exact Nat.le_of_ble_eq_true rfl | exact PV.le_refl _ | exact PV.le_nil _ _ _ | exact PV.le_clip _ _ _ | refine PV.le_agg ?_ | refine PV.le_tup ?_ | rfl)); fail_if_success (any_goals (refine PV.le_of ?_))) | (refine call_z (e1) (by kernel_rfl) rfl ?_; (repeat' (first | exact PV.leL_nil | refine kC ?_ ?_ | refine And.intro ?_ ?_ | exact Nat.zero_lt_succ _ | exact Nat.le_of_ble_eq_true rfl | exact PV.le_refl _ | exact PV.le_nil _ _ _ | exact PV.le_clip _ _ _ | refine PV.le_agg ?_ | refine PV.le_tup ?_ | rfl)); fail_if_success (any_goals (refine PV.le_of ?_))) | (refine call_z (e2) (by kernel_rfl) rfl ?_; (repeat' (first | exact PV.leL_nil | refine kC ?_ ?_ | refine And.intro ?_ ?_ | exact Nat.zero_lt_succ _ | exact Nat.le_of_ble_eq_true rfl | exact PV.le_refl _ | exact PV.le_nil _ _ _ | exact PV.le_clip _ _ _ | refine PV.le_agg ?_ | refine PV.le_tup ?_ | rfl)); fail_if_success (any_goals (refine PV.le_of ?_))) | (refine call_z (tt) (by kernel_rfl) rfl ?_; (repeat' (first | exact PV.leL_nil | refine kC ?_ ?_ | refine And.intro ?_ ?_ | exact Nat.zero_lt_succ _ | exact Nat.le_of_ble_eq_true rfl | exact PV.le_refl _ | exact PV.le_nil _ _ _ | exact PV.le_clip _ _ _ | refine PV.le_agg ?_ | refine PV.le_tup ?_ | rfl)); fail_if_success (any_goals (refine PV.le_of ?_))) | (refine call_z (kz) (by kernel_rfl) rfl ?_; (repeat' (first | exact PV.leL_nil | refine kC ?_ ?_ | refine And.intro ?_ ?_ | exact Nat.zero_lt_succ _ | exact Nat.le_of_ble_eq_true rfl | exact PV.le_refl _ | exact PV.le_nil _ _ _ | exact PV.le_clip _ _ _ | refine PV.le_agg ?_ | refine PV.le_tup ?_ | rfl)); fail_if_success (any_goals (refine PV.le_of ?_))) | (refine call_z (k4) (by kernel_rfl) rfl ?_; refine And.intro ⟨rfl, Nat.zero_lt_succ _, (by show _ ≤ (List.replicate _ _).length; rw [List.length_replicate]; exact Nat.le_of_eq (Nat.zero_add _))⟩ ?_; refine And.intro (PV.leL_cons (PV.le_refl _) PV.leL_nil) ?_) | exact of_decide_eq_true rfl)) | ((fail_if_success refine stp ?_); (conv => whnf) <;> (first | exact cl2 | refine kT ?_ | refine kF ?_ | refine ix_lit rfl ?_ | refine kBn hT fun hc => ?_ | refine Sq.fz (id := 2) [(1, false)] ?_ | refine Sq.fz (id := 6) [(2, false), (3, false)] ?_ | refine kX ?_ | refine kP ?_ | refine kBd (fun hc => ?_) (fun hc => ?_) | refine kT ?_ | refine kF ?_ | refine kN ?_ | refine kBm (fun hc => ?_) (fun hc => ?_) | refine kO ?_ | refine kS ?_ | refine kA ?_ | exact PV.leL_nil | refine kC ?_ ?_ | refine And.intro ?_ ?_ | refine ix_map (fun x hx => ?_) | refine exU8 ?_ | refine nilc (fun hn => ?_) ?_ | (refine call_z (k4) (by kernel_rfl) rfl ?_; refine And.intro ⟨rfl, Nat.zero_lt_succ _, (by show _ ≤ (List.replicate _ _).length; rw [List.length_replicate]; exact Nat.le_of_eq (Nat.zero_add _))⟩ ?_; refine And.intro (PV.leL_cons (PV.le_refl _) PV.leL_nil) ?_) | exact of_decide_eq_true rfl | exact cl3 | refine imp0 (fun hpos => ?_) | refine kG ?_ ?_ | exact rfl | exact trivial | (first | refine stq ?_ | fail)))) <;> (try exact cl5)
  all_goals trace_state
end Go.Proofs.Ytgclicahmbgfiaa

namespace Go.Proofs.Ytgclicahmbgfiaa
open Go Go.Sg
def fewD (x : Dc) : Bool := decide (x.par.length ≤ 20) && decide (x.rev.length ≤ 20) && decide (x.need.length ≤ 20)
def fewN (l : List Dc) : Bool := decide (l.length ≤ 20) || decide (4096 < l.length) && decide (l.length ≤ 4200)
def fewA (l : List Dc) : Bool := (l.take 30).all fewD && fewN l
theorem few_calls (l : List Dc) (hl : l.length < 140737488355328) : PCalls Try.prog 11 [eL l] (.bool (fewA l)) := by
  refine PCalls.of (N := 33) (res := [.tmp 2]) mixed Try.func11 rfl rfl rfl (by kernel_rfl) (by simp) [0, 2, 3, 11, 19] ?_
  repeat' (first | exact cl1 | (refine stx ?_; first | exact exHM _ | refine exU8 ?_) | ((fail_if_success refine stp ?_); (conv => whnf) <;> (first | exact cl2 | refine kX ?_ | refine kP ?_ | refine kBd (fun hc => ?_) (fun hc => ?_) | refine kT ?_ | refine kF ?_ | refine kN ?_ | refine kBm (fun hc => ?_) (fun hc => ?_) | refine kO ?_ | refine kS ?_ | refine kA ?_ | exact PV.leL_nil | refine kC ?_ ?_ | refine And.intro ?_ ?_ | refine ix_map (fun x hx => ?_) | refine exU8 ?_ | refine nilc (fun hn => ?_) ?_ | exact cl3 | refine imp0 (fun hpos => ?_) | refine kG ?_ ?_ | exact rfl | exact trivial | (first | refine stq ?_ | fail)))) <;> (try exact cl5)
  refine Wpc.loopB (α := {i : Nat // i ≤ l.length ∧ i ≤ 30 ∧ ∀ j w, j < i → l[j]? = some w → fewD w = true}) mixed [0, 2, 3, 11, 19] (fun i => [(3, .p (eI i.1))]) (fun i => l.length - i.1) ⟨0, by omega, by omega, by intro j w h; omega⟩ ?_ ?_
  · (first | refine Ent.ofA [] ?_ | refine Ent.ofC [] ?_) <;> (repeat' (first | exact trivial | refine kHd ?_ | refine kHm rfl (by simp) rfl (fun h => AObj.noConfusion h) ?_ ?_ | refine And.intro ?_ ?_ | exact cl9 | refine kVp ?_ | refine kVa ?_ | refine kVt ?_ | refine kVf ?_ ?_ | refine kVc ?_ ?_ | exact VLeL.nil | exact OLe.row _ _ | rfl | refine VLe.rsle rfl ?_ ?_ ?_ | refine kQw ?_ ?_ | refine kQm ?_ ?_ | refine kQj ?_ ?_ | refine kQc ?_ ?_ | refine kQs ?_ ?_ ?_ | exact OLe.mapS0 rfl)) <;> try exact kZ
  rintro ⟨i, hi, h30, hq⟩
  have hi : i ≤ l.length := hi
  have h30 : i ≤ 30 := h30
  have hq : ∀ j w, j < i → l[j]? = some w → fewD w = true := hq
  by_cases hin : i < l.length ∧ i < 30
  · obtain ⟨y, hy⟩ : ∃ y, l[i]? = some y := ⟨_, List.getElem?_eq_getElem hin.1⟩
    have hyes : ((i : Int) < ((l.map eA).length : Int)) := by rw [List.length_map]; omega
    have h3 : (i : Int) < 30 := by omega
    have q : PCalls Try.prog 12 [eA y] (.bool (fewD y)) := fewD_calls y
    cases hf : fewD y with
    | false =>
      rw [hf] at q
      have e : fewA l = false := by
        unfold fewA
        rw [show (l.take 30).all fewD = false from List.all_eq_false.2 ⟨y, List.mem_of_getElem? (i := i) (by rw [List.getElem?_take, if_pos hin.2]; exact hy), by rw [hf]; exact Bool.false_ne_true⟩]; rfl
      rw [e]
      repeat' (first | exact cl1 | (refine stx ?_; first | exact exHM _ | refine exU8 ?_) | ((with_reducible show callX _ _ _ _ _); (first | refine call_p (q) (by kernel_rfl) rfl ?_)) | ((fail_if_success refine stp ?_); (conv => whnf) <;> (first | exact cl2 | refine kBy hyes fun hc => ?_ | refine kBy h3 fun hc => ?_ | refine ix_at hy ?_ | refine kX ?_ | refine kP ?_ | refine kBd (fun hc => ?_) (fun hc => ?_) | refine kT ?_ | refine kF ?_ | refine kN ?_ | refine kBm (fun hc => ?_) (fun hc => ?_) | refine kO ?_ | refine kS ?_ | refine kA ?_ | exact PV.leL_nil | refine kC ?_ ?_ | refine And.intro ?_ ?_ | refine ix_map (fun x hx => ?_) | refine exU8 ?_ | refine nilc (fun hn => ?_) ?_ | exact cl3 | refine imp0 (fun hpos => ?_) | refine kG ?_ ?_ | exact rfl | exact trivial | (first | refine stq ?_ | fail)))) <;> (try exact cl5)
    | true =>
      rw [hf] at q
      repeat' (first | exact cl1 | (refine stx ?_; first | exact exHM _ | refine exU8 ?_) | ((with_reducible show callX _ _ _ _ _); (first | refine call_p (q) (by kernel_rfl) rfl ?_)) | ((fail_if_success refine stp ?_); (conv => whnf) <;> (first | exact cl2 | refine kBy hyes fun hc => ?_ | refine kBy h3 fun hc => ?_ | refine ix_at hy ?_ | refine kX ?_ | refine kP ?_ | refine kBd (fun hc => ?_) (fun hc => ?_) | refine kT ?_ | refine kF ?_ | refine kN ?_ | refine kBm (fun hc => ?_) (fun hc => ?_) | refine kO ?_ | refine kS ?_ | refine kA ?_ | exact PV.leL_nil | refine kC ?_ ?_ | refine And.intro ?_ ?_ | refine ix_map (fun x hx => ?_) | refine exU8 ?_ | refine nilc (fun hn => ?_) ?_ | exact cl3 | refine imp0 (fun hpos => ?_) | refine kG ?_ ?_ | exact rfl | exact trivial | (first | refine stq ?_ | fail)))) <;> (try exact cl5)
      refine ⟨⟨i + 1, hin.1, hin.2, fun j w hj hw => ?_⟩, by show l.length - (i + 1) < l.length - i; omega, ?_⟩
      · rcases Nat.lt_succ_iff_lt_or_eq.1 hj with h1 | h1
        · exact hq j w h1 hw
        · rw [h1, hy] at hw; injection hw with hw; rw [← hw]; exact hf
      · (first | refine Ent.ofA [] ?_ | refine Ent.ofC [] ?_) <;> (repeat' (first | exact trivial | refine kHd ?_ | refine kHm rfl (by simp) rfl (fun h => AObj.noConfusion h) ?_ ?_ | refine And.intro ?_ ?_ | exact cl9 | refine kVp ?_ | refine kVa ?_ | refine kVt ?_ | refine kVf ?_ ?_ | refine kVc ?_ ?_ | exact VLeL.nil | exact OLe.row _ _ | rfl | refine VLe.rsle rfl ?_ ?_ ?_ | refine kQw ?_ ?_ | refine kQm ?_ ?_ | refine kQj ?_ ?_ | refine kQc ?_ ?_ | refine kQs ?_ ?_ ?_ | exact OLe.mapS0 rfl)) <;> try exact kZ
  · have e : (l.take 30).all fewD = true := List.all_eq_true.2 fun w hw => by
      obtain ⟨j, hj⟩ := List.getElem?_of_mem hw
      rw [List.getElem?_take] at hj
      split at hj
      · exact hq j w (by have := (List.getElem?_eq_some_iff.1 hj).1; omega) hj
      · cases hj
    have hA : fewA l = fewN l := by unfold fewA; rw [e, Bool.true_and]
    rw [hA]
    by_cases h1 : i < l.length
    · have h3 : ¬ (i : Int) < 30 := by omega
      have hyes : ((i : Int) < ((l.map eA).length : Int)) := by rw [List.length_map]; omega
      repeat' (first | exact cl1 | (refine stx ?_; first | exact exHM _ | refine exU8 ?_) | ((fail_if_success refine stp ?_); (conv => whnf) <;> (first | exact cl2 | refine kBy hyes fun hc => ?_ | refine kBn h3 fun hc => ?_ | refine kX ?_ | refine kP ?_ | refine kBd (fun hc => ?_) (fun hc => ?_) | refine kT ?_ | refine kF ?_ | refine kN ?_ | refine kBm (fun hc => ?_) (fun hc => ?_) | refine kO ?_ | refine kS ?_ | refine kA ?_ | exact PV.leL_nil | refine kC ?_ ?_ | refine And.intro ?_ ?_ | refine ix_map (fun x hx => ?_) | refine exU8 ?_ | refine nilc (fun hn => ?_) ?_ | exact cl3 | refine imp0 (fun hpos => ?_) | refine kG ?_ ?_ | exact rfl | exact trivial | (first | refine stq ?_ | fail)))) <;> (try exact cl5)
      all_goals (simp only [List.length_map] at *; refine LeG.bool ?_; unfold fewN; (by_cases h1 : l.length ≤ 20) <;> (by_cases h2 : 4096 < l.length) <;> (by_cases h3 : l.length ≤ 4200) <;> simp [h1, h2, h3] <;> omega)
    · have hno : ¬ ((i : Int) < ((l.map eA).length : Int)) := by rw [List.length_map]; omega
      repeat' (first | exact cl1 | (refine stx ?_; first | exact exHM _ | refine exU8 ?_) | ((fail_if_success refine stp ?_); (conv => whnf) <;> (first | exact cl2 | refine kBn hno fun hc => ?_ | refine kX ?_ | refine kP ?_ | refine kBd (fun hc => ?_) (fun hc => ?_) | refine kT ?_ | refine kF ?_ | refine kN ?_ | refine kBm (fun hc => ?_) (fun hc => ?_) | refine kO ?_ | refine kS ?_ | refine kA ?_ | exact PV.leL_nil | refine kC ?_ ?_ | refine And.intro ?_ ?_ | refine ix_map (fun x hx => ?_) | refine exU8 ?_ | refine nilc (fun hn => ?_) ?_ | exact cl3 | refine imp0 (fun hpos => ?_) | refine kG ?_ ?_ | exact rfl | exact trivial | (first | refine stq ?_ | fail)))) <;> (try exact cl5)
      all_goals (simp only [List.length_map] at *; refine LeG.bool ?_; unfold fewN; (by_cases h1 : l.length ≤ 20) <;> (by_cases h2 : 4096 < l.length) <;> (by_cases h3 : l.length ≤ 4200) <;> simp [h1, h2, h3] <;> omega)
end Go.Proofs.Ytgclicahmbgfiaa

namespace Go.Proofs.Ytgclicahmbgfiaa
open Go Go.Sg
theorem rsignings_calls (l : List Dc) (sg : List Int) (hsl : sg.length < 140737488355328) : PCalls Try.prog 56 [eL l, eIs sg] (.bool (sgB l sg)) := by
  refine PCalls.of (N := 30) (res := [.tmp 4]) mixed Try.func56 rfl rfl rfl (by kernel_rfl) (by simp) [0, 1, 4, 5, 9, 24] ?_
  repeat' (first | exact cl1 | (refine stx ?_; first | exact exHM _ | refine exU8 ?_) | ((fail_if_success refine stp ?_); (conv => whnf) <;> (first | exact cl2 | refine kX ?_ | refine kP ?_ | refine kBd (fun hc => ?_) (fun hc => ?_) | refine kT ?_ | refine kF ?_ | refine kN ?_ | refine kBm (fun hc => ?_) (fun hc => ?_) | refine kO ?_ | refine kS ?_ | refine kA ?_ | exact PV.leL_nil | refine kC ?_ ?_ | refine And.intro ?_ ?_ | refine ix_map (fun x hx => ?_) | refine exU8 ?_ | refine nilc (fun hn => ?_) ?_ | exact cl3 | refine imp0 (fun hpos => ?_) | refine kG ?_ ?_ | exact rfl | exact trivial | (first | refine stq ?_ | fail)))) <;> (try exact cl5)
  refine Wpc.loopB (α := {i : Nat // i ≤ sg.length ∧ ∀ j t, j < i → sg[j]? = some t → oddB t = false}) mixed [0, 1, 4, 5, 9, 24] (fun i => [(5, .p (eI i.1))]) (fun i => sg.length - i.1) ⟨0, by omega, by intro j t h; omega⟩ ?_ ?_
  · (first | refine Ent.ofA [] ?_ | refine Ent.ofC [] ?_) <;> (repeat' (first | exact trivial | refine kHd ?_ | refine kHm rfl (by simp) rfl (fun h => AObj.noConfusion h) ?_ ?_ | refine And.intro ?_ ?_ | exact cl9 | refine kVp ?_ | refine kVa ?_ | refine kVt ?_ | refine kVf ?_ ?_ | refine kVc ?_ ?_ | exact VLeL.nil | exact OLe.row _ _ | rfl | refine VLe.rsle rfl ?_ ?_ ?_ | refine kQw ?_ ?_ | refine kQm ?_ ?_ | refine kQj ?_ ?_ | refine kQc ?_ ?_ | refine kQs ?_ ?_ ?_ | exact OLe.mapS0 rfl)) <;> try exact kZ
  rintro ⟨i, hi, hq⟩
  have hi : i ≤ sg.length := hi
  have hq : ∀ j t, j < i → sg[j]? = some t → oddB t = false := hq
  cases hx : sg[i]? with
  | some t =>
    have hlt := (List.getElem?_eq_some_iff.1 hx).1
    have hyes : ((i : Int) < ((sg.map eI).length : Int)) := by rw [List.length_map]; omega
    have q := rtime_calls t
    have hbad : oddB t = true → sgB l sg = false := fun h => by
      unfold sgB
      rw [show sg.any oddB = true from List.any_eq_true.2 ⟨t, List.mem_of_getElem? hx, h⟩]; simp
    have hgo : oddB t = false → ∀ j u, j < i + 1 → sg[j]? = some u → oddB u = false := fun h j u hj hu => by
      rcases Nat.lt_succ_iff_lt_or_eq.1 hj with h1 | h1
      · exact hq j u h1 hu
      · rw [h1, hx] at hu; injection hu with hu; rw [← hu]; exact h
    by_cases ht : t = -1
    · have hn : ¬ t ≠ -1 := fun h => h ht
      have ho : oddB t = false := by unfold oddB; rw [decide_eq_true ht]; rfl
      repeat' (first | exact cl1 | (refine stx ?_; first | exact exHM _ | refine exU8 ?_) | ((fail_if_success refine stp ?_); (conv => whnf) <;> (first | exact cl2 | refine kBn hn fun hc => ?_ | refine kBy hyes fun hc => ?_ | refine ix_at hx ?_ | refine kX ?_ | refine kP ?_ | refine kBd (fun hc => ?_) (fun hc => ?_) | refine kT ?_ | refine kF ?_ | refine kN ?_ | refine kBm (fun hc => ?_) (fun hc => ?_) | refine kO ?_ | refine kS ?_ | refine kA ?_ | exact PV.leL_nil | refine kC ?_ ?_ | refine And.intro ?_ ?_ | refine ix_map (fun x hx => ?_) | refine exU8 ?_ | refine nilc (fun hn => ?_) ?_ | exact cl3 | refine imp0 (fun hpos => ?_) | refine kG ?_ ?_ | exact rfl | exact trivial | (first | refine stq ?_ | fail)))) <;> (try exact cl5)
      refine ⟨⟨i + 1, hlt, hgo ho⟩, by show sg.length - (i + 1) < sg.length - i; omega, ?_⟩
      (first | refine Ent.ofA [] ?_ | refine Ent.ofC [] ?_) <;> (repeat' (first | exact trivial | refine kHd ?_ | refine kHm rfl (by simp) rfl (fun h => AObj.noConfusion h) ?_ ?_ | refine And.intro ?_ ?_ | exact cl9 | refine kVp ?_ | refine kVa ?_ | refine kVt ?_ | refine kVf ?_ ?_ | refine kVc ?_ ?_ | exact VLeL.nil | exact OLe.row _ _ | rfl | refine VLe.rsle rfl ?_ ?_ ?_ | refine kQw ?_ ?_ | refine kQm ?_ ?_ | refine kQj ?_ ?_ | refine kQc ?_ ?_ | refine kQs ?_ ?_ ?_ | exact OLe.mapS0 rfl)) <;> try exact kZ
    · cases hw : wiB TM t with
      | true =>
        rw [hw] at q
        have ho : oddB t = false := by unfold oddB; rw [hw]; simp
        repeat' (first | exact cl1 | (refine stx ?_; first | exact exHM _ | refine exU8 ?_) | ((with_reducible show callX _ _ _ _ _); (first | refine call_p (q) (by kernel_rfl) rfl ?_)) | ((fail_if_success refine stp ?_); (conv => whnf) <;> (first | exact cl2 | refine kBy ht fun hc => ?_ | refine kBy hyes fun hc => ?_ | refine ix_at hx ?_ | refine kX ?_ | refine kP ?_ | refine kBd (fun hc => ?_) (fun hc => ?_) | refine kT ?_ | refine kF ?_ | refine kN ?_ | refine kBm (fun hc => ?_) (fun hc => ?_) | refine kO ?_ | refine kS ?_ | refine kA ?_ | exact PV.leL_nil | refine kC ?_ ?_ | refine And.intro ?_ ?_ | refine ix_map (fun x hx => ?_) | refine exU8 ?_ | refine nilc (fun hn => ?_) ?_ | exact cl3 | refine imp0 (fun hpos => ?_) | refine kG ?_ ?_ | exact rfl | exact trivial | (first | refine stq ?_ | fail)))) <;> (try exact cl5)
        refine ⟨⟨i + 1, hlt, hgo ho⟩, by show sg.length - (i + 1) < sg.length - i; omega, ?_⟩
        (first | refine Ent.ofA [] ?_ | refine Ent.ofC [] ?_) <;> (repeat' (first | exact trivial | refine kHd ?_ | refine kHm rfl (by simp) rfl (fun h => AObj.noConfusion h) ?_ ?_ | refine And.intro ?_ ?_ | exact cl9 | refine kVp ?_ | refine kVa ?_ | refine kVt ?_ | refine kVf ?_ ?_ | refine kVc ?_ ?_ | exact VLeL.nil | exact OLe.row _ _ | rfl | refine VLe.rsle rfl ?_ ?_ ?_ | refine kQw ?_ ?_ | refine kQm ?_ ?_ | refine kQj ?_ ?_ | refine kQc ?_ ?_ | refine kQs ?_ ?_ ?_ | exact OLe.mapS0 rfl)) <;> try exact kZ
      | false =>
        rw [hw] at q
        have ho : oddB t = true := by unfold oddB; rw [hw, decide_eq_false ht]; rfl
        rw [hbad ho]
        repeat' (first | exact cl1 | (refine stx ?_; first | exact exHM _ | refine exU8 ?_) | ((with_reducible show callX _ _ _ _ _); (first | refine call_p (q) (by kernel_rfl) rfl ?_)) | ((fail_if_success refine stp ?_); (conv => whnf) <;> (first | exact cl2 | refine kBy ht fun hc => ?_ | refine kBy hyes fun hc => ?_ | refine ix_at hx ?_ | refine kX ?_ | refine kP ?_ | refine kBd (fun hc => ?_) (fun hc => ?_) | refine kT ?_ | refine kF ?_ | refine kN ?_ | refine kBm (fun hc => ?_) (fun hc => ?_) | refine kO ?_ | refine kS ?_ | refine kA ?_ | exact PV.leL_nil | refine kC ?_ ?_ | refine And.intro ?_ ?_ | refine ix_map (fun x hx => ?_) | refine exU8 ?_ | refine nilc (fun hn => ?_) ?_ | exact cl3 | refine imp0 (fun hpos => ?_) | refine kG ?_ ?_ | exact rfl | exact trivial | (first | refine stq ?_ | fail)))) <;> (try exact cl5)
  | none =>
    have hge : sg.length ≤ i := List.getElem?_eq_none_iff.1 hx
    have hno : ¬ ((i : Int) < ((sg.map eI).length : Int)) := by rw [List.length_map]; omega
    have ha : sg.any oddB = false := List.any_eq_false.2 fun t ht e => by
      obtain ⟨j, hj⟩ := List.getElem?_of_mem ht
      rw [hq j t (by have := (List.getElem?_eq_some_iff.1 hj).1; omega) hj] at e; cases e
    have e : sgB l sg = decide (sg.length = l.length) := by unfold sgB; rw [ha]; simp
    rw [e]
    repeat' (first | exact cl1 | (refine stx ?_; first | exact exHM _ | refine exU8 ?_) | ((fail_if_success refine stp ?_); (conv => whnf) <;> (first | exact cl2 | refine kBn hno fun hc => ?_ | refine kX ?_ | refine kP ?_ | refine kBd (fun hc => ?_) (fun hc => ?_) | refine kT ?_ | refine kF ?_ | refine kN ?_ | refine kBm (fun hc => ?_) (fun hc => ?_) | refine kO ?_ | refine kS ?_ | refine kA ?_ | exact PV.leL_nil | refine kC ?_ ?_ | refine And.intro ?_ ?_ | refine ix_map (fun x hx => ?_) | refine exU8 ?_ | refine nilc (fun hn => ?_) ?_ | exact cl3 | refine imp0 (fun hpos => ?_) | refine kG ?_ ?_ | exact rfl | exact trivial | (first | refine stq ?_ | fail)))) <;> (try exact cl5)
    refine LeG.bool ?_
    simp only [List.length_map]
    by_cases h : sg.length = l.length
    · rw [decide_eq_true h, decide_eq_true (by omega)]
    · rw [decide_eq_false h, decide_eq_false (by omega)]
end Go.Proofs.Ytgclicahmbgfiaa

namespace Go.Proofs.Ytgclicahmbgfiaa
open Go Go.Sg
def Ext (m m' : List (Int × List Int)) : Prop := ∀ n z, aget n m = some z → ∃ t, aget n m' = some (z ++ t)
theorem Ext.refl (m : List (Int × List Int)) : Ext m m := fun n z h => ⟨[], by rw [List.append_nil]; exact h⟩
theorem Ext.trans {a b c : List (Int × List Int)} (h : Ext a b) (k : Ext b c) : Ext a c := fun n z hz => by
  obtain ⟨t, ht⟩ := h n z hz
  obtain ⟨s, hs⟩ := k n _ ht
  exact ⟨t ++ s, by rw [← List.append_assoc]; exact hs⟩
theorem Ext.add (no : Int) (m : List (Int × List Int)) (n : Int) : Ext m (addR no m n) := fun k z hz => by
  unfold addR
  rw [aget_put]
  by_cases e : k = n
  · subst e; rw [if_pos rfl, hz]; exact ⟨[no], rfl⟩
  · rw [if_neg e]; exact ⟨[], by rw [List.append_nil]; exact hz⟩
theorem Ext.fold (no : Int) : ∀ (R : List Int) (m : List (Int × List Int)), Ext m (R.foldl (addR no) m)
  | [], m => Ext.refl m
  | n :: r, m => (Ext.add no m n).trans (Ext.fold no r _)
structure Aft (l : List Dc) (p p' : Pl) (i : Nat) : Prop where
  lk : p'.lk.getD i 0 = p.lk.getD i 0
  rv : Ext p.rv p'.rv
theorem Aft.step {l : List Dc} {sg : List Int} {p : Pl} {i j : Nat} (hij : i ≠ j) : Aft l p (stepP l sg p j) i := by
  unfold stepP
  cases hd : l[j]? with
  | none => exact ⟨rfl, Ext.refl _⟩
  | some d =>
    refine ⟨?_, ?_⟩
    · show (p.lk.set j _).getD i 0 = _
      simp only [List.getD]
      rw [List.getElem?_set_ne (fun e => hij e.symm)]
    · show Ext p.rv (if _ then _ else _)
      split
      · exact Ext.fold _ _ _
      · exact Ext.refl _
theorem Aft.fold {l : List Dc} {sg : List Int} {i : Nat} : ∀ (o : List Nat) (p : Pl), i ∉ o → Aft l p (o.foldl (stepP l sg) p) i
  | [], p, _ => ⟨rfl, Ext.refl _⟩
  | j :: r, p, h => by
    have h1 := Aft.step (l := l) (sg := sg) (p := p) (show i ≠ j from fun e => h (by simp [e]))
    have h2 := Aft.fold (l := l) (sg := sg) r (stepP l sg p j) (fun hm : i ∈ r => h (List.mem_cons_of_mem _ hm))
    exact ⟨h2.lk.trans h1.lk, h1.rv.trans h2.rv⟩
end Go.Proofs.Ytgclicahmbgfiaa

namespace Go.Proofs.Ytgclicahmbgfiaa
open Go Go.Sg
end Go.Proofs.Ytgclicahmbgfiaa

namespace Go.Proofs.Ytgclicahmbgfiaa
open Go Go.Sg
def effB (l : List Dc) (p : Pl) (t : Int) (need : List Int) : Bool := need.all fun no => forF l p t (ixF l no)
theorem noF_of {l : List Dc} {i : Nat} {d : Dc} (hd : l[i]? = some d) : noF l i = d.no := by unfold noF; rw [hd]; rfl
theorem stepP_lk {l : List Dc} {sg : List Int} {p : Pl} {i : Nat} {d : Dc} (hd : l[i]? = some d) (hl : i < p.lk.length) : (stepP l sg p i).lk.getD i 0 = needF l p (sgF sg i) d.need := by
  unfold stepP; rw [hd]
  show (p.lk.set i _).getD i 0 = _
  rw [getD_set _ _ _ _ _ hl, if_pos rfl]
theorem play_split {l : List Dc} {sg : List Int} {O : List Nat} {k i : Nat} (h : O[k]? = some i) : playP l sg O = (O.drop (k + 1)).foldl (stepP l sg) (stepP l sg (playP l sg (O.take k)) i) := by
  have hlt := (List.getElem?_eq_some_iff.1 h).1
  have he := (List.getElem?_eq_some_iff.1 h).2
  have hO : O.take k ++ i :: O.drop (k + 1) = O := by rw [← he, ← List.drop_eq_getElem_cons hlt, List.take_append_drop]
  conv => lhs; rw [← hO]
  unfold playP
  rw [List.foldl_append, List.foldl_cons]
theorem lk_of {l : List Dc} {sg : List Int} {O : List Nat} (hn : O.Nodup) (hr : ∀ x ∈ l, x.rev.length ≤ 20) {k i : Nat} {d : Dc} (h : O[k]? = some i) (hd : l[i]? = some d) : (playP l sg O).lk.getD i 0 = needF l (playP l sg (O.take k)) (sgF sg i) d.need := by
  have hlt := (List.getElem?_eq_some_iff.1 h).1
  have he := (List.getElem?_eq_some_iff.1 h).2
  have hO : O.take k ++ i :: O.drop (k + 1) = O := by rw [← he, ← List.drop_eq_getElem_cons hlt, List.take_append_drop]
  have hni : i ∉ O.drop (k + 1) := by
    rw [← hO] at hn
    exact (List.nodup_cons.1 (List.nodup_append.1 hn).2.1).1
  rw [play_split h, (Aft.fold (l := l) (sg := sg) (O.drop (k + 1)) _ hni).lk]
  refine stepP_lk hd ?_
  have := (InP.play (l := l) (sg := sg) hr (O.take k)).ll
  have := (List.getElem?_eq_some_iff.1 hd).1
  omega
def rowF (m : List (Int × List Int)) (n : Int) : List Int := (aget n m).getD []
theorem rowF_add (no : Int) (m : List (Int × List Int)) (n k : Int) : rowF (addR no m n) k = if k = n then rowF m k ++ [no] else rowF m k := by
  unfold rowF addR
  rw [aget_put]
  by_cases e : k = n
  · subst e; rw [if_pos rfl, if_pos rfl]; rfl
  · rw [if_neg e, if_neg e]
theorem rowF_fold (no : Int) : ∀ (R : List Int) (m : List (Int × List Int)) (k : Int), R.Pairwise (· < ·) → rowF (R.foldl (addR no) m) k = rowF m k ++ if hasB R k then [no] else []
  | [], m, k, _ => by simp [hasB]
  | n :: r, m, k, h => by
    obtain ⟨h1, h2⟩ := List.pairwise_cons.1 h
    rw [List.foldl_cons, rowF_fold no r _ k h2, rowF_add]
    have e : hasB (n :: r) k = (decide (n = k) || hasB r k) := rfl
    rw [e]
    by_cases hk : k = n
    · subst hk
      have : hasB r k = false := hasB_no fun j w hw e2 => by
        have := h1 w (List.mem_of_getElem? hw); omega
      rw [if_pos rfl, this]; simp
    · rw [if_neg hk, decide_eq_false (fun e2 => hk e2.symm), Bool.false_or]
def revB (l : List Dc) (n : Int) (i : Nat) : Bool := match l[i]? with | some d => hasB d.rev n | none => false
theorem row_of {l : List Dc} {sg : List Int} {O : List Nat} (hn : O.Nodup) (hr : ∀ x ∈ l, x.rev.length ≤ 20 ∧ x.rev.Pairwise (· < ·)) (hO : ∀ i ∈ O, i < l.length) (n : Int) : ∀ k, k ≤ O.length →
    rowF (playP l sg (O.take k)).rv n = ((O.take k).filter fun i => decide ((playP l sg O).lk.getD i 0 < 0) && revB l n i).map (noF l)
  | 0, _ => rfl
  | k + 1, hk => by
    have ih := row_of (sg := sg) hn hr hO n k (by omega)
    obtain ⟨i, hi⟩ : ∃ i, O[k]? = some i := ⟨_, List.getElem?_eq_getElem (by omega)⟩
    have hil := hO i (List.mem_of_getElem? hi)
    obtain ⟨d, hd⟩ : ∃ d, l[i]? = some d := ⟨_, List.getElem?_eq_getElem hil⟩
    have hlk := lk_of (sg := sg) hn (fun x hx => (hr x hx).1) hi hd
    rw [playP_take hi, List.take_add_one, hi]
    show rowF (stepP l sg _ i).rv n = ((O.take k ++ [i]).filter _).map (noF l)
    rw [List.filter_append, List.map_append, ← ih]
    have hrev : revB l n i = hasB d.rev n := by unfold revB; rw [hd]
    have hs : (stepP l sg (playP l sg (O.take k)) i).rv = if needF l (playP l sg (O.take k)) (sgF sg i) d.need < 0 then d.rev.foldl (addR d.no) (playP l sg (O.take k)).rv else (playP l sg (O.take k)).rv := by unfold stepP; rw [hd]
    rw [hs, ← hlk]
    by_cases h0 : (playP l sg O).lk.getD i 0 < 0
    · rw [if_pos h0, rowF_fold _ _ _ _ (hr d (List.mem_of_getElem? hd)).2]
      congr 1
      cases hb : hasB d.rev n with
      | true => simp only [List.filter_cons, hrev, hb, decide_eq_true h0, Bool.and_true, if_true, List.filter_nil, List.map_cons, List.map_nil, noF_of hd]
      | false => simp only [List.filter_cons, hrev, hb, Bool.and_false, Bool.false_eq_true, if_false, List.filter_nil, List.map_nil]
    · rw [if_neg h0]
      simp only [List.filter_cons, decide_eq_false h0, Bool.false_and, Bool.false_eq_true, if_false, List.filter_nil, List.map_nil, List.append_nil]
end Go.Proofs.Ytgclicahmbgfiaa

namespace Go.Proofs.Ytgclicahmbgfiaa
open Go Go.Sg
def effI (l : List Dc) (sg : List Int) (i : Nat) : Bool := match l[i]? with
  | some d => effB l (finP l (befL sg i) (sgF sg i)) (sgF sg i) d.need
  | none => false
end Go.Proofs.Ytgclicahmbgfiaa

namespace Go.Proofs.Ytgclicahmbgfiaa
open Go Go.Sg
theorem listB_srt {m : Int} {P : List Int} (h : listB m P = true) : P.Pairwise (· < ·) := by
  unfold listB okN at h
  rw [Bool.and_eq_true, okFrom_iff] at h
  exact h.1.2
theorem rev_srt {x : Dc} (h : rightA x = true) : x.rev.Pairwise (· < ·) := by
  unfold rightA at h
  simp only [Bool.and_eq_true] at h
  exact listB_srt h.2.1.2
end Go.Proofs.Ytgclicahmbgfiaa

namespace Go.Proofs.Ytgclicahmbgfiaa
open Go Go.Sg
def hitB (l : List Dc) (sg : List Int) (t no : Int) (k : Nat) : Bool := upB sg t k && revB l no k && effI l sg k
def revS (l : List Dc) (sg : List Int) (t no : Int) (a : Int) (k : Nat) : Int := if 0 ≤ a then a else if hitB l sg t no k then noF l k else -1
def revN (l : List Dc) (sg : List Int) (t no : Int) (n : Nat) : Int := (List.range n).foldl (revS l sg t no) (-1)
theorem minL_step (x y : Int) (r : List Int) : minL x (y :: r) = minL (if y < x then y else x) r := rfl
theorem minL_mem : ∀ (r : List Int) (x : Int), minL x r ∈ x :: r
  | [], x => by simp [minL]
  | y :: r, x => by
    rw [minL_step]
    have := minL_mem r (if y < x then y else x)
    rcases List.mem_cons.1 this with e | e
    · rw [e]; split <;> simp
    · simp [e]
theorem minL_le : ∀ (r : List Int) (x : Int), ∀ y ∈ x :: r, minL x r ≤ y
  | [], x, y, h => by simp at h; rw [h]; exact Int.le_refl _
  | z :: r, x, y, h => by
    rw [minL_step]
    have ih := minL_le r (if z < x then z else x)
    have h0 := ih _ (List.mem_cons_self)
    rcases List.mem_cons.1 h with e | e
    · subst e; refine Int.le_trans h0 ?_; split <;> omega
    · rcases List.mem_cons.1 e with e | e
      · subst e; refine Int.le_trans h0 ?_; split <;> omega
      · exact ih y (by simp [e])
theorem noF_mono {l : List Dc} (hs : l.Pairwise fun a b => Dc.no a < Dc.no b) {j k : Nat} (hj : j ≤ k) (hk : k < l.length) : noF l j ≤ noF l k := by
  have h1 : l[j]? = some l[j] := List.getElem?_eq_getElem (by omega)
  have h2 : l[k]? = some l[k] := List.getElem?_eq_getElem hk
  rw [noF_of h1, noF_of h2]
  rcases Nat.lt_or_eq_of_le hj with e | e
  · have := srt_lt Dc.no hs e h1 h2; omega
  · subst e; exact Int.le_refl _
structure WhyL (l : List Dc) (sg : List Int) (t : Int) (i : Nat) (d : Dc) : Prop where
  op : upB sg t i = false → stA l (finP l sg t) i t = (1, -1)
  need : upB sg t i = true → 0 ≤ needF l (finP l (befL sg i) (sgF sg i)) (sgF sg i) d.need → stA l (finP l sg t) i t = (4, needF l (finP l (befL sg i) (sgF sg i)) (sgF sg i) d.need)
  rev : upB sg t i = true → needF l (finP l (befL sg i) (sgF sg i)) (sgF sg i) d.need < 0 → 0 ≤ revN l sg t d.no l.length → stA l (finP l sg t) i t = (5, revN l sg t d.no l.length)
  els : upB sg t i = true → needF l (finP l (befL sg i) (sgF sg i)) (sgF sg i) d.need < 0 → revN l sg t d.no l.length < 0 → stA l (finP l sg t) i t = if t < d.frm then (2, -1) else if d.til ≤ t then (3, -1) else (0, -1)
end Go.Proofs.Ytgclicahmbgfiaa

namespace Go.Proofs.Ytgclicahmbgfiaa
open Go Go.Sg
def rrv (l : List Dc) (done : List Nat) (eff : List Bool) (no : Int) (k : Nat) : Bool := decide (k ∈ done) && eff.getD k false && revB l no k
def rtmA (d : Dc) (t : Int) : Int × Int := if t < d.frm then (2, -1) else if d.til ≤ t then (3, -1) else (0, -1)
def rG (l : List Dc) (d : Dc) (t : Int) : Option Nat → Int × Int
  | some k => (5, noF l k)
  | none => rtmA d t
def rstA (l : List Dc) (done : List Nat) (eff : List Bool) (i : Nat) (d : Dc) (t : Int) : Int × Int :=
  if i ∈ done then (if eff.getD i false = true then rG l d t ((List.range l.length).find? (rrv l done eff d.no)) else (4, -1)) else (1, -1)
theorem hasB_nats (L : List Nat) (i : Nat) : hasB (L.map fun j => ((j : Nat) : Int)) (i : Int) = decide (i ∈ L) := by
  cases h : decide (i ∈ L) with
  | true =>
    have h := of_decide_eq_true h
    exact List.any_eq_true.2 ⟨(i : Int), List.mem_map.2 ⟨i, h, rfl⟩, decide_eq_true rfl⟩
  | false =>
    have h := of_decide_eq_false h
    refine List.any_eq_false.2 fun x hx e => ?_
    obtain ⟨j, hj, rfl⟩ := List.mem_map.1 hx
    have e := of_decide_eq_true e
    have : j = i := by omega
    exact h (this ▸ hj)
theorem hasNs_calls (L : List Nat) (i : Nat) (hl : L.length < 1000000) : PCalls Try.prog 28 [eNs L, eN i] (.bool (decide (i ∈ L))) := by
  have h := has_calls (L.map fun j => ((j : Nat) : Int)) (i : Int) (by simpa using hl)
  rw [hasB_nats] at h
  have e : eIs (L.map fun j => ((j : Nat) : Int)) = eNs L := by
    show PV.sl 1 false ((L.map fun j => ((j : Nat) : Int)).map eI) = PV.sl 1 false (L.map eN)
    rw [List.map_map]; rfl
  rw [e] at h
  exact h
theorem find_none {p : Nat → Bool} {n : Nat} (h : ∀ k, k < n → p k = false) : (List.range n).find? p = none := by
  rw [List.find?_eq_none]
  intro x hx e
  rw [h x (List.mem_range.1 hx)] at e; cases e
theorem find_some {p : Nat → Bool} {n k : Nat} (hk : k < n) (hp : p k = true) (h : ∀ j, j < k → p j = false) : (List.range n).find? p = some k := by
  induction n with
  | zero => omega
  | succ n ih =>
    rw [List.range_succ, List.find?_append]
    by_cases e : k = n
    · subst e
      rw [find_none h]
      simp [hp]
    · rw [ih (by omega)]; rfl
theorem rstate_icalls (l : List Dc) (done : List Nat) (eff : List Bool) (i : Nat) (d : Dc) (t : Int) (hd : l[i]? = some d) (he : eff.length = l.length) (hl : l.length < 1000000) (hdn : done.length < 1000000) (hr : ∀ x ∈ l, x.rev.length < 1000000) :
    ICalls Try.prog 77 1 [(0, .row 1 (eff.map PV.bool))] [.p (eL l), .p (eNs done), .rsl 0 1 0 eff.length, .p (eN i), .p (eI t)] (.tup [.p (eI (rstA l done eff i d t).1), .p (eI (rstA l done eff i d t).2)]) [(0, .row 1 (eff.map PV.bool))] := by
  have hil := (List.getElem?_eq_some_iff.1 hd).1
  have hd2 : l[(i : Int).toNat]? = some d := by rw [Int.toNat_natCast]; exact hd
  have q := hasNs_calls done i hdn
  by_cases hm : i ∈ done
  rotate_left
  · rw [decide_eq_false hm] at q
    have e : rstA l done eff i d t = (1, -1) := by unfold rstA; rw [if_neg hm]
    rw [e]
    refine ICalls.of (N := 69) (res := [.tmp 10, .tmp 11]) mixed Try.func77 rfl rfl rfl (by kernel_rfl) (by simp) [0, 1, 2, 3, 4, 10, 11, 12, 16, 21, 25, 49, 61, 68] (Nat.le_refl _) ?_
    repeat' (first | exact cl1 | exact kE | (refine stx ?_; refine exU8 ?_) | ((with_reducible show callX _ _ _ _ _); (first | refine call_p (q) (by kernel_rfl) rfl ?_)) | ((fail_if_success refine stp ?_); (conv => whnf) <;> (first | exact cl2 | refine kX ?_ | refine kP ?_ | refine kBd (fun hc => ?_) (fun hc => ?_) | refine kT ?_ | refine kF ?_ | refine kN ?_ | refine kBm (fun hc => ?_) (fun hc => ?_) | refine kO ?_ | refine kS ?_ | refine kA ?_ | refine kC ?_ ?_ | refine And.intro ?_ ?_ | refine ix_map (fun x hx => ?_) | refine exU8 ?_ | refine nilc (fun hn => ?_) ?_ | exact kW1 | refine imp0 (fun hpos => ?_) | refine kG ?_ ?_ | exact kW2 | (first | refine stq ?_ | fail)))) <;> (try exact cl5)
    refine ⟨[], [(0, 0)], ?_, ?_, by decide, by simp, fun i hi => by match i, hi with | 0, _ => rfl⟩ <;> (repeat' (first | exact kQ1 | refine kHd ?_ | refine kHm rfl (by simp) rfl (fun h => AObj.noConfusion h) ?_ ?_ | refine And.intro ?_ ?_ | refine kVp ?_ | refine kVa ?_ | refine kVt ?_ | refine kVf ?_ ?_ | refine kVc ?_ ?_ | exact kQ2 | refine VLe.rsle rfl ?_ ?_ ?_ | refine kQw ?_ ?_ | refine kQm ?_ ?_ | refine kQj ?_ ?_ | refine kQc ?_ ?_ | refine kQs ?_ ?_ ?_))
  · rw [decide_eq_true hm] at q
    obtain ⟨b, hb⟩ : ∃ b, eff[i]? = some b := ⟨_, List.getElem?_eq_getElem (by omega)⟩
    have hb2 : eff[0 + (i : Int).toNat]? = some b := by rw [Int.toNat_natCast, Nat.zero_add]; exact hb
    have hbd : eff.getD i false = b := by simp [List.getD, hb]
    cases b with
    | false =>
      have e : rstA l done eff i d t = (4, -1) := by unfold rstA; rw [if_pos hm, hbd]; rfl
      rw [e]
      refine ICalls.of (N := 69) (res := [.tmp 10, .tmp 11]) mixed Try.func77 rfl rfl rfl (by kernel_rfl) (by simp) [0, 1, 2, 3, 4, 10, 11, 12, 16, 21, 25, 49, 61, 68] (Nat.le_refl _) ?_
      repeat' (first | exact cl1 | exact kE | (refine stx ?_; refine exU8 ?_) | ((with_reducible show callX _ _ _ _ _); (first | refine call_p (q) (by kernel_rfl) rfl ?_)) | ((fail_if_success refine stp ?_); (conv => whnf) <;> (first | exact cl2 | refine ix_at hb2 ?_ | refine kX ?_ | refine kP ?_ | refine kBd (fun hc => ?_) (fun hc => ?_) | refine kT ?_ | refine kF ?_ | refine kN ?_ | refine kBm (fun hc => ?_) (fun hc => ?_) | refine kO ?_ | refine kS ?_ | refine kA ?_ | refine kC ?_ ?_ | refine And.intro ?_ ?_ | refine ix_map (fun x hx => ?_) | refine exU8 ?_ | refine nilc (fun hn => ?_) ?_ | exact kW1 | refine imp0 (fun hpos => ?_) | refine kG ?_ ?_ | exact kW2 | (first | refine stq ?_ | fail)))) <;> (try exact cl5)
      refine ⟨[], [(0, 0)], ?_, ?_, by decide, by simp, fun i hi => by match i, hi with | 0, _ => rfl⟩ <;> (repeat' (first | exact kQ1 | refine kHd ?_ | refine kHm rfl (by simp) rfl (fun h => AObj.noConfusion h) ?_ ?_ | refine And.intro ?_ ?_ | refine kVp ?_ | refine kVa ?_ | refine kVt ?_ | refine kVf ?_ ?_ | refine kVc ?_ ?_ | exact kQ2 | refine VLe.rsle rfl ?_ ?_ ?_ | refine kQw ?_ ?_ | refine kQm ?_ ?_ | refine kQj ?_ ?_ | refine kQc ?_ ?_ | refine kQs ?_ ?_ ?_))
    | true =>
      have e : rstA l done eff i d t = rG l d t ((List.range l.length).find? (rrv l done eff d.no)) := by unfold rstA; rw [if_pos hm, hbd]; rfl
      rw [e]
      generalize hfo : (List.range l.length).find? (rrv l done eff d.no) = o
      refine ICalls.of (N := 69) (res := [.tmp 10, .tmp 11]) mixed Try.func77 rfl rfl rfl (by kernel_rfl) (by simp) [0, 1, 2, 3, 4, 10, 11, 12, 16, 21, 25, 49, 61, 68] (Nat.le_refl _) ?_
      repeat' (first | exact cl1 | exact kE | (refine stx ?_; refine exU8 ?_) | ((with_reducible show callX _ _ _ _ _); (first | refine call_p (q) (by kernel_rfl) rfl ?_)) | ((fail_if_success refine stp ?_); (conv => whnf) <;> (first | exact cl2 | refine ix_at hb2 ?_ | refine kX ?_ | refine kP ?_ | refine kBd (fun hc => ?_) (fun hc => ?_) | refine kT ?_ | refine kF ?_ | refine kN ?_ | refine kBm (fun hc => ?_) (fun hc => ?_) | refine kO ?_ | refine kS ?_ | refine kA ?_ | refine kC ?_ ?_ | refine And.intro ?_ ?_ | refine ix_map (fun x hx => ?_) | refine exU8 ?_ | refine nilc (fun hn => ?_) ?_ | exact kW1 | refine imp0 (fun hpos => ?_) | refine kG ?_ ?_ | exact kW2 | (first | refine stq ?_ | fail)))) <;> (try exact cl5)
      refine Wpc.loopB (α := {k : Nat // k ≤ l.length ∧ ∀ j, j < k → rrv l done eff d.no j = false}) mixed [0, 1, 2, 3, 4, 10, 11, 12, 16, 21, 25, 49, 61, 68] (fun k => [(12, .p (eI k.1))]) (fun k => l.length - k.1) ⟨0, by omega, fun j h => by omega⟩ ?_ ?_
      · (first | refine Ent.ofA [] ?_ | refine Ent.ofC [] ?_) <;> (repeat' (first | exact kQ1 | refine kHd ?_ | refine kHm rfl (by simp) rfl (fun h => AObj.noConfusion h) ?_ ?_ | refine And.intro ?_ ?_ | refine kVp ?_ | refine kVa ?_ | refine kVt ?_ | refine kVf ?_ ?_ | refine kVc ?_ ?_ | exact kQ2 | refine VLe.rsle rfl ?_ ?_ ?_ | refine kQw ?_ ?_ | refine kQm ?_ ?_ | refine kQj ?_ ?_ | refine kQc ?_ ?_ | refine kQs ?_ ?_ ?_)) <;> try exact kZ
      rintro ⟨k, hk, hq⟩
      have hk : k ≤ l.length := hk
      have hq : ∀ j, j < k → rrv l done eff d.no j = false := hq
      cases hx : l[k]? with
      | none =>
        have hge : l.length ≤ k := List.getElem?_eq_none_iff.1 hx
        have hno : ¬ ((k : Int) < ((l.map eA).length : Int)) := by rw [List.length_map]; omega
        have ho : rG l d t o = rtmA d t := by rw [← hfo, find_none (p := rrv l done eff d.no) (n := l.length) fun j hj => hq j (by omega)]; rfl
        by_cases c1 : t < d.frm
        · have e2 : rG l d t o = (2, -1) := by rw [ho]; unfold rtmA; rw [if_pos c1]
          rw [e2]
          repeat' (first | exact cl1 | exact kE | (refine stx ?_; refine exU8 ?_) | ((with_reducible show callX _ _ _ _ _); (first | refine call_p (q) (by kernel_rfl) rfl ?_)) | ((fail_if_success refine stp ?_); (conv => whnf) <;> (first | exact cl2 | refine kBn hno fun hc => ?_ | refine kBy c1 fun hc => ?_ | refine ix_at hd2 ?_ | refine kX ?_ | refine kP ?_ | refine kBd (fun hc => ?_) (fun hc => ?_) | refine kT ?_ | refine kF ?_ | refine kN ?_ | refine kBm (fun hc => ?_) (fun hc => ?_) | refine kO ?_ | refine kS ?_ | refine kA ?_ | refine kC ?_ ?_ | refine And.intro ?_ ?_ | refine ix_map (fun x hx => ?_) | refine exU8 ?_ | refine nilc (fun hn => ?_) ?_ | exact kW1 | refine imp0 (fun hpos => ?_) | refine kG ?_ ?_ | exact kW2 | (first | refine stq ?_ | fail)))) <;> (try exact cl5)
          refine ⟨[], [(0, 0)], ?_, ?_, by decide, by simp, fun i hi => by match i, hi with | 0, _ => rfl⟩ <;> (repeat' (first | exact kQ1 | refine kHd ?_ | refine kHm rfl (by simp) rfl (fun h => AObj.noConfusion h) ?_ ?_ | refine And.intro ?_ ?_ | refine kVp ?_ | refine kVa ?_ | refine kVt ?_ | refine kVf ?_ ?_ | refine kVc ?_ ?_ | exact kQ2 | refine VLe.rsle rfl ?_ ?_ ?_ | refine kQw ?_ ?_ | refine kQm ?_ ?_ | refine kQj ?_ ?_ | refine kQc ?_ ?_ | refine kQs ?_ ?_ ?_))
        · by_cases c2 : d.til ≤ t
          · have e2 : rG l d t o = (3, -1) := by rw [ho]; unfold rtmA; rw [if_neg c1, if_pos c2]
            rw [e2]
            repeat' (first | exact cl1 | exact kE | (refine stx ?_; refine exU8 ?_) | ((with_reducible show callX _ _ _ _ _); (first | refine call_p (q) (by kernel_rfl) rfl ?_)) | ((fail_if_success refine stp ?_); (conv => whnf) <;> (first | exact cl2 | refine kBn hno fun hc => ?_ | refine kBn c1 fun hc => ?_ | refine kBy c2 fun hc => ?_ | refine ix_at hd2 ?_ | refine kX ?_ | refine kP ?_ | refine kBd (fun hc => ?_) (fun hc => ?_) | refine kT ?_ | refine kF ?_ | refine kN ?_ | refine kBm (fun hc => ?_) (fun hc => ?_) | refine kO ?_ | refine kS ?_ | refine kA ?_ | refine kC ?_ ?_ | refine And.intro ?_ ?_ | refine ix_map (fun x hx => ?_) | refine exU8 ?_ | refine nilc (fun hn => ?_) ?_ | exact kW1 | refine imp0 (fun hpos => ?_) | refine kG ?_ ?_ | exact kW2 | (first | refine stq ?_ | fail)))) <;> (try exact cl5)
            refine ⟨[], [(0, 0)], ?_, ?_, by decide, by simp, fun i hi => by match i, hi with | 0, _ => rfl⟩ <;> (repeat' (first | exact kQ1 | refine kHd ?_ | refine kHm rfl (by simp) rfl (fun h => AObj.noConfusion h) ?_ ?_ | refine And.intro ?_ ?_ | refine kVp ?_ | refine kVa ?_ | refine kVt ?_ | refine kVf ?_ ?_ | refine kVc ?_ ?_ | exact kQ2 | refine VLe.rsle rfl ?_ ?_ ?_ | refine kQw ?_ ?_ | refine kQm ?_ ?_ | refine kQj ?_ ?_ | refine kQc ?_ ?_ | refine kQs ?_ ?_ ?_))
          · have e2 : rG l d t o = (0, -1) := by rw [ho]; unfold rtmA; rw [if_neg c1, if_neg c2]
            rw [e2]
            repeat' (first | exact cl1 | exact kE | (refine stx ?_; refine exU8 ?_) | ((with_reducible show callX _ _ _ _ _); (first | refine call_p (q) (by kernel_rfl) rfl ?_)) | ((fail_if_success refine stp ?_); (conv => whnf) <;> (first | exact cl2 | refine kBn hno fun hc => ?_ | refine kBn c1 fun hc => ?_ | refine kBn c2 fun hc => ?_ | refine ix_at hd2 ?_ | refine kX ?_ | refine kP ?_ | refine kBd (fun hc => ?_) (fun hc => ?_) | refine kT ?_ | refine kF ?_ | refine kN ?_ | refine kBm (fun hc => ?_) (fun hc => ?_) | refine kO ?_ | refine kS ?_ | refine kA ?_ | refine kC ?_ ?_ | refine And.intro ?_ ?_ | refine ix_map (fun x hx => ?_) | refine exU8 ?_ | refine nilc (fun hn => ?_) ?_ | exact kW1 | refine imp0 (fun hpos => ?_) | refine kG ?_ ?_ | exact kW2 | (first | refine stq ?_ | fail)))) <;> (try exact cl5)
            refine ⟨[], [(0, 0)], ?_, ?_, by decide, by simp, fun i hi => by match i, hi with | 0, _ => rfl⟩ <;> (repeat' (first | exact kQ1 | refine kHd ?_ | refine kHm rfl (by simp) rfl (fun h => AObj.noConfusion h) ?_ ?_ | refine And.intro ?_ ?_ | refine kVp ?_ | refine kVa ?_ | refine kVt ?_ | refine kVf ?_ ?_ | refine kVc ?_ ?_ | exact kQ2 | refine VLe.rsle rfl ?_ ?_ ?_ | refine kQw ?_ ?_ | refine kQm ?_ ?_ | refine kQj ?_ ?_ | refine kQc ?_ ?_ | refine kQs ?_ ?_ ?_))
      | some y =>
        have hlt := (List.getElem?_eq_some_iff.1 hx).1
        have hyes : ((k : Int) < ((l.map eA).length : Int)) := by rw [List.length_map]; omega
        have qk := hasNs_calls done k hdn
        have qr := has_calls y.rev d.no (hr y (List.mem_of_getElem? hx))
        obtain ⟨c, hc0⟩ : ∃ c, eff[k]? = some c := ⟨_, List.getElem?_eq_getElem (by omega)⟩
        have hc2 : eff[0 + (k : Int).toNat]? = some c := by rw [Int.toNat_natCast, Nat.zero_add]; exact hc0
        have hx2 : l[(k : Int).toNat]? = some y := by rw [Int.toNat_natCast]; exact hx
        have hcd : eff.getD k false = c := by simp [List.getD, hc0]
        have hrr : rrv l done eff d.no k = (decide (k ∈ done) && c && hasB y.rev d.no) := by unfold rrv revB; rw [hcd, hx]
        have hgo : rrv l done eff d.no k = false → ∀ j, j < k + 1 → rrv l done eff d.no j = false := fun h j hj => by
          rcases Nat.lt_succ_iff_lt_or_eq.1 hj with h1 | h1
          · exact hq j h1
          · rw [h1]; exact h
        cases hkm : decide (k ∈ done) with
        | false =>
          rw [hkm] at qk hrr
          repeat' (first | exact cl1 | exact kE | (refine stx ?_; refine exU8 ?_) | ((with_reducible show callX _ _ _ _ _); (first | refine call_p (q) (by kernel_rfl) rfl ?_ | refine call_p (qk) (by kernel_rfl) rfl ?_)) | ((fail_if_success refine stp ?_); (conv => whnf) <;> (first | exact cl2 | refine kBy hyes fun hc => ?_ | refine kX ?_ | refine kP ?_ | refine kBd (fun hc => ?_) (fun hc => ?_) | refine kT ?_ | refine kF ?_ | refine kN ?_ | refine kBm (fun hc => ?_) (fun hc => ?_) | refine kO ?_ | refine kS ?_ | refine kA ?_ | refine kC ?_ ?_ | refine And.intro ?_ ?_ | refine ix_map (fun x hx => ?_) | refine exU8 ?_ | refine nilc (fun hn => ?_) ?_ | exact kW1 | refine imp0 (fun hpos => ?_) | refine kG ?_ ?_ | exact kW2 | (first | refine stq ?_ | fail)))) <;> (try exact cl5)
          refine ⟨⟨k + 1, hlt, hgo hrr⟩, by show l.length - (k + 1) < l.length - k; omega, ?_⟩
          (first | refine Ent.ofA [] ?_ | refine Ent.ofC [] ?_) <;> (repeat' (first | exact kQ1 | refine kHd ?_ | refine kHm rfl (by simp) rfl (fun h => AObj.noConfusion h) ?_ ?_ | refine And.intro ?_ ?_ | refine kVp ?_ | refine kVa ?_ | refine kVt ?_ | refine kVf ?_ ?_ | refine kVc ?_ ?_ | exact kQ2 | refine VLe.rsle rfl ?_ ?_ ?_ | refine kQw ?_ ?_ | refine kQm ?_ ?_ | refine kQj ?_ ?_ | refine kQc ?_ ?_ | refine kQs ?_ ?_ ?_)) <;> try exact kZ
        | true =>
          rw [hkm] at qk hrr
          cases c with
          | false =>
            repeat' (first | exact cl1 | exact kE | (refine stx ?_; refine exU8 ?_) | ((with_reducible show callX _ _ _ _ _); (first | refine call_p (q) (by kernel_rfl) rfl ?_ | refine call_p (qk) (by kernel_rfl) rfl ?_)) | ((fail_if_success refine stp ?_); (conv => whnf) <;> (first | exact cl2 | refine kBy hyes fun hc => ?_ | refine ix_at hc2 ?_ | refine kX ?_ | refine kP ?_ | refine kBd (fun hc => ?_) (fun hc => ?_) | refine kT ?_ | refine kF ?_ | refine kN ?_ | refine kBm (fun hc => ?_) (fun hc => ?_) | refine kO ?_ | refine kS ?_ | refine kA ?_ | refine kC ?_ ?_ | refine And.intro ?_ ?_ | refine ix_map (fun x hx => ?_) | refine exU8 ?_ | refine nilc (fun hn => ?_) ?_ | exact kW1 | refine imp0 (fun hpos => ?_) | refine kG ?_ ?_ | exact kW2 | (first | refine stq ?_ | fail)))) <;> (try exact cl5)
            refine ⟨⟨k + 1, hlt, hgo hrr⟩, by show l.length - (k + 1) < l.length - k; omega, ?_⟩
            (first | refine Ent.ofA [] ?_ | refine Ent.ofC [] ?_) <;> (repeat' (first | exact kQ1 | refine kHd ?_ | refine kHm rfl (by simp) rfl (fun h => AObj.noConfusion h) ?_ ?_ | refine And.intro ?_ ?_ | refine kVp ?_ | refine kVa ?_ | refine kVt ?_ | refine kVf ?_ ?_ | refine kVc ?_ ?_ | exact kQ2 | refine VLe.rsle rfl ?_ ?_ ?_ | refine kQw ?_ ?_ | refine kQm ?_ ?_ | refine kQj ?_ ?_ | refine kQc ?_ ?_ | refine kQs ?_ ?_ ?_)) <;> try exact kZ
          | true =>
            cases hrv : hasB y.rev d.no with
            | false =>
              rw [hrv] at qr hrr
              repeat' (first | exact cl1 | exact kE | (refine stx ?_; refine exU8 ?_) | ((with_reducible show callX _ _ _ _ _); (first | refine call_p (q) (by kernel_rfl) rfl ?_ | refine call_p (qk) (by kernel_rfl) rfl ?_ | refine call_p (qr) (by kernel_rfl) rfl ?_)) | ((fail_if_success refine stp ?_); (conv => whnf) <;> (first | exact cl2 | refine kBy hyes fun hc => ?_ | refine ix_at hc2 ?_ | refine ix_at hx2 ?_ | refine ix_at hd2 ?_ | refine kX ?_ | refine kP ?_ | refine kBd (fun hc => ?_) (fun hc => ?_) | refine kT ?_ | refine kF ?_ | refine kN ?_ | refine kBm (fun hc => ?_) (fun hc => ?_) | refine kO ?_ | refine kS ?_ | refine kA ?_ | refine kC ?_ ?_ | refine And.intro ?_ ?_ | refine ix_map (fun x hx => ?_) | refine exU8 ?_ | refine nilc (fun hn => ?_) ?_ | exact kW1 | refine imp0 (fun hpos => ?_) | refine kG ?_ ?_ | exact kW2 | (first | refine stq ?_ | fail)))) <;> (try exact cl5)
              refine ⟨⟨k + 1, hlt, hgo hrr⟩, by show l.length - (k + 1) < l.length - k; omega, ?_⟩
              (first | refine Ent.ofA [] ?_ | refine Ent.ofC [] ?_) <;> (repeat' (first | exact kQ1 | refine kHd ?_ | refine kHm rfl (by simp) rfl (fun h => AObj.noConfusion h) ?_ ?_ | refine And.intro ?_ ?_ | refine kVp ?_ | refine kVa ?_ | refine kVt ?_ | refine kVf ?_ ?_ | refine kVc ?_ ?_ | exact kQ2 | refine VLe.rsle rfl ?_ ?_ ?_ | refine kQw ?_ ?_ | refine kQm ?_ ?_ | refine kQj ?_ ?_ | refine kQc ?_ ?_ | refine kQs ?_ ?_ ?_)) <;> try exact kZ
            | true =>
              rw [hrv] at qr hrr
              have e2 : rG l d t o = (5, y.no) := by rw [← hfo, find_some hlt hrr hq]; show (5, noF l k) = _; rw [noF_of hx]
              rw [e2]
              repeat' (first | exact cl1 | exact kE | (refine stx ?_; refine exU8 ?_) | ((with_reducible show callX _ _ _ _ _); (first | refine call_p (q) (by kernel_rfl) rfl ?_ | refine call_p (qk) (by kernel_rfl) rfl ?_ | refine call_p (qr) (by kernel_rfl) rfl ?_)) | ((fail_if_success refine stp ?_); (conv => whnf) <;> (first | exact cl2 | refine kBy hyes fun hc => ?_ | refine ix_at hc2 ?_ | refine ix_at hx2 ?_ | refine ix_at hd2 ?_ | refine kX ?_ | refine kP ?_ | refine kBd (fun hc => ?_) (fun hc => ?_) | refine kT ?_ | refine kF ?_ | refine kN ?_ | refine kBm (fun hc => ?_) (fun hc => ?_) | refine kO ?_ | refine kS ?_ | refine kA ?_ | refine kC ?_ ?_ | refine And.intro ?_ ?_ | refine ix_map (fun x hx => ?_) | refine exU8 ?_ | refine nilc (fun hn => ?_) ?_ | exact kW1 | refine imp0 (fun hpos => ?_) | refine kG ?_ ?_ | exact kW2 | (first | refine stq ?_ | fail)))) <;> (try exact cl5)
              refine ⟨[], [(0, 0)], ?_, ?_, by decide, by simp, fun i hi => by match i, hi with | 0, _ => rfl⟩ <;> (repeat' (first | exact kQ1 | refine kHd ?_ | refine kHm rfl (by simp) rfl (fun h => AObj.noConfusion h) ?_ ?_ | refine And.intro ?_ ?_ | refine kVp ?_ | refine kVa ?_ | refine kVt ?_ | refine kVf ?_ ?_ | refine kVc ?_ ?_ | exact kQ2 | refine VLe.rsle rfl ?_ ?_ ?_ | refine kQw ?_ ?_ | refine kQm ?_ ?_ | refine kQj ?_ ?_ | refine kQc ?_ ?_ | refine kQs ?_ ?_ ?_))
end Go.Proofs.Ytgclicahmbgfiaa

namespace Go.Proofs.Ytgclicahmbgfiaa
open Go Go.Sg
theorem ordF_succ (sg : List Int) (t : Int) (n : Nat) : ordF sg t (n + 1) = if upB sg t n then insR (sgF sg) (ordF sg t n) n else ordF sg t n := by
  unfold ordF upL
  rw [List.range_succ, List.filter_append, List.foldl_append]
  cases h : upB sg t n <;> simp [h]
theorem ordF_lt {sg : List Int} {t : Int} {n j : Nat} (h : j ∈ ordF sg t n) : j < n := by
  unfold ordF at h
  have := (foldl_perm (f := sgF sg) (upL sg t n) []).mem_iff.1 h
  rw [List.append_nil] at this
  exact (upL_lt this).1
theorem ordF_len (sg : List Int) (t : Int) (n : Nat) : (ordF sg t n).length ≤ n := by
  unfold ordF
  rw [(foldl_perm (f := sgF sg) (upL sg t n) []).length_eq, List.append_nil]
  exact upL_len sg t n
theorem rorder_calls (sg : List Int) (t : Int) (hl : sg.length < 1000000) : PCalls Try.prog 78 [eIs sg, eI t] (eNs (ordL sg t)) := by
  refine PCalls.of (N := 62) (res := [.tmp 4]) mixed Try.func78 rfl rfl rfl (by kernel_rfl) (by simp) [0, 1, 4, 5, 6, 7, 12, 27, 46] ?_
  repeat' (first | exact cl1 | exact kE | (refine stx ?_; refine exU8 ?_) | ((fail_if_success refine stp ?_); (conv => whnf) <;> (first | exact cl2 | refine kX ?_ | refine kP ?_ | refine kBd (fun hc => ?_) (fun hc => ?_) | refine kT ?_ | refine kF ?_ | refine kN ?_ | refine kBm (fun hc => ?_) (fun hc => ?_) | refine kO ?_ | refine kS ?_ | refine kA ?_ | refine kC ?_ ?_ | refine And.intro ?_ ?_ | refine ix_map (fun x hx => ?_) | refine exU8 ?_ | refine nilc (fun hn => ?_) ?_ | exact kW1 | refine imp0 (fun hpos => ?_) | refine kG ?_ ?_ | exact kW2 | (first | refine stq ?_ | fail)))) <;> (try exact cl5)
  refine Wpc.loopA (α := {i : Nat // i ≤ sg.length}) mixed [0, 1, 4, 5, 6, 7, 12, 27, 46] (fun i => [(5, .rsl 64 1 0 (ordF sg t i.1).length), (6, .p (eI i.1))]) (fun i => [(64, .row 1 ((ordF sg t i.1).map eN))]) (fun _ => 0) (fun i => sg.length - i.1) ⟨0, by omega⟩ ?_ ?_
  · (first | refine Ent.ofA [] ?_ | refine Ent.ofC [] ?_) <;> (repeat' (first | exact kQ1 | refine kHd ?_ | refine kHm rfl (by simp) rfl (fun h => AObj.noConfusion h) ?_ ?_ | refine And.intro ?_ ?_ | refine kVp ?_ | refine kVa ?_ | refine kVt ?_ | refine kVf ?_ ?_ | refine kVc ?_ ?_ | exact kQ2 | refine VLe.rsle rfl ?_ ?_ ?_ | refine kQw ?_ ?_ | refine kQm ?_ ?_ | refine kQj ?_ ?_ | refine kQc ?_ ?_ | refine kQs ?_ ?_ ?_)) <;> try exact kZ
  rintro ⟨i, hi⟩
  have hi : i ≤ sg.length := hi
  have hLl := ordF_len sg t i
  have hLm := fun j => ordF_lt (sg := sg) (t := t) (n := i) (j := j)
  have hsuc := ordF_succ sg t i
  cases hx : sg[i]? with
  | none =>
    have hge : sg.length ≤ i := List.getElem?_eq_none_iff.1 hx
    have hno : ¬ ((i : Int) < ((sg.map eI).length : Int)) := by rw [List.length_map]; omega
    have hil : i = sg.length := by omega
    repeat' (first | exact cl1 | exact kE | (refine stx ?_; refine exU8 ?_) | ((fail_if_success refine stp ?_); (conv => whnf) <;> (first | exact cl2 | refine kBn hno fun hc => ?_ | refine kX ?_ | refine kP ?_ | refine kBd (fun hc => ?_) (fun hc => ?_) | refine kT ?_ | refine kF ?_ | refine kN ?_ | refine kBm (fun hc => ?_) (fun hc => ?_) | refine kO ?_ | refine kS ?_ | refine kA ?_ | refine kC ?_ ?_ | refine And.intro ?_ ?_ | refine ix_map (fun x hx => ?_) | refine exU8 ?_ | refine nilc (fun hn => ?_) ?_ | exact kW1 | refine imp0 (fun hpos => ?_) | refine kG ?_ ?_ | exact kW2 | (first | refine stq ?_ | fail)))) <;> (try exact cl5)
    have e : ordL sg t = ordF sg t i := by unfold ordL; rw [hil]
    rw [e]
    show LeG (PV.sl 1 false (List.take (ordF sg t i).length (List.drop 0 ((ordF sg t i).map eN)))) (eNs (ordF sg t i))
    rw [List.drop_zero, List.take_of_length_le (by simp)]
    exact LeG.refl _
  | some u =>
    have hlt := (List.getElem?_eq_some_iff.1 hx).1
    have hyes : ((i : Int) < ((sg.map eI).length : Int)) := by rw [List.length_map]; omega
    have hu : u = sgF sg i := by simp [sgF, List.getD, hx]
    generalize hL : ordF sg t i = L at *
    by_cases hc0 : 0 ≤ u ∧ u ≤ t
    rotate_left
    · have hub : upB sg t i = false := by
        unfold upB; rw [← hu]
        cases h : (decide (0 ≤ u) && decide (u ≤ t)) with
        | false => rfl
        | true =>
          simp only [Bool.and_eq_true, decide_eq_true_eq] at h
          exact absurd h hc0
      rw [hub] at hsuc
      have hsuc : ordF sg t (i + 1) = L := hsuc
      repeat' (first | exact cl1 | exact kE | (refine stx ?_; refine exU8 ?_) | ((fail_if_success refine stp ?_); (conv => whnf) <;> (first | exact cl2 | refine kBy hyes fun hc => ?_ | refine ix_at hx ?_ | refine kX ?_ | refine kP ?_ | refine kBd (fun hc => ?_) (fun hc => ?_) | refine kT ?_ | refine kF ?_ | refine kN ?_ | refine kBm (fun hc => ?_) (fun hc => ?_) | refine kO ?_ | refine kS ?_ | refine kA ?_ | refine kC ?_ ?_ | refine And.intro ?_ ?_ | refine ix_map (fun x hx => ?_) | refine exU8 ?_ | refine nilc (fun hn => ?_) ?_ | exact kW1 | refine imp0 (fun hpos => ?_) | refine kG ?_ ?_ | exact kW2 | (first | refine stq ?_ | fail)))) <;> (try exact cl5)
      all_goals first
      | (exfalso; dsimp only at *; omega)
      | (refine ⟨⟨i + 1, hlt⟩, by show sg.length - (i + 1) < sg.length - i; omega, ?_⟩
         show Ent _ _ (hdS [0, 1, 4, 5, 6, 7, 12, 27, 46] _ _ _ [(5, .rsl 64 1 0 (ordF sg t (i + 1)).length), (6, .p (eI ((i + 1 : Nat) : Int)))] [(64, .row 1 ((ordF sg t (i + 1)).map eN))] _)
         rw [hsuc]
         (first | refine Ent.ofA [] ?_ | refine Ent.ofC [] ?_) <;> (repeat' (first | exact kQ1 | refine kHd ?_ | refine kHm rfl (by simp) rfl (fun h => AObj.noConfusion h) ?_ ?_ | refine And.intro ?_ ?_ | refine kVp ?_ | refine kVa ?_ | refine kVt ?_ | refine kVf ?_ ?_ | refine kVc ?_ ?_ | exact kQ2 | refine VLe.rsle rfl ?_ ?_ ?_ | refine kQw ?_ ?_ | refine kQm ?_ ?_ | refine kQj ?_ ?_ | refine kQc ?_ ?_ | refine kQs ?_ ?_ ?_)) <;> try exact kZ
         done)
      | trace_state
    · obtain ⟨c1, c2⟩ := hc0
      have hub : upB sg t i = true := by unfold upB; rw [← hu, decide_eq_true c1, decide_eq_true c2]; rfl
      rw [hub] at hsuc
      have hsuc : ordF sg t (i + 1) = insR (sgF sg) L i := hsuc
      have n1 : ¬ u < 0 := by omega
      have n2 : ¬ t < u := by omega
      repeat' (first | exact cl1 | exact kE | (refine stx ?_; refine exU8 ?_) | ((fail_if_success refine stp ?_); (conv => whnf) <;> (first | exact cl2 | refine Sq.fz (id := 6) [(5, false)] ?_ | refine kBn n1 fun hc => ?_ | refine kBn n2 fun hc => ?_ | refine kBy hyes fun hc => ?_ | refine ix_at hx ?_ | refine kX ?_ | refine kP ?_ | refine kBd (fun hc => ?_) (fun hc => ?_) | refine kT ?_ | refine kF ?_ | refine kN ?_ | refine kBm (fun hc => ?_) (fun hc => ?_) | refine kO ?_ | refine kS ?_ | refine kA ?_ | refine kC ?_ ?_ | refine And.intro ?_ ?_ | refine ix_map (fun x hx => ?_) | refine exU8 ?_ | refine nilc (fun hn => ?_) ?_ | exact kW1 | refine imp0 (fun hpos => ?_) | refine kG ?_ ?_ | exact kW2 | (first | refine stq ?_ | fail)))) <;> (try exact cl5)
      refine Wpc.loopB (α := {k : Nat // k ≤ L.length ∧ ∀ m y, k ≤ m → L[m]? = some y → sgF sg i < sgF sg y}) mixed [0, 1, 4, 5, 6, 7, 12, 27, 46] (fun k => [(5, .p (eNs L)), (7, .p (eI k.1))]) (fun k => k.1) ⟨L.length, Nat.le_refl _, fun m y h1 h2 => by have := (List.getElem?_eq_some_iff.1 h2).1; omega⟩ ?_ ?_
      · (first | refine Ent.ofA [] ?_ | refine Ent.ofC [] ?_) <;> (repeat' (first | exact kQ1 | refine kHd ?_ | refine kHm rfl (by simp) rfl (fun h => AObj.noConfusion h) ?_ ?_ | refine And.intro ?_ ?_ | refine kVp ?_ | refine kVa ?_ | refine kVt ?_ | refine kVf ?_ ?_ | refine kVc ?_ ?_ | exact kQ2 | refine VLe.rsle rfl ?_ ?_ ?_ | refine kQw ?_ ?_ | refine kQm ?_ ?_ | refine kQj ?_ ?_ | refine kQc ?_ ?_ | refine kQs ?_ ?_ ?_)) <;> try exact kZ
        all_goals (show PV.sl 1 false (List.take L.length (List.drop 0 (List.map eN L))) = eNs L; rw [List.drop_zero, List.take_of_length_le (by simp)]; rfl)
      rintro ⟨k, hk, hq⟩
      have hk : k ≤ L.length := hk
      have hq : ∀ m y, k ≤ m → L[m]? = some y → sgF sg i < sgF sg y := hq
      have hfin : posR (sgF sg) i L = k → ordF sg t (i + 1) = L.take k ++ i :: L.drop k := fun h => by rw [hsuc]; unfold insR; rw [h]
      cases k with
      | zero =>
        have hno0 : ¬ (0 : Int) < ((0 : Nat) : Int) := by decide
        have hp := hfin (posR_eq (sgF sg) i L 0 hk hq (fun y h => by omega))
        repeat' (first | exact cl1 | exact kE | (refine stx ?_; refine exU8 ?_) | ((fail_if_success refine stp ?_); (conv => whnf) <;> (first | exact cl2 | refine kBn hno0 fun hc => ?_ | refine kX ?_ | refine kP ?_ | refine kBd (fun hc => ?_) (fun hc => ?_) | refine kT ?_ | refine kF ?_ | refine kN ?_ | refine kBm (fun hc => ?_) (fun hc => ?_) | refine kO ?_ | refine kS ?_ | refine kA ?_ | refine kC ?_ ?_ | refine And.intro ?_ ?_ | refine ix_map (fun x hx => ?_) | refine exU8 ?_ | refine nilc (fun hn => ?_) ?_ | exact kW1 | refine imp0 (fun hpos => ?_) | refine kG ?_ ?_ | exact kW2 | (first | refine stq ?_ | fail)))) <;> (try exact cl5)
        refine ⟨⟨i + 1, hlt⟩, by show sg.length - (i + 1) < sg.length - i; omega, ?_⟩
        show Ent _ _ (hdS [0, 1, 4, 5, 6, 7, 12, 27, 46] _ _ _ [(5, .rsl 64 1 0 (ordF sg t (i + 1)).length), (6, .p (eI ((i + 1 : Nat) : Int)))] [(64, .row 1 ((ordF sg t (i + 1)).map eN))] _)
        rw [hp]
        (first | refine Ent.ofA [] ?_ | refine Ent.ofC [] ?_) <;> (repeat' (first | exact kQ1 | refine kHd ?_ | refine kHm rfl (by simp) rfl (fun h => AObj.noConfusion h) ?_ ?_ | refine And.intro ?_ ?_ | refine kVp ?_ | refine kVa ?_ | refine kVt ?_ | refine kVf ?_ ?_ | refine kVc ?_ ?_ | exact kQ2 | refine VLe.rsle rfl ?_ ?_ ?_ | refine kQw ?_ ?_ | refine kQm ?_ ?_ | refine kQj ?_ ?_ | refine kQc ?_ ?_ | refine kQs ?_ ?_ ?_)) <;> try exact kZ
        all_goals (dsimp only; first | (simp only [Int.toNat_natCast, Int.reduceToNat, List.drop_zero, List.length_append, List.length_cons, List.length_take, List.length_drop, List.length_map, Int.toNat_zero]; omega) | (simp only [Int.toNat_natCast, Int.toNat_zero, Int.reduceToNat, List.drop_zero, List.nil_append, List.take_length, List.map_append, List.map_cons, List.map_take, List.map_drop, List.take_succ_cons, List.take_zero, List.append_assoc, List.singleton_append, List.cons_append]; rfl) | trace_state)
      | succ k =>
        have hy0 : (0 : Int) < ((k + 1 : Nat) : Int) := by omega
        obtain ⟨y, hy⟩ : ∃ y, L[k]? = some y := ⟨_, List.getElem?_eq_getElem (by omega)⟩
        have hyi := hLm y (List.mem_of_getElem? hy)
        have hy2 : L[(((k + 1 : Nat) : Int) - 1).toNat]? = some y := by rw [show (((k + 1 : Nat) : Int) - 1).toNat = k by omega]; exact hy
        have hsy : sg[(y : Int).toNat]? = some (sgF sg y) := by rw [Int.toNat_natCast]; simp [sgF, List.getD, show y < sg.length by omega]
        by_cases hcc : u < sgF sg y
        · repeat' (first | exact cl1 | exact kE | (refine stx ?_; refine exU8 ?_) | ((fail_if_success refine stp ?_); (conv => whnf) <;> (first | exact cl2 | refine kBy hcc fun hc => ?_ | refine kBy hy0 fun hc => ?_ | refine ix_at hx ?_ | refine ix_at hy2 ?_ | refine ix_at hsy ?_ | refine kX ?_ | refine kP ?_ | refine kBd (fun hc => ?_) (fun hc => ?_) | refine kT ?_ | refine kF ?_ | refine kN ?_ | refine kBm (fun hc => ?_) (fun hc => ?_) | refine kO ?_ | refine kS ?_ | refine kA ?_ | refine kC ?_ ?_ | refine And.intro ?_ ?_ | refine ix_map (fun x hx => ?_) | refine exU8 ?_ | refine nilc (fun hn => ?_) ?_ | exact kW1 | refine imp0 (fun hpos => ?_) | refine kG ?_ ?_ | exact kW2 | (first | refine stq ?_ | fail)))) <;> (try exact cl5)
          refine ⟨⟨k, by omega, fun m z h hz => ?_⟩, by show k < k + 1; omega, ?_⟩
          · rcases Nat.lt_or_eq_of_le h with h1 | h1
            · exact hq m z h1 hz
            · rw [← h1, hy] at hz; injection hz with hz; subst hz; omega
          (first | refine Ent.ofA [] ?_ | refine Ent.ofC [] ?_) <;> (repeat' (first | exact kQ1 | refine kHd ?_ | refine kHm rfl (by simp) rfl (fun h => AObj.noConfusion h) ?_ ?_ | refine And.intro ?_ ?_ | refine kVp ?_ | refine kVa ?_ | refine kVt ?_ | refine kVf ?_ ?_ | refine kVc ?_ ?_ | exact kQ2 | refine VLe.rsle rfl ?_ ?_ ?_ | refine kQw ?_ ?_ | refine kQm ?_ ?_ | refine kQj ?_ ?_ | refine kQc ?_ ?_ | refine kQs ?_ ?_ ?_)) <;> try exact kZ
        · have hp := hfin (posR_eq (sgF sg) i L (k + 1) hk hq (fun z h hz => by
            rw [show k + 1 - 1 = k by omega, hy] at hz; injection hz with hz; subst hz; omega))
          repeat' (first | exact cl1 | exact kE | (refine stx ?_; refine exU8 ?_) | ((fail_if_success refine stp ?_); (conv => whnf) <;> (first | exact cl2 | refine kBn hcc fun hc => ?_ | refine kBy hy0 fun hc => ?_ | refine ix_at hx ?_ | refine ix_at hy2 ?_ | refine ix_at hsy ?_ | refine kX ?_ | refine kP ?_ | refine kBd (fun hc => ?_) (fun hc => ?_) | refine kT ?_ | refine kF ?_ | refine kN ?_ | refine kBm (fun hc => ?_) (fun hc => ?_) | refine kO ?_ | refine kS ?_ | refine kA ?_ | refine kC ?_ ?_ | refine And.intro ?_ ?_ | refine ix_map (fun x hx => ?_) | refine exU8 ?_ | refine nilc (fun hn => ?_) ?_ | exact kW1 | refine imp0 (fun hpos => ?_) | refine kG ?_ ?_ | exact kW2 | (first | refine stq ?_ | fail)))) <;> (try exact cl5)
          refine ⟨⟨i + 1, hlt⟩, by show sg.length - (i + 1) < sg.length - i; omega, ?_⟩
          show Ent _ _ (hdS [0, 1, 4, 5, 6, 7, 12, 27, 46] _ _ _ [(5, .rsl 64 1 0 (ordF sg t (i + 1)).length), (6, .p (eI ((i + 1 : Nat) : Int)))] [(64, .row 1 ((ordF sg t (i + 1)).map eN))] _)
          rw [hp]
          (first | refine Ent.ofA [] ?_ | refine Ent.ofC [] ?_) <;> (repeat' (first | exact kQ1 | refine kHd ?_ | refine kHm rfl (by simp) rfl (fun h => AObj.noConfusion h) ?_ ?_ | refine And.intro ?_ ?_ | refine kVp ?_ | refine kVa ?_ | refine kVt ?_ | refine kVf ?_ ?_ | refine kVc ?_ ?_ | exact kQ2 | refine VLe.rsle rfl ?_ ?_ ?_ | refine kQw ?_ ?_ | refine kQm ?_ ?_ | refine kQj ?_ ?_ | refine kQc ?_ ?_ | refine kQs ?_ ?_ ?_)) <;> try exact kZ
          all_goals (dsimp only; first | (simp only [Int.toNat_natCast, Int.reduceToNat, List.drop_zero, List.length_append, List.length_cons, List.length_take, List.length_drop, List.length_map, Int.toNat_zero]; omega) | (simp only [Int.toNat_natCast, Int.toNat_zero, Int.reduceToNat, List.drop_zero, List.nil_append, List.take_length, List.map_append, List.map_cons, List.map_take, List.map_drop, List.take_succ_cons, List.take_zero, List.append_assoc, List.singleton_append, List.cons_append]; rfl) | trace_state)
end Go.Proofs.Ytgclicahmbgfiaa

namespace Go.Proofs.Ytgclicahmbgfiaa
open Go Go.Sg
theorem min_find {l : List Dc} (hs : l.Pairwise fun a b => Dc.no a < Dc.no b) {S : List Nat} (hS : ∀ i ∈ S, i < l.length) (q : Nat → Bool) :
    ((List.range l.length).find? (fun k => decide (k ∈ S) && q k) = none ∧ (S.filter q).map (noF l) = []) ∨
    ∃ k x r, (List.range l.length).find? (fun k => decide (k ∈ S) && q k) = some k ∧ (S.filter q).map (noF l) = x :: r ∧ minL x r = noF l k := by
  cases hf : (List.range l.length).find? (fun k => decide (k ∈ S) && q k) with
  | none =>
    refine .inl ⟨rfl, ?_⟩
    rw [List.map_eq_nil_iff, List.filter_eq_nil_iff]
    intro k hk hq
    have := List.find?_eq_none.1 hf k (List.mem_range.2 (hS k hk))
    exact this (by rw [decide_eq_true hk, hq]; rfl)
  | some k =>
    rw [List.find?_range_eq_some] at hf
    obtain ⟨h1, h2, h3⟩ := hf
    rw [Bool.and_eq_true] at h1
    have hkS := of_decide_eq_true h1.1
    have hkl := hS k hkS
    have hk : noF l k ∈ (S.filter q).map (noF l) := List.mem_map.2 ⟨k, List.mem_filter.2 ⟨hkS, h1.2⟩, rfl⟩
    cases hg : (S.filter q).map (noF l) with
    | nil => rw [hg] at hk; cases hk
    | cons x r =>
      refine .inr ⟨k, x, r, rfl, rfl, ?_⟩
      rw [hg] at hk
      have a := minL_le r x _ hk
      have b := minL_mem r x
      rw [← hg] at b
      obtain ⟨j, hj, e⟩ := List.mem_map.1 b
      obtain ⟨j1, j2⟩ := List.mem_filter.1 hj
      have hkj : k ≤ j := by
        rcases Nat.lt_or_ge j k with e2 | e2
        · have h4 := h3 j e2
          rw [decide_eq_true j1, j2] at h4
          exact absurd h4 (by decide)
        · exact e2
      have c := noF_mono hs hkj (hS j j1)
      rw [← e] at a ⊢
      omega
theorem lk_pre {l : List Dc} {sg : List Int} {O : List Nat} (hn : O.Nodup) (hr : ∀ x ∈ l, x.rev.length ≤ 20) {n i : Nat} {d : Dc} (hi : i ∈ O.take n) (hd : l[i]? = some d) : (playP l sg (O.take n)).lk.getD i 0 = (playP l sg O).lk.getD i 0 := by
  obtain ⟨j, hj⟩ := List.getElem?_of_mem hi
  have hjn : j < n := by have := (List.getElem?_eq_some_iff.1 hj).1; rw [List.length_take] at this; omega
  have hj2 : O[j]? = some i := by rw [List.getElem?_take_of_lt hjn] at hj; exact hj
  rw [lk_of (sg := sg) hn hr hj2 hd, lk_of (sg := sg) (hn.sublist (List.take_sublist n O)) hr hj hd, List.take_take, Nat.min_eq_left (by omega)]
theorem rst_bridge {l : List Dc} {sg : List Int} {O : List Nat} (hs : l.Pairwise fun a b => Dc.no a < Dc.no b) (hn : O.Nodup) (hO : ∀ i ∈ O, i < l.length) (hr : ∀ x ∈ l, x.rev.length ≤ 20 ∧ x.rev.Pairwise (· < ·)) {n : Nat} (hk : n ≤ O.length) {eff : List Bool}
    (hE : ∀ j ∈ O.take n, eff.getD j false = decide ((playP l sg O).lk.getD j 0 < 0)) {i : Nat} {d : Dc} (hd : l[i]? = some d) (t : Int) :
    rstA l (O.take n) eff i d t = if (stA l (playP l sg (O.take n)) i t).1 = 4 then (4, -1) else stA l (playP l sg (O.take n)) i t := by
  have hS : ∀ i ∈ O.take n, i < l.length := fun i hi => hO i (List.mem_of_mem_take hi)
  have hdn := play_dn (l := l) (sg := sg) (O.take n) hS i
  have hrow := row_of (sg := sg) hn hr hO d.no n hk
  have hl2 := fun h : i ∈ O.take n => lk_pre (sg := sg) hn (fun x hx => (hr x hx).1) h hd
  generalize hP : playP l sg (O.take n) = P at *
  generalize hF : playP l sg O = F at *
  by_cases hm : i ∈ O.take n
  rotate_left
  · rw [decide_eq_false hm] at hdn
    have e : stA l P i t = (1, -1) := by unfold stA; rw [hd]; simp only [hdn]; rfl
    unfold rstA
    rw [if_neg hm, e, if_neg (by simp)]
  · rw [decide_eq_true hm] at hdn
    have hl2 := hl2 hm
    have hEi := hE i hm
    unfold rstA
    rw [if_pos hm, hEi]
    by_cases h0 : F.lk.getD i 0 < 0
    rotate_left
    · have e : stA l P i t = (4, P.lk.getD i 0) := by unfold stA; rw [hd]; simp only [hdn]; rw [if_neg (by decide), if_pos (by rw [hl2]; omega)]
      rw [decide_eq_false h0, if_neg (by decide), e, if_pos rfl]
    · have hq : rrv l (O.take n) eff d.no = fun k => decide (k ∈ O.take n) && (decide (F.lk.getD k 0 < 0) && revB l d.no k) := by
        funext k
        unfold rrv
        by_cases hkm : k ∈ O.take n
        · rw [hE k hkm, Bool.and_assoc]
        · rw [decide_eq_false hkm, Bool.and_assoc, Bool.false_and, Bool.false_and]
      rw [decide_eq_true h0, if_pos rfl, hq]
      have e : stA l P i t = match aget d.no P.rv with | some (x :: r) => (5, minL x r) | _ => rtmA d t := by
        unfold stA; rw [hd]; simp only [hdn]; rw [if_neg (by decide), if_neg (by rw [hl2]; omega)]; rfl
      have htm : (rtmA d t).1 ≠ 4 := by unfold rtmA; repeat' split; all_goals simp
      unfold rowF at hrow
      rcases min_find hs hS (fun k => decide (F.lk.getD k 0 < 0) && revB l d.no k) with ⟨f1, f2⟩ | ⟨k, x, r, f1, f2, f3⟩
      · rw [f2] at hrow
        have e2 : stA l P i t = rtmA d t := by
          rw [e]
          cases hg : aget d.no P.rv with
          | none => rfl
          | some z => rw [hg] at hrow; have hrow : z = [] := hrow; subst hrow; rfl
        rw [f1, e2, if_neg htm]; rfl
      · rw [f2] at hrow
        have e2 : stA l P i t = (5, noF l k) := by
          rw [e]
          cases hg : aget d.no P.rv with
          | none => rw [hg] at hrow; cases hrow
          | some z => rw [hg] at hrow; have hrow : z = x :: r := hrow; subst hrow; show (5, minL x r) = _; rw [f3]
        rw [f1, e2, if_neg (by simp)]; rfl
def lakN (l : List Dc) (sg : List Int) (O : List Nat) (n : Nat) : List Int := (List.range l.length).map fun j => if j ∈ O.take n then (playP l sg O).lk.getD j 0 else -1
def effN (l : List Dc) (sg : List Int) (O : List Nat) (n : Nat) : List Bool := (List.range l.length).map fun j => decide (j ∈ O.take n) && decide ((playP l sg O).lk.getD j 0 < 0)
theorem lakN_len (l : List Dc) (sg : List Int) (O : List Nat) (n : Nat) : (lakN l sg O n).length = l.length := by unfold lakN; simp
theorem effN_len (l : List Dc) (sg : List Int) (O : List Nat) (n : Nat) : (effN l sg O n).length = l.length := by unfold effN; simp
theorem mapr_getD {α : Type} (f : Nat → α) (n i : Nat) (z : α) (h : i < n) : ((List.range n).map f).getD i z = f i := by
  simp [List.getD, h]
theorem mapr_set {α : Type} (f g : Nat → α) (n i : Nat) (h : ∀ j, j ≠ i → g j = f j) : (List.range n).map g = ((List.range n).map f).set i (g i) := by
  refine List.ext_getElem? fun j => ?_
  rw [List.getElem?_set, List.getElem?_map, List.getElem?_map, List.length_map, List.length_range]
  by_cases hj : j < n
  · rw [List.getElem?_range hj]
    by_cases e : i = j
    · subst e; rw [if_pos rfl, if_pos hj]; rfl
    · rw [if_neg e]
      show some (g j) = some (f j)
      rw [h j (fun k => e k.symm)]
  · rw [List.getElem?_eq_none (by simpa using hj)]
    by_cases e : i = j
    · subst e; rw [if_pos rfl, if_neg hj]; rfl
    · rw [if_neg e]; rfl
theorem mem_take_succ {O : List Nat} {n i j : Nat} (h : O[n]? = some i) : j ∈ O.take (n + 1) ↔ j ∈ O.take n ∨ j = i := by
  rw [List.take_add_one, h]; simp
theorem lakN_succ {l : List Dc} {sg : List Int} {O : List Nat} {n i : Nat} (h : O[n]? = some i) : lakN l sg O (n + 1) = (lakN l sg O n).set i ((playP l sg O).lk.getD i 0) := by
  unfold lakN
  rw [mapr_set (fun j => if j ∈ O.take n then (playP l sg O).lk.getD j 0 else -1) (fun j => if j ∈ O.take (n + 1) then (playP l sg O).lk.getD j 0 else -1) l.length i fun j hj => ?_]
  · rw [if_pos ((mem_take_succ h).2 (.inr rfl))]
  · by_cases hm : j ∈ O.take n
    · rw [if_pos hm, if_pos ((mem_take_succ h).2 (.inl hm))]
    · rw [if_neg hm, if_neg (fun k => by rcases (mem_take_succ h).1 k with k | k; exact hm k; exact hj k)]
theorem effN_succ {l : List Dc} {sg : List Int} {O : List Nat} {n i : Nat} (h : O[n]? = some i) : effN l sg O (n + 1) = (effN l sg O n).set i (decide ((playP l sg O).lk.getD i 0 < 0)) := by
  unfold effN
  rw [mapr_set (fun j => decide (j ∈ O.take n) && decide ((playP l sg O).lk.getD j 0 < 0)) (fun j => decide (j ∈ O.take (n + 1)) && decide ((playP l sg O).lk.getD j 0 < 0)) l.length i fun j hj => ?_]
  · rw [decide_eq_true ((mem_take_succ h).2 (.inr rfl)), Bool.true_and]
  · by_cases hm : j ∈ O.take n
    · rw [decide_eq_true hm, decide_eq_true ((mem_take_succ h).2 (.inl hm))]
    · rw [decide_eq_false hm, decide_eq_false (fun k => by rcases (mem_take_succ h).1 k with k | k; exact hm k; exact hj k)]
theorem lakN_zero (l : List Dc) (sg : List Int) (O : List Nat) : lakN l sg O 0 = List.replicate l.length (-1) := by
  unfold lakN
  rw [List.eq_replicate_iff]
  refine ⟨by simp, fun b hb => ?_⟩
  obtain ⟨j, _, rfl⟩ := List.mem_map.1 hb
  simp
theorem effN_zero (l : List Dc) (sg : List Int) (O : List Nat) : effN l sg O 0 = List.replicate l.length false := by
  unfold effN
  rw [List.eq_replicate_iff]
  refine ⟨by simp, fun b hb => ?_⟩
  obtain ⟨j, _, rfl⟩ := List.mem_map.1 hb
  simp
theorem lakN_at {l : List Dc} {sg : List Int} {O : List Nat} (hn : O.Nodup) {n i : Nat} (h : O[n]? = some i) (hi : i < l.length) : (lakN l sg O n)[i]? = some (-1) := by
  unfold lakN
  rw [List.getElem?_map, List.getElem?_range hi]
  show some (if i ∈ O.take n then _ else _) = _
  rw [if_neg (take_not h hn)]
end Go.Proofs.Ytgclicahmbgfiaa

namespace Go.Proofs.Ytgclicahmbgfiaa
open Go Go.Sg
theorem fnd_ix {l : List Dc} (hs : l.Pairwise fun a b => Dc.no a < Dc.no b) {no : Int} (h : (l.any fun x => decide (x.no = no)) = true) : fnd l no = ((ixF l no : Nat) : Int) := by
  obtain ⟨d, h1, h2, h3⟩ := ixF_of h
  unfold fnd
  exact fIx_some h2 (decide_eq_true h3) fun j w hj hw => decide_eq_false (by have := srt_lt Dc.no hs hj hw h2; omega)
/-- The reference's Lacks. -/
theorem rlacks_calls (l : List Dc) (sg : List Int) (t : Int) (h20 : l.length ≤ 20) (hd : ∀ x ∈ l, okF x) (hz : chkA l = 0) (hsz : sg.length = l.length) : PCalls Try.prog 76 [eL l, eIs sg, eI t] (eIs (lakN l sg (ordL sg t) (ordL sg t).length)) := by
  obtain ⟨_, hrr, hsr, hnm⟩ := chkA_srt hz
  have q1 := rorder_calls sg t (by omega)
  have hnd := ordL_nodup sg t
  have hOl := ordL_len sg t
  have hOm : ∀ i ∈ ordL sg t, i < l.length := fun i hi => by have := (ordL_mem.1 hi).1; omega
  have hrev : ∀ x ∈ l, x.rev.length ≤ 20 ∧ x.rev.Pairwise (· < ·) := fun x hx => ⟨(hd x hx).2.1, rev_srt (hrr x hx)⟩
  generalize ordL sg t = O at *
  refine PCalls.of (N := 98) (res := [.tmp 6]) mixed Try.func76 rfl rfl rfl (by kernel_rfl) (by simp) [0, 1, 2, 6, 7, 8, 9, 10, 11, 12, 13, 14, 26, 35, 50, 77] ?_
  repeat' (first | exact cl1 | exact kE | (refine stx ?_; refine exU8 ?_) | ((with_reducible show callX _ _ _ _ _); (first | refine call_p (q1) (by kernel_rfl) rfl ?_)) | ((fail_if_success refine stp ?_); (conv => whnf) <;> (first | exact cl2 | refine kX ?_ | refine kP ?_ | refine kBd (fun hc => ?_) (fun hc => ?_) | refine kT ?_ | refine kF ?_ | refine kN ?_ | refine kBm (fun hc => ?_) (fun hc => ?_) | refine kO ?_ | refine kS ?_ | refine kA ?_ | refine kC ?_ ?_ | refine And.intro ?_ ?_ | refine ix_map (fun x hx => ?_) | refine exU8 ?_ | refine nilc (fun hn => ?_) ?_ | exact kW1 | refine imp0 (fun hpos => ?_) | refine kG ?_ ?_ | exact kW2 | (first | refine stq ?_ | fail)))) <;> (try exact cl5)
  refine Wpc.loopA (α := {i : Nat // i ≤ l.length}) mixed [0, 1, 2, 6, 7, 8, 9, 10, 11, 12, 13, 14, 26, 35, 50, 77] (fun i => [(9, .rsl 576 1 0 i.1), (10, .p (eI i.1))]) (fun i => [(576, .row 1 ((List.replicate i.1 (-1 : Int)).map eI))]) (fun _ => 0) (fun i => l.length - i.1) ⟨0, by omega⟩ ?_ ?_
  · (first | refine Ent.ofA [] ?_ | refine Ent.ofC [] ?_) <;> (repeat' (first | exact kQ1 | refine kHd ?_ | refine kHm rfl (by simp) rfl (fun h => AObj.noConfusion h) ?_ ?_ | refine And.intro ?_ ?_ | refine kVp ?_ | refine kVa ?_ | refine kVt ?_ | refine kVf ?_ ?_ | refine kVc ?_ ?_ | exact kQ2 | refine VLe.rsle rfl ?_ ?_ ?_ | refine kQw ?_ ?_ | refine kQm ?_ ?_ | refine kQj ?_ ?_ | refine kQc ?_ ?_ | refine kQs ?_ ?_ ?_)) <;> try exact kZ
  rintro ⟨i, hi⟩
  have hi : i ≤ l.length := hi
  by_cases hil : i < l.length
  · have hyes : ((i : Int) < ((l.map eA).length : Int)) := by rw [List.length_map]; omega
    repeat' (first | exact cl1 | exact kE | (refine stx ?_; refine exU8 ?_) | ((fail_if_success refine stp ?_); (conv => whnf) <;> (first | exact cl2 | refine kBy hyes fun hc => ?_ | refine kX ?_ | refine kP ?_ | refine kBd (fun hc => ?_) (fun hc => ?_) | refine kT ?_ | refine kF ?_ | refine kN ?_ | refine kBm (fun hc => ?_) (fun hc => ?_) | refine kO ?_ | refine kS ?_ | refine kA ?_ | refine kC ?_ ?_ | refine And.intro ?_ ?_ | refine ix_map (fun x hx => ?_) | refine exU8 ?_ | refine nilc (fun hn => ?_) ?_ | exact kW1 | refine imp0 (fun hpos => ?_) | refine kG ?_ ?_ | exact kW2 | (first | refine stq ?_ | fail)))) <;> (try exact cl5)
    refine ⟨⟨i + 1, hil⟩, by show l.length - (i + 1) < l.length - i; omega, ?_⟩
    (first | refine Ent.ofA [] ?_ | refine Ent.ofC [] ?_) <;> (repeat' (first | exact kQ1 | refine kHd ?_ | refine kHm rfl (by simp) rfl (fun h => AObj.noConfusion h) ?_ ?_ | refine And.intro ?_ ?_ | refine kVp ?_ | refine kVa ?_ | refine kVt ?_ | refine kVf ?_ ?_ | refine kVc ?_ ?_ | exact kQ2 | refine VLe.rsle rfl ?_ ?_ ?_ | refine kQw ?_ ?_ | refine kQm ?_ ?_ | refine kQj ?_ ?_ | refine kQc ?_ ?_ | refine kQs ?_ ?_ ?_)) <;> try exact kZ
    all_goals first
    | (show (List.replicate i (-1 : Int)).map eI ++ [eI (-1)] = (List.replicate (i + 1) (-1 : Int)).map eI; rw [List.replicate_succ', List.map_append]; rfl)
    | trace_state
  · have hno : ¬ ((i : Int) < ((l.map eA).length : Int)) := by rw [List.length_map]; omega
    have hiL : i = l.length := by omega
    subst hiL
    repeat' (first | exact cl1 | exact kE | (refine stx ?_; refine exU8 ?_) | ((fail_if_success refine stp ?_); (conv => whnf) <;> (first | exact cl2 | refine kBn hno fun hc => ?_ | refine kX ?_ | refine kP ?_ | refine kBd (fun hc => ?_) (fun hc => ?_) | refine kT ?_ | refine kF ?_ | refine kN ?_ | refine kBm (fun hc => ?_) (fun hc => ?_) | refine kO ?_ | refine kS ?_ | refine kA ?_ | refine kC ?_ ?_ | refine And.intro ?_ ?_ | refine ix_map (fun x hx => ?_) | refine exU8 ?_ | refine nilc (fun hn => ?_) ?_ | exact kW1 | refine imp0 (fun hpos => ?_) | refine kG ?_ ?_ | exact kW2 | (first | refine stq ?_ | fail)))) <;> (try exact cl5)
    refine Wpc.loopA (α := {n : Nat // n ≤ O.length}) mixed [0, 1, 2, 6, 7, 8, 9, 10, 11, 12, 13, 14, 26, 35, 50, 77] (fun n => [(8, .rsl 448 1 0 l.length), (9, .rsl 576 1 0 l.length), (11, .p (eI n.1))]) (fun n => [(448, .row 1 ((effN l sg O n.1).map PV.bool)), (576, .row 1 ((lakN l sg O n.1).map eI))]) (fun _ => 0) (fun n => O.length - n.1) ⟨0, by omega⟩ ?_ ?_
    · (first | refine Ent.ofA [] ?_ | refine Ent.ofC [] ?_) <;> (repeat' (first | exact kQ1 | refine kHd ?_ | refine kHm rfl (by simp) rfl (fun h => AObj.noConfusion h) ?_ ?_ | refine And.intro ?_ ?_ | refine kVp ?_ | refine kVa ?_ | refine kVt ?_ | refine kVf ?_ ?_ | refine kVc ?_ ?_ | exact kQ2 | refine VLe.rsle rfl ?_ ?_ ?_ | refine kQw ?_ ?_ | refine kQm ?_ ?_ | refine kQj ?_ ?_ | refine kQc ?_ ?_ | refine kQs ?_ ?_ ?_)) <;> try exact kZ
      all_goals first
      | (show List.replicate (((l.map eA).length : Nat) : Int).toNat (PV.bool false) = (effN l sg O 0).map PV.bool; rw [effN_zero]; simp; done)
      | (show (List.replicate l.length (-1 : Int)).map eI = (lakN l sg O 0).map eI; rw [lakN_zero]; done)
      | (show (((l.map eA).length : Nat) : Int).toNat = l.length; simp; done)
      | trace_state
    rintro ⟨n, hn⟩
    have hn : n ≤ O.length := hn
    have hel := effN_len l sg O n
    have hll := lakN_len l sg O n
    cases ho : O[n]? with
    | none =>
      have hge : O.length ≤ n := List.getElem?_eq_none_iff.1 ho
      have hno2 : ¬ ((n : Int) < ((O.map eN).length : Int)) := by rw [List.length_map]; omega
      have hnO : n = O.length := by omega
      subst hnO
      repeat' (first | exact cl1 | exact kE | (refine stx ?_; refine exU8 ?_) | ((fail_if_success refine stp ?_); (conv => whnf) <;> (first | exact cl2 | refine kBn hno2 fun hc => ?_ | refine kX ?_ | refine kP ?_ | refine kBd (fun hc => ?_) (fun hc => ?_) | refine kT ?_ | refine kF ?_ | refine kN ?_ | refine kBm (fun hc => ?_) (fun hc => ?_) | refine kO ?_ | refine kS ?_ | refine kA ?_ | refine kC ?_ ?_ | refine And.intro ?_ ?_ | refine ix_map (fun x hx => ?_) | refine exU8 ?_ | refine nilc (fun hn => ?_) ?_ | exact kW1 | refine imp0 (fun hpos => ?_) | refine kG ?_ ?_ | exact kW2 | (first | refine stq ?_ | fail)))) <;> (try exact cl5)
      show LeG (PV.sl 1 false (List.take l.length (List.drop 0 ((lakN l sg O O.length).map eI)))) (eIs (lakN l sg O O.length))
      rw [List.drop_zero, List.take_of_length_le (by rw [List.length_map, hll]; exact Nat.le_refl _)]
      exact LeG.refl _
    | some j =>
      have hlt := (List.getElem?_eq_some_iff.1 ho).1
      have hyes2 : ((n : Int) < ((O.map eN).length : Int)) := by rw [List.length_map]; omega
      have hjl := hOm j (List.mem_of_getElem? ho)
      obtain ⟨d, hdj⟩ : ∃ d, l[j]? = some d := ⟨_, List.getElem?_eq_getElem hjl⟩
      have hdj2 : l[(j : Int).toNat]? = some d := by rw [Int.toNat_natCast]; exact hdj
      have hsj : sg[(j : Int).toNat]? = some (sgF sg j) := by rw [Int.toNat_natCast]; simp [sgF, List.getD, show j < sg.length by omega]
      have hlk := lk_of (sg := sg) hnd (fun x hx => (hd x hx).2.1) ho hdj
      have hls := lakN_succ (l := l) (sg := sg) ho
      have hes := effN_succ (l := l) (sg := sg) ho
      have hla := lakN_at (sg := sg) hnd ho hjl
      have hnb : thB l d.need = true := by have := hnm d (List.mem_of_getElem? hdj); unfold namB at this; rw [Bool.and_eq_true] at this; exact this.2
      have hE : ∀ k ∈ O.take n, (effN l sg O n).getD k false = decide ((playP l sg O).lk.getD k 0 < 0) := fun k hk => by
        unfold effN; rw [mapr_getD _ _ _ _ (hOm k (List.mem_of_mem_take hk)), decide_eq_true hk, Bool.true_and]
      have hbr := fun (i : Nat) (x : Dc) (hx : l[i]? = some x) => rst_bridge (sg := sg) hsr hnd hOm hrev hn hE hx (sgF sg j)
      have q77 := fun (i : Nat) (x : Dc) (hx : l[i]? = some x) => rstate_icalls l (O.take n) (effN l sg O n) i x (sgF sg j) hx hel (by omega) (by rw [List.length_take]; omega) (fun x hx => by have := (hd x hx).2.1; omega)
      rw [hel] at q77
      have eO : eNs (O.take n) = .sl 1 false (List.drop (Int.toNat 0) (List.take (n : Int).toNat (O.map eN))) := by
        rw [Int.toNat_natCast]
        show PV.sl 1 false ((O.take n).map eN) = PV.sl 1 false (List.drop 0 (List.take n (O.map eN)))
        rw [List.drop_zero, List.map_take]
      rw [eO] at q77
      rw [hlk] at hls hes
      have hnl := (hd d (List.mem_of_getElem? hdj)).2.2
      have hset0 : (lakN l sg O n).set j (-1) = lakN l sg O n := by
        refine List.ext_getElem? fun k => ?_
        rw [List.getElem?_set]
        by_cases e : j = k
        · subst e; rw [if_pos rfl, if_pos (by omega), hla]
        · rw [if_neg e]
      generalize hP : playP l sg (O.take n) = P at *
      generalize hEf : effN l sg O n = Ef at *
      generalize hLk : lakN l sg O n = Lk at *
      repeat' (first | exact cl1 | exact kE | (refine stx ?_; refine exU8 ?_) | ((fail_if_success refine stp ?_); (conv => whnf) <;> (first | exact cl2 | refine kBy hyes2 fun hc => ?_ | refine ix_at ho ?_ | refine ix_at hdj2 ?_ | refine kX ?_ | refine kP ?_ | refine kBd (fun hc => ?_) (fun hc => ?_) | refine kT ?_ | refine kF ?_ | refine kN ?_ | refine kBm (fun hc => ?_) (fun hc => ?_) | refine kO ?_ | refine kS ?_ | refine kA ?_ | refine kC ?_ ?_ | refine And.intro ?_ ?_ | refine ix_map (fun x hx => ?_) | refine exU8 ?_ | refine nilc (fun hn => ?_) ?_ | exact kW1 | refine imp0 (fun hpos => ?_) | refine kG ?_ ?_ | exact kW2 | (first | refine stq ?_ | fail)))) <;> (try exact cl5)
      refine Wpc.loopA (α := {m : Nat // m ≤ d.need.length}) mixed [0, 1, 2, 6, 7, 8, 9, 10, 11, 12, 13, 14, 26, 35, 50, 77] (fun m => [(9, .rsl 576 1 0 l.length), (13, .p (eI ((d.need.length : Int) - 1 - (m.1 : Int))))]) (fun m => [(576, .row 1 ((Lk.set j ((d.need.reverse.take m.1).foldl (lackS l P (sgF sg j)) (-1))).map eI))]) (fun _ => 0) (fun m => d.need.length - m.1) ⟨0, by omega⟩ ?_ ?_
      · (first | refine Ent.ofA [] ?_ | refine Ent.ofC [] ?_) <;> (repeat' (first | exact kQ1 | refine kHd ?_ | refine kHm rfl (by simp) rfl (fun h => AObj.noConfusion h) ?_ ?_ | refine And.intro ?_ ?_ | refine kVp ?_ | refine kVa ?_ | refine kVt ?_ | refine kVf ?_ ?_ | refine kVc ?_ ?_ | exact kQ2 | refine VLe.rsle rfl ?_ ?_ ?_ | refine kQw ?_ ?_ | refine kQm ?_ ?_ | refine kQj ?_ ?_ | refine kQc ?_ ?_ | refine kQs ?_ ?_ ?_)) <;> try exact kZ
        all_goals first
        | (show List.map eI Lk = List.map eI (Lk.set j (-1)); rw [hset0]; done)
        | trace_state
      rintro ⟨m, hm⟩
      have hm : m ≤ d.need.length := hm
      have haccl : (Lk.set j ((d.need.reverse.take m).foldl (lackS l P (sgF sg j)) (-1))).length = l.length := by rw [List.length_set]; exact hll
      by_cases hml : m < d.need.length
      · have hge0 : (0 : Int) ≤ (d.need.length : Int) - 1 - (m : Int) := by omega
        obtain ⟨no, hno3⟩ : ∃ no, d.need[d.need.length - 1 - m]? = some no := ⟨_, List.getElem?_eq_getElem (by omega)⟩
        have hno4 : d.need[((d.need.length : Int) - 1 - (m : Int)).toNat]? = some no := by rw [show ((d.need.length : Int) - 1 - (m : Int)).toNat = d.need.length - 1 - m by omega]; exact hno3
        have hnt := need_take (lackS l P (sgF sg j)) hml (-1) no hno3
        have hany := List.all_eq_true.1 hnb no (List.mem_of_getElem? hno3)
        obtain ⟨x, _, hx2, hx3⟩ := ixF_of hany
        have qf := find_calls l no (by omega)
        rw [fnd_ix hsr hany] at qf
        have q := q77 _ x hx2
        have hb := hbr _ x hx2
        have hR : (rstA l (O.take n) Ef (ixF l no) x (sgF sg j)).1 = (stA l P (ixF l no) (sgF sg j)).1 := by
          rw [hb]
          by_cases h4 : (stA l P (ixF l no) (sgF sg j)).1 = 4
          · rw [if_pos h4, h4]
          · rw [if_neg h4]
        generalize rstA l (O.take n) Ef (ixF l no) x (sgF sg j) = R at *
        obtain ⟨r1, r2⟩ := R
        have hR : r1 = (stA l P (ixF l no) (sgF sg j)).1 := hR
        generalize hacc : (d.need.reverse.take m).foldl (lackS l P (sgF sg j)) (-1) = acc at *
        have hstep : lackS l P (sgF sg j) acc no = if r1 ≠ 0 then no else acc := by unfold lackS; rw [hR]
        by_cases h0 : r1 = 0
        · have hn0 : ¬ r1 ≠ 0 := fun h => h h0
          rw [if_neg hn0] at hstep
          repeat' (first | exact cl1 | exact kE | (refine stx ?_; refine exU8 ?_) | ((with_reducible show callX _ _ _ _ _); (first | refine call_p (qf) (by kernel_rfl) rfl ?_ | refine call_r [448] (q) (by kernel_rfl) rfl rfl (by decide) cl6 (fun i hi => by match i, hi with | 0, _ => rfl) cl7 cl8 (by simp [keys]) (by repeat' (first | exact trivial | refine And.intro rfl ?_)) (by kernel_rfl) ?_)) | ((fail_if_success refine stp ?_); (conv => whnf) <;> (first | exact cl2 | refine kBn hn0 fun hc => ?_ | refine kBy hge0 fun hc => ?_ | refine ix_at hdj2 ?_ | refine ix_at hsj ?_ | refine ix_at hno4 ?_ | refine kX ?_ | refine kP ?_ | refine kBd (fun hc => ?_) (fun hc => ?_) | refine kT ?_ | refine kF ?_ | refine kN ?_ | refine kBm (fun hc => ?_) (fun hc => ?_) | refine kO ?_ | refine kS ?_ | refine kA ?_ | refine kC ?_ ?_ | refine And.intro ?_ ?_ | refine ix_map (fun x hx => ?_) | refine exU8 ?_ | refine nilc (fun hn => ?_) ?_ | exact kW1 | refine imp0 (fun hpos => ?_) | refine kG ?_ ?_ | exact kW2 | (first | refine stq ?_ | fail)))) <;> (try exact cl5)
          refine ⟨⟨m + 1, by omega⟩, by show d.need.length - (m + 1) < d.need.length - m; omega, ?_⟩
          show Ent _ _ (hdS [0, 1, 2, 6, 7, 8, 9, 10, 11, 12, 13, 14, 26, 35, 50, 77] _ _ _ [(9, .rsl 576 1 0 l.length), (13, .p (eI ((d.need.length : Int) - 1 - ((m + 1 : Nat) : Int))))] [(576, .row 1 ((Lk.set j ((d.need.reverse.take (m + 1)).foldl (lackS l P (sgF sg j)) (-1))).map eI))] _)
          rw [hnt, hstep]
          (first | refine Ent.ofA [] ?_ | refine Ent.ofC [] ?_) <;> (repeat' (first | exact kQ1 | refine kHd ?_ | refine kHm rfl (by simp) rfl (fun h => AObj.noConfusion h) ?_ ?_ | refine And.intro ?_ ?_ | refine kVp ?_ | refine kVa ?_ | refine kVt ?_ | refine kVf ?_ ?_ | refine kVc ?_ ?_ | exact kQ2 | refine VLe.rsle rfl ?_ ?_ ?_ | refine kQw ?_ ?_ | refine kQm ?_ ?_ | refine kQj ?_ ?_ | refine kQc ?_ ?_ | refine kQs ?_ ?_ ?_)) <;> try exact kZ
          all_goals first
          | (show ((Lk.set j acc).map eI).set (0 + (j : Int).toNat) (eI no) = (Lk.set j no).map eI; rw [Int.toNat_natCast, Nat.zero_add, ← List.map_set, List.set_set]; done)
          | trace_state
        · rw [if_pos h0] at hstep
          repeat' (first | exact cl1 | exact kE | (refine stx ?_; refine exU8 ?_) | ((with_reducible show callX _ _ _ _ _); (first | refine call_p (qf) (by kernel_rfl) rfl ?_ | refine call_r [448] (q) (by kernel_rfl) rfl rfl (by decide) cl6 (fun i hi => by match i, hi with | 0, _ => rfl) cl7 cl8 (by simp [keys]) (by repeat' (first | exact trivial | refine And.intro rfl ?_)) (by kernel_rfl) ?_)) | ((fail_if_success refine stp ?_); (conv => whnf) <;> (first | exact cl2 | refine kBy h0 fun hc => ?_ | refine kBy hge0 fun hc => ?_ | refine ix_at hdj2 ?_ | refine ix_at hsj ?_ | refine ix_at hno4 ?_ | refine kX ?_ | refine kP ?_ | refine kBd (fun hc => ?_) (fun hc => ?_) | refine kT ?_ | refine kF ?_ | refine kN ?_ | refine kBm (fun hc => ?_) (fun hc => ?_) | refine kO ?_ | refine kS ?_ | refine kA ?_ | refine kC ?_ ?_ | refine And.intro ?_ ?_ | refine ix_map (fun x hx => ?_) | refine exU8 ?_ | refine nilc (fun hn => ?_) ?_ | exact kW1 | refine imp0 (fun hpos => ?_) | refine kG ?_ ?_ | exact kW2 | (first | refine stq ?_ | fail)))) <;> (try exact cl5)
          refine ⟨⟨m + 1, by omega⟩, by show d.need.length - (m + 1) < d.need.length - m; omega, ?_⟩
          show Ent _ _ (hdS [0, 1, 2, 6, 7, 8, 9, 10, 11, 12, 13, 14, 26, 35, 50, 77] _ _ _ [(9, .rsl 576 1 0 l.length), (13, .p (eI ((d.need.length : Int) - 1 - ((m + 1 : Nat) : Int))))] [(576, .row 1 ((Lk.set j ((d.need.reverse.take (m + 1)).foldl (lackS l P (sgF sg j)) (-1))).map eI))] _)
          rw [hnt, hstep]
          (first | refine Ent.ofA [] ?_ | refine Ent.ofC [] ?_) <;> (repeat' (first | exact kQ1 | refine kHd ?_ | refine kHm rfl (by simp) rfl (fun h => AObj.noConfusion h) ?_ ?_ | refine And.intro ?_ ?_ | refine kVp ?_ | refine kVa ?_ | refine kVt ?_ | refine kVf ?_ ?_ | refine kVc ?_ ?_ | exact kQ2 | refine VLe.rsle rfl ?_ ?_ ?_ | refine kQw ?_ ?_ | refine kQm ?_ ?_ | refine kQj ?_ ?_ | refine kQc ?_ ?_ | refine kQs ?_ ?_ ?_)) <;> try exact kZ
          all_goals first
          | (show ((Lk.set j acc).map eI).set (0 + (j : Int).toNat) (eI no) = (Lk.set j no).map eI; rw [Int.toNat_natCast, Nat.zero_add, ← List.map_set, List.set_set]; done)
          | trace_state
      · have hlt0 : ¬ (0 : Int) ≤ (d.need.length : Int) - 1 - (m : Int) := by omega
        have hmn : m = d.need.length := by omega
        subst hmn
        have hacc : (d.need.reverse.take d.need.length).foldl (lackS l P (sgF sg j)) (-1) = needF l P (sgF sg j) d.need := by
          rw [List.take_of_length_le (by simp)]; rfl
        rw [hacc]
        generalize needF l P (sgF sg j) d.need = N at *
        have hN1 : (Lk.set j N)[0 + (j : Int).toNat]? = some N := by rw [Int.toNat_natCast, Nat.zero_add, List.getElem?_set]; simp [hll, hjl]
        repeat' (first | exact cl1 | exact kE | (refine stx ?_; refine exU8 ?_) | ((fail_if_success refine stp ?_); (conv => whnf) <;> (first | exact cl2 | refine kBn hlt0 fun hc => ?_ | refine ix_at hN1 ?_ | refine kX ?_ | refine kP ?_ | refine kBd (fun hc => ?_) (fun hc => ?_) | refine kT ?_ | refine kF ?_ | refine kN ?_ | refine kBm (fun hc => ?_) (fun hc => ?_) | refine kO ?_ | refine kS ?_ | refine kA ?_ | refine kC ?_ ?_ | refine And.intro ?_ ?_ | refine ix_map (fun x hx => ?_) | refine exU8 ?_ | refine nilc (fun hn => ?_) ?_ | exact kW1 | refine imp0 (fun hpos => ?_) | refine kG ?_ ?_ | exact kW2 | (first | refine stq ?_ | fail)))) <;> (try exact cl5)
        refine ⟨⟨n + 1, hlt⟩, by show O.length - (n + 1) < O.length - n; omega, ?_⟩
        show Ent _ _ (hdS [0, 1, 2, 6, 7, 8, 9, 10, 11, 12, 13, 14, 26, 35, 50, 77] _ _ _ [(8, .rsl 448 1 0 l.length), (9, .rsl 576 1 0 l.length), (11, .p (eI ((n + 1 : Nat) : Int)))] [(448, .row 1 ((effN l sg O (n + 1)).map PV.bool)), (576, .row 1 ((lakN l sg O (n + 1)).map eI))] _)
        rw [hes, hls]
        (first | refine Ent.ofA [] ?_ | refine Ent.ofC [] ?_) <;> (repeat' (first | exact kQ1 | refine kHd ?_ | refine kHm rfl (by simp) rfl (fun h => AObj.noConfusion h) ?_ ?_ | refine And.intro ?_ ?_ | refine kVp ?_ | refine kVa ?_ | refine kVt ?_ | refine kVf ?_ ?_ | refine kVc ?_ ?_ | exact kQ2 | refine VLe.rsle rfl ?_ ?_ ?_ | refine kQw ?_ ?_ | refine kQm ?_ ?_ | refine kQj ?_ ?_ | refine kQc ?_ ?_ | refine kQs ?_ ?_ ?_)) <;> try exact kZ
        all_goals first
        | (show (Ef.map PV.bool).set (0 + (j : Int).toNat) (.bool (decide (N < 0))) = (Ef.set j (decide (N < 0))).map PV.bool; rw [Int.toNat_natCast, Nat.zero_add, ← List.map_set]; done)
        | trace_state
end Go.Proofs.Ytgclicahmbgfiaa

namespace Go.Proofs.Ytgclicahmbgfiaa
open Go Go.Sg
/-- The reference's State. -/
theorem rState_calls (l : List Dc) (sg : List Int) (t : Int) (h20 : l.length ≤ 20) (hd : ∀ x ∈ l, okF x) (hz : chkA l = 0) (hsz : sg.length = l.length) {i : Nat} {d : Dc} (hdi : l[i]? = some d) :
    PCalls Try.prog 57 [eL l, eIs sg, eN i, eI t] (.tup [eI (stA l (finP l sg t) i t).1, eI (stA l (finP l sg t) i t).2]) := by
  obtain ⟨_, hrr, hsr, hnm⟩ := chkA_srt hz
  have q1 := rlacks_calls l sg t h20 hd hz hsz
  have q2 := rorder_calls sg t (by omega)
  have hil := (List.getElem?_eq_some_iff.1 hdi).1
  have hnd := ordL_nodup sg t
  have hOl := ordL_len sg t
  have hOm : ∀ i ∈ ordL sg t, i < l.length := fun i hi => by have := (ordL_mem.1 hi).1; omega
  have hrev : ∀ x ∈ l, x.rev.length ≤ 20 ∧ x.rev.Pairwise (· < ·) := fun x hx => ⟨(hd x hx).2.1, rev_srt (hrr x hx)⟩
  have hF : finP l sg t = playP l sg (ordL sg t) := rfl
  rw [hF]
  generalize ordL sg t = O at *
  have hll := lakN_len l sg O O.length
  have hE : ∀ k ∈ O.take O.length, (((lakN l sg O O.length).map fun v => decide (v < 0))).getD k false = decide ((playP l sg O).lk.getD k 0 < 0) := fun k hk => by
    unfold lakN
    rw [List.map_map, mapr_getD _ _ _ _ (hOm k (List.mem_of_mem_take hk))]
    show decide ((if k ∈ O.take O.length then _ else _) < 0) = _
    simp only [if_pos hk]
  have hb := rst_bridge (sg := sg) hsr hnd hOm hrev (Nat.le_refl O.length) hE hdi t
  have q3 := rstate_icalls l (O.take O.length) ((lakN l sg O O.length).map fun v => decide (v < 0)) i d t hdi (by rw [List.length_map]; exact hll) (by omega) (by rw [List.length_take]; omega) (fun x hx => by have := (hd x hx).2.1; omega)
  rw [List.take_length] at hb q3 hE
  have hlai : (lakN l sg O O.length)[i]? = some (if i ∈ O then (playP l sg O).lk.getD i 0 else -1) := by
    unfold lakN
    rw [List.getElem?_map, List.getElem?_range hil, List.take_length]; rfl
  have h4 : (stA l (playP l sg O) i t).1 = 4 → (stA l (playP l sg O) i t).2 = if i ∈ O then (playP l sg O).lk.getD i 0 else -1 := fun h => by
    have hdn := play_dn (l := l) (sg := sg) O hOm i
    unfold stA at h ⊢
    rw [hdi] at h ⊢
    simp only at h ⊢
    by_cases hm : i ∈ O
    · rw [decide_eq_true hm] at hdn
      rw [if_pos hm]
      rw [hdn] at h ⊢
      rw [if_neg (by decide)] at h ⊢
      by_cases h0 : 0 ≤ (playP l sg O).lk.getD i 0
      · rw [if_pos h0]
      · rw [if_neg h0] at h
        exfalso; revert h
        repeat' split
        all_goals simp
    · rw [decide_eq_false hm] at hdn
      rw [if_neg hm]
      rw [hdn, if_pos rfl]
  generalize hS : stA l (playP l sg O) i t = S at *
  generalize hR : rstA l O ((lakN l sg O O.length).map fun v => decide (v < 0)) i d t = R at *
  generalize lakN l sg O O.length = Lk at *
  obtain ⟨s, b⟩ := S
  obtain ⟨r, c⟩ := R
  have h4 : s = 4 → b = if i ∈ O then (playP l sg O).lk.getD i 0 else -1 := h4
  generalize (if i ∈ O then (playP l sg O).lk.getD i 0 else -1) = v at *
  have hb : (r, c) = if s = 4 then (4, -1) else (s, b) := hb
  have hlai2 : Lk[(i : Int).toNat]? = some v := by rw [Int.toNat_natCast]; exact hlai
  show PCalls Try.prog 57 [eL l, eIs sg, eN i, eI t] (.tup [eI s, eI b])
  rw [show (Lk.map fun v => decide (v < 0)).length = l.length by rw [List.length_map]; exact hll] at q3
  have q3 : ICalls Try.prog 77 1 [(0, .row 1 ((Lk.map fun v => decide (v < 0)).map PV.bool))] [.p (eL l), .p (eNs O), .rsl 0 1 0 l.length, .p (eN i), .p (eI t)] (.tup [.p (eI r), .p (eI c)]) [(0, .row 1 ((Lk.map fun v => decide (v < 0)).map PV.bool))] := q3
  refine PCalls.of (N := 53) (res := [.tmp 8, .tmp 9]) mixed Try.func57 rfl rfl rfl (by kernel_rfl) (by simp) [0, 1, 2, 3, 8, 9, 10, 11, 12, 13, 14, 23, 46] ?_
  repeat' (first | exact cl1 | exact kE | (refine stx ?_; refine exU8 ?_) | ((with_reducible show callX _ _ _ _ _); (first | refine call_p (q1) (by kernel_rfl) rfl ?_)) | ((fail_if_success refine stp ?_); (conv => whnf) <;> (first | exact cl2 | refine kX ?_ | refine kP ?_ | refine kBd (fun hc => ?_) (fun hc => ?_) | refine kT ?_ | refine kF ?_ | refine kN ?_ | refine kBm (fun hc => ?_) (fun hc => ?_) | refine kO ?_ | refine kS ?_ | refine kA ?_ | refine kC ?_ ?_ | refine And.intro ?_ ?_ | refine ix_map (fun x hx => ?_) | refine exU8 ?_ | refine nilc (fun hn => ?_) ?_ | exact kW1 | refine imp0 (fun hpos => ?_) | refine kG ?_ ?_ | exact kW2 | (first | refine stq ?_ | fail)))) <;> (try exact cl5)
  refine Wpc.loopA (α := {k : Nat // k ≤ l.length}) mixed [0, 1, 2, 3, 8, 9, 10, 11, 12, 13, 14, 23, 46] (fun k => [(11, .rsl 448 1 0 k.1), (12, .p (eI k.1))]) (fun k => [(448, .row 1 (((Lk.take k.1).map fun v => decide (v < 0)).map PV.bool))]) (fun _ => 0) (fun k => l.length - k.1) ⟨0, by omega⟩ ?_ ?_
  · (first | refine Ent.ofA [] ?_ | refine Ent.ofC [] ?_) <;> (repeat' (first | exact kQ1 | refine kHd ?_ | refine kHm rfl (by simp) rfl (fun h => AObj.noConfusion h) ?_ ?_ | refine And.intro ?_ ?_ | refine kVp ?_ | refine kVa ?_ | refine kVt ?_ | refine kVf ?_ ?_ | refine kVc ?_ ?_ | exact kQ2 | refine VLe.rsle rfl ?_ ?_ ?_ | refine kQw ?_ ?_ | refine kQm ?_ ?_ | refine kQj ?_ ?_ | refine kQc ?_ ?_ | refine kQs ?_ ?_ ?_)) <;> try exact kZ
  rintro ⟨k, hk⟩
  have hk : k ≤ l.length := hk
  by_cases hkl : k < l.length
  · have hyes : ((k : Int) < ((l.map eA).length : Int)) := by rw [List.length_map]; omega
    obtain ⟨w, hw⟩ : ∃ w, Lk[k]? = some w := ⟨_, List.getElem?_eq_getElem (by omega)⟩
    repeat' (first | exact cl1 | exact kE | (refine stx ?_; refine exU8 ?_) | ((fail_if_success refine stp ?_); (conv => whnf) <;> (first | exact cl2 | refine kBy hyes fun hc => ?_ | refine ix_at hw ?_ | refine kX ?_ | refine kP ?_ | refine kBd (fun hc => ?_) (fun hc => ?_) | refine kT ?_ | refine kF ?_ | refine kN ?_ | refine kBm (fun hc => ?_) (fun hc => ?_) | refine kO ?_ | refine kS ?_ | refine kA ?_ | refine kC ?_ ?_ | refine And.intro ?_ ?_ | refine ix_map (fun x hx => ?_) | refine exU8 ?_ | refine nilc (fun hn => ?_) ?_ | exact kW1 | refine imp0 (fun hpos => ?_) | refine kG ?_ ?_ | exact kW2 | (first | refine stq ?_ | fail)))) <;> (try exact cl5)
    refine ⟨⟨k + 1, hkl⟩, by show l.length - (k + 1) < l.length - k; omega, ?_⟩
    (first | refine Ent.ofA [] ?_ | refine Ent.ofC [] ?_) <;> (repeat' (first | exact kQ1 | refine kHd ?_ | refine kHm rfl (by simp) rfl (fun h => AObj.noConfusion h) ?_ ?_ | refine And.intro ?_ ?_ | refine kVp ?_ | refine kVa ?_ | refine kVt ?_ | refine kVf ?_ ?_ | refine kVc ?_ ?_ | exact kQ2 | refine VLe.rsle rfl ?_ ?_ ?_ | refine kQw ?_ ?_ | refine kQm ?_ ?_ | refine kQj ?_ ?_ | refine kQc ?_ ?_ | refine kQs ?_ ?_ ?_)) <;> try exact kZ
    all_goals first
    | (show ((Lk.take k).map fun v => decide (v < 0)).map PV.bool ++ [.bool (decide (w < 0))] = ((Lk.take (k + 1)).map fun v => decide (v < 0)).map PV.bool; rw [List.take_add_one, hw]; simp; done)
    | trace_state
  · have hno : ¬ ((k : Int) < ((l.map eA).length : Int)) := by rw [List.length_map]; omega
    have hkL : k = l.length := by omega
    have hrow : (Lk.take k).map (fun v => decide (v < 0)) = Lk.map fun v => decide (v < 0) := by rw [List.take_of_length_le (by omega)]
    rw [hrow]
    subst hkL
    by_cases hs4 : s = 4
    · have hv := h4 hs4
      subst hv
      rw [if_pos hs4] at hb
      injection hb with hb1 hb2
      subst hb1 hb2 hs4
      repeat' (first | exact cl1 | exact kE | (refine stx ?_; refine exU8 ?_) | ((with_reducible show callX _ _ _ _ _); (first | refine call_p (q2) (by kernel_rfl) rfl ?_ | refine call_r [448] (q3) (by kernel_rfl) rfl rfl (by decide) cl6 (fun i hi => by match i, hi with | 0, _ => rfl) cl7 cl8 (by simp [keys]) (by repeat' (first | exact trivial | refine And.intro rfl ?_)) (by kernel_rfl) ?_)) | ((fail_if_success refine stp ?_); (conv => whnf) <;> (first | exact cl2 | refine kBn hno fun hc => ?_ | refine ix_at hlai2 ?_ | refine kX ?_ | refine kP ?_ | refine kBd (fun hc => ?_) (fun hc => ?_) | refine kT ?_ | refine kF ?_ | refine kN ?_ | refine kBm (fun hc => ?_) (fun hc => ?_) | refine kO ?_ | refine kS ?_ | refine kA ?_ | refine kC ?_ ?_ | refine And.intro ?_ ?_ | refine ix_map (fun x hx => ?_) | refine exU8 ?_ | refine nilc (fun hn => ?_) ?_ | exact kW1 | refine imp0 (fun hpos => ?_) | refine kG ?_ ?_ | exact kW2 | (first | refine stq ?_ | fail)))) <;> (try exact cl5)
      all_goals trace_state
    · rw [if_neg hs4] at hb
      injection hb with hb1 hb2
      subst hb1 hb2
      repeat' (first | exact cl1 | exact kE | (refine stx ?_; refine exU8 ?_) | ((with_reducible show callX _ _ _ _ _); (first | refine call_p (q2) (by kernel_rfl) rfl ?_ | refine call_r [448] (q3) (by kernel_rfl) rfl rfl (by decide) cl6 (fun i hi => by match i, hi with | 0, _ => rfl) cl7 cl8 (by simp [keys]) (by repeat' (first | exact trivial | refine And.intro rfl ?_)) (by kernel_rfl) ?_)) | ((fail_if_success refine stp ?_); (conv => whnf) <;> (first | exact cl2 | refine kBn hno fun hc => ?_ | refine kBn hs4 fun hc => ?_ | refine kX ?_ | refine kP ?_ | refine kBd (fun hc => ?_) (fun hc => ?_) | refine kT ?_ | refine kF ?_ | refine kN ?_ | refine kBm (fun hc => ?_) (fun hc => ?_) | refine kO ?_ | refine kS ?_ | refine kA ?_ | refine kC ?_ ?_ | refine And.intro ?_ ?_ | refine ix_map (fun x hx => ?_) | refine exU8 ?_ | refine nilc (fun hn => ?_) ?_ | exact kW1 | refine imp0 (fun hpos => ?_) | refine kG ?_ ?_ | exact kW2 | (first | refine stq ?_ | fail)))) <;> (try exact cl5)
      all_goals trace_state
/-- The reference's InForce. -/
theorem rInForce_calls (l : List Dc) (sg : List Int) (t : Int) (h20 : l.length ≤ 20) (hd : ∀ x ∈ l, okF x) (hsl : sg.length < 140737488355328) : PCalls Try.prog 21 [eL l, eIs sg, eI t] (eI2 (inA l sg t)) := by
  have q1 := rcheck_calls l (by omega) (fun x hx => (hd x hx).e.d)
  have q2 := rsignings_calls l sg hsl
  have q3 := rtime_calls t
  unfold inA
  by_cases hz : chkA l = 0
  rotate_left
  · rw [if_neg hz]
    refine PCalls.of (N := 53) (res := [.tmp 6, .tmp 7]) mixed Try.func21 rfl rfl rfl (by kernel_rfl) (by simp) [0, 1, 2, 6, 7, 8, 9, 10, 11, 16, 26, 31, 43] ?_
    repeat' (first | exact cl1 | exact kE | (refine stx ?_; refine exU8 ?_) | ((with_reducible show callX _ _ _ _ _); (first | refine call_p (q1) (by kernel_rfl) rfl ?_)) | ((fail_if_success refine stp ?_); (conv => whnf) <;> (first | exact cl2 | refine kBy hz fun hc => ?_ | refine kX ?_ | refine kP ?_ | refine kBd (fun hc => ?_) (fun hc => ?_) | refine kT ?_ | refine kF ?_ | refine kN ?_ | refine kBm (fun hc => ?_) (fun hc => ?_) | refine kO ?_ | refine kS ?_ | refine kA ?_ | refine kC ?_ ?_ | refine And.intro ?_ ?_ | refine ix_map (fun x hx => ?_) | refine exU8 ?_ | refine nilc (fun hn => ?_) ?_ | exact kW1 | refine imp0 (fun hpos => ?_) | refine kG ?_ ?_ | exact kW2 | (first | refine stq ?_ | fail)))) <;> (try exact cl5)
    all_goals exact nilI _
  · rw [hz] at q1
    rw [if_pos hz]
    cases hs : sgB l sg with
    | false =>
      rw [hs] at q2
      refine PCalls.of (N := 53) (res := [.tmp 6, .tmp 7]) mixed Try.func21 rfl rfl rfl (by kernel_rfl) (by simp) [0, 1, 2, 6, 7, 8, 9, 10, 11, 16, 26, 31, 43] ?_
      repeat' (first | exact cl1 | exact kE | (refine stx ?_; refine exU8 ?_) | ((with_reducible show callX _ _ _ _ _); (first | refine call_p (q1) (by kernel_rfl) rfl ?_ | refine call_p (q2) (by kernel_rfl) rfl ?_ | refine call_p (q3) (by kernel_rfl) rfl ?_)) | ((fail_if_success refine stp ?_); (conv => whnf) <;> (first | exact cl2 | refine kX ?_ | refine kP ?_ | refine kBd (fun hc => ?_) (fun hc => ?_) | refine kT ?_ | refine kF ?_ | refine kN ?_ | refine kBm (fun hc => ?_) (fun hc => ?_) | refine kO ?_ | refine kS ?_ | refine kA ?_ | refine kC ?_ ?_ | refine And.intro ?_ ?_ | refine ix_map (fun x hx => ?_) | refine exU8 ?_ | refine nilc (fun hn => ?_) ?_ | exact kW1 | refine imp0 (fun hpos => ?_) | refine kG ?_ ?_ | exact kW2 | (first | refine stq ?_ | fail)))) <;> (try exact cl5)
      all_goals exact nilI _
    | true =>
      rw [hs] at q2
      cases ht : wiB TM t with
      | false =>
        rw [ht] at q3
        refine PCalls.of (N := 53) (res := [.tmp 6, .tmp 7]) mixed Try.func21 rfl rfl rfl (by kernel_rfl) (by simp) [0, 1, 2, 6, 7, 8, 9, 10, 11, 16, 26, 31, 43] ?_
        repeat' (first | exact cl1 | exact kE | (refine stx ?_; refine exU8 ?_) | ((with_reducible show callX _ _ _ _ _); (first | refine call_p (q1) (by kernel_rfl) rfl ?_ | refine call_p (q2) (by kernel_rfl) rfl ?_ | refine call_p (q3) (by kernel_rfl) rfl ?_)) | ((fail_if_success refine stp ?_); (conv => whnf) <;> (first | exact cl2 | refine kX ?_ | refine kP ?_ | refine kBd (fun hc => ?_) (fun hc => ?_) | refine kT ?_ | refine kF ?_ | refine kN ?_ | refine kBm (fun hc => ?_) (fun hc => ?_) | refine kO ?_ | refine kS ?_ | refine kA ?_ | refine kC ?_ ?_ | refine And.intro ?_ ?_ | refine ix_map (fun x hx => ?_) | refine exU8 ?_ | refine nilc (fun hn => ?_) ?_ | exact kW1 | refine imp0 (fun hpos => ?_) | refine kG ?_ ?_ | exact kW2 | (first | refine stq ?_ | fail)))) <;> (try exact cl5)
        all_goals exact nilI _
      | true =>
        rw [ht] at q3
        have hsz := sgB_len hs
        have q4 := fun (i : Nat) (d : Dc) (h : l[i]? = some d) => rState_calls l sg t h20 hd hz hsz h
        show PCalls Try.prog 21 [eL l, eIs sg, eI t] (eI2 (forL l (finP l sg t) t l.length, 0))
        generalize finP l sg t = P at *
        refine PCalls.of (N := 53) (res := [.tmp 6, .tmp 7]) mixed Try.func21 rfl rfl rfl (by kernel_rfl) (by simp) [0, 1, 2, 6, 7, 8, 9, 10, 11, 16, 26, 31, 43] ?_
        repeat' (first | exact cl1 | exact kE | (refine stx ?_; refine exU8 ?_) | ((with_reducible show callX _ _ _ _ _); (first | refine call_p (q1) (by kernel_rfl) rfl ?_ | refine call_p (q2) (by kernel_rfl) rfl ?_ | refine call_p (q3) (by kernel_rfl) rfl ?_)) | ((fail_if_success refine stp ?_); (conv => whnf) <;> (first | exact cl2 | refine kX ?_ | refine kP ?_ | refine kBd (fun hc => ?_) (fun hc => ?_) | refine kT ?_ | refine kF ?_ | refine kN ?_ | refine kBm (fun hc => ?_) (fun hc => ?_) | refine kO ?_ | refine kS ?_ | refine kA ?_ | refine kC ?_ ?_ | refine And.intro ?_ ?_ | refine ix_map (fun x hx => ?_) | refine exU8 ?_ | refine nilc (fun hn => ?_) ?_ | exact kW1 | refine imp0 (fun hpos => ?_) | refine kG ?_ ?_ | exact kW2 | (first | refine stq ?_ | fail)))) <;> (try exact cl5)
        refine Wpc.loopA (α := {i : Nat // i ≤ l.length}) mixed [0, 1, 2, 6, 7, 8, 9, 10, 11, 16, 26, 31, 43] (fun i => [(9, .rsl 1024 1 0 (forL l P t i.1).length), (10, .p (eI i.1))]) (fun i => [(1024, .row 1 ((forL l P t i.1).map eI))]) (fun _ => 0) (fun i => l.length - i.1) ⟨0, by omega⟩ ?_ ?_
        · (first | refine Ent.ofA [] ?_ | refine Ent.ofC [] ?_) <;> (repeat' (first | exact kQ1 | refine kHd ?_ | refine kHm rfl (by simp) rfl (fun h => AObj.noConfusion h) ?_ ?_ | refine And.intro ?_ ?_ | refine kVp ?_ | refine kVa ?_ | refine kVt ?_ | refine kVf ?_ ?_ | refine kVc ?_ ?_ | exact kQ2 | refine VLe.rsle rfl ?_ ?_ ?_ | refine kQw ?_ ?_ | refine kQm ?_ ?_ | refine kQj ?_ ?_ | refine kQc ?_ ?_ | refine kQs ?_ ?_ ?_)) <;> try exact kZ
          all_goals trace_state
        rintro ⟨i, hi⟩
        have hi : i ≤ l.length := hi
        have hfs := forL_succ l P t i
        have hfl := forL_len l P t i
        cases hx : l[i]? with
        | none =>
          have hge : l.length ≤ i := List.getElem?_eq_none_iff.1 hx
          have hno : ¬ ((i : Int) < ((l.map eA).length : Int)) := by rw [List.length_map]; omega
          have hil : i = l.length := by omega
          subst hil
          repeat' (first | exact cl1 | exact kE | (refine stx ?_; refine exU8 ?_) | ((fail_if_success refine stp ?_); (conv => whnf) <;> (first | exact cl2 | refine kBn hno fun hc => ?_ | refine kX ?_ | refine kP ?_ | refine kBd (fun hc => ?_) (fun hc => ?_) | refine kT ?_ | refine kF ?_ | refine kN ?_ | refine kBm (fun hc => ?_) (fun hc => ?_) | refine kO ?_ | refine kS ?_ | refine kA ?_ | refine kC ?_ ?_ | refine And.intro ?_ ?_ | refine ix_map (fun x hx => ?_) | refine exU8 ?_ | refine nilc (fun hn => ?_) ?_ | exact kW1 | refine imp0 (fun hpos => ?_) | refine kG ?_ ?_ | exact kW2 | (first | refine stq ?_ | fail)))) <;> (try exact cl5)
          show LeG (.tup [.sl 1 false (List.take (forL l P t l.length).length (List.drop 0 ((forL l P t l.length).map eI))), eI 0]) (.tup [eIs (forL l P t l.length), eI 0])
          rw [List.drop_zero, List.take_of_length_le (by simp)]
          exact LeG.refl _
        | some d =>
          have hlt := (List.getElem?_eq_some_iff.1 hx).1
          have hyes : ((i : Int) < ((l.map eA).length : Int)) := by rw [List.length_map]; omega
          have q := q4 i d hx
          have hf : forF l P t i = decide ((stA l P i t).1 = 0) := rfl
          rw [noF_of hx] at hfs
          generalize stA l P i t = S at *
          obtain ⟨s, b⟩ := S
          have q : PCalls Try.prog 57 [eL l, eIs sg, eN i, eI t] (.tup [eI s, eI b]) := q
          have hf : forF l P t i = decide (s = 0) := hf
          by_cases h0 : s = 0
          · rw [hf, decide_eq_true h0, if_pos rfl] at hfs
            repeat' (first | exact cl1 | exact kE | (refine stx ?_; refine exU8 ?_) | ((with_reducible show callX _ _ _ _ _); (first | refine call_p (q) (by kernel_rfl) rfl ?_)) | ((fail_if_success refine stp ?_); (conv => whnf) <;> (first | exact cl2 | refine kBy h0 fun hc => ?_ | refine kBy hyes fun hc => ?_ | refine ix_at hx ?_ | refine kX ?_ | refine kP ?_ | refine kBd (fun hc => ?_) (fun hc => ?_) | refine kT ?_ | refine kF ?_ | refine kN ?_ | refine kBm (fun hc => ?_) (fun hc => ?_) | refine kO ?_ | refine kS ?_ | refine kA ?_ | refine kC ?_ ?_ | refine And.intro ?_ ?_ | refine ix_map (fun x hx => ?_) | refine exU8 ?_ | refine nilc (fun hn => ?_) ?_ | exact kW1 | refine imp0 (fun hpos => ?_) | refine kG ?_ ?_ | exact kW2 | (first | refine stq ?_ | fail)))) <;> (try exact cl5)
            refine ⟨⟨i + 1, hlt⟩, by show l.length - (i + 1) < l.length - i; omega, ?_⟩
            show Ent _ _ (hdS [0, 1, 2, 6, 7, 8, 9, 10, 11, 16, 26, 31, 43] _ _ _ [(9, .rsl 1024 1 0 (forL l P t (i + 1)).length), (10, .p (eI ((i + 1 : Nat) : Int)))] [(1024, .row 1 ((forL l P t (i + 1)).map eI))] _)
            rw [hfs]
            (first | refine Ent.ofA [] ?_ | refine Ent.ofC [] ?_) <;> (repeat' (first | exact kQ1 | refine kHd ?_ | refine kHm rfl (by simp) rfl (fun h => AObj.noConfusion h) ?_ ?_ | refine And.intro ?_ ?_ | refine kVp ?_ | refine kVa ?_ | refine kVt ?_ | refine kVf ?_ ?_ | refine kVc ?_ ?_ | exact kQ2 | refine VLe.rsle rfl ?_ ?_ ?_ | refine kQw ?_ ?_ | refine kQm ?_ ?_ | refine kQj ?_ ?_ | refine kQc ?_ ?_ | refine kQs ?_ ?_ ?_)) <;> try exact kZ
          · rw [hf, decide_eq_false h0, if_neg Bool.false_ne_true, List.append_nil] at hfs
            repeat' (first | exact cl1 | exact kE | (refine stx ?_; refine exU8 ?_) | ((with_reducible show callX _ _ _ _ _); (first | refine call_p (q) (by kernel_rfl) rfl ?_)) | ((fail_if_success refine stp ?_); (conv => whnf) <;> (first | exact cl2 | refine kBn h0 fun hc => ?_ | refine kBy hyes fun hc => ?_ | refine ix_at hx ?_ | refine kX ?_ | refine kP ?_ | refine kBd (fun hc => ?_) (fun hc => ?_) | refine kT ?_ | refine kF ?_ | refine kN ?_ | refine kBm (fun hc => ?_) (fun hc => ?_) | refine kO ?_ | refine kS ?_ | refine kA ?_ | refine kC ?_ ?_ | refine And.intro ?_ ?_ | refine ix_map (fun x hx => ?_) | refine exU8 ?_ | refine nilc (fun hn => ?_) ?_ | exact kW1 | refine imp0 (fun hpos => ?_) | refine kG ?_ ?_ | exact kW2 | (first | refine stq ?_ | fail)))) <;> (try exact cl5)
            refine ⟨⟨i + 1, hlt⟩, by show l.length - (i + 1) < l.length - i; omega, ?_⟩
            show Ent _ _ (hdS [0, 1, 2, 6, 7, 8, 9, 10, 11, 16, 26, 31, 43] _ _ _ [(9, .rsl 1024 1 0 (forL l P t (i + 1)).length), (10, .p (eI ((i + 1 : Nat) : Int)))] [(1024, .row 1 ((forL l P t (i + 1)).map eI))] _)
            rw [hfs]
            (first | refine Ent.ofA [] ?_ | refine Ent.ofC [] ?_) <;> (repeat' (first | exact kQ1 | refine kHd ?_ | refine kHm rfl (by simp) rfl (fun h => AObj.noConfusion h) ?_ ?_ | refine And.intro ?_ ?_ | refine kVp ?_ | refine kVa ?_ | refine kVt ?_ | refine kVf ?_ ?_ | refine kVc ?_ ?_ | exact kQ2 | refine VLe.rsle rfl ?_ ?_ ?_ | refine kQw ?_ ?_ | refine kQm ?_ ?_ | refine kQj ?_ ?_ | refine kQc ?_ ?_ | refine kQs ?_ ?_ ?_)) <;> try exact kZ
/-- The reference's Why. -/
theorem rWhy_calls (l : List Dc) (sg : List Int) (no t : Int) (h20 : l.length ≤ 20) (hd : ∀ x ∈ l, okF x) (hsl : sg.length < 140737488355328) : PCalls Try.prog 23 [eL l, eIs sg, eI no, eI t] (eW3 (whyA l sg no t)) := by
  have q1 := rcheck_calls l (by omega) (fun x hx => (hd x hx).e.d)
  have q2 := rsignings_calls l sg hsl
  have q3 := rtime_calls t
  have q5 := find_calls l no (by omega)
  by_cases hz : chkA l = 0
  rotate_left
  · unfold whyA
    rw [if_neg hz]
    refine PCalls.of (N := 46) (res := [.tmp 8, .tmp 9, .tmp 10]) mixed Try.func23 rfl rfl rfl (by kernel_rfl) (by simp) [0, 1, 2, 3, 8, 9, 10, 11, 12, 13, 14, 18, 35] ?_
    repeat' (first | exact cl1 | exact kE | (refine stx ?_; refine exU8 ?_) | ((with_reducible show callX _ _ _ _ _); (first | refine call_p (q1) (by kernel_rfl) rfl ?_)) | ((fail_if_success refine stp ?_); (conv => whnf) <;> (first | exact cl2 | refine kBy hz fun hc => ?_ | refine kX ?_ | refine kP ?_ | refine kBd (fun hc => ?_) (fun hc => ?_) | refine kT ?_ | refine kF ?_ | refine kN ?_ | refine kBm (fun hc => ?_) (fun hc => ?_) | refine kO ?_ | refine kS ?_ | refine kA ?_ | refine kC ?_ ?_ | refine And.intro ?_ ?_ | refine ix_map (fun x hx => ?_) | refine exU8 ?_ | refine nilc (fun hn => ?_) ?_ | exact kW1 | refine imp0 (fun hpos => ?_) | refine kG ?_ ?_ | exact kW2 | (first | refine stq ?_ | fail)))) <;> (try exact cl5)
  · rw [hz] at q1
    obtain ⟨_, hrr, hsr, hnm⟩ := chkA_srt hz
    cases hs : sgB l sg with
    | false =>
      rw [hs] at q2
      have ew : whyA l sg no t = (0, 0, 1) := by unfold whyA; rw [if_pos hz, hs]; rfl
      rw [ew]
      refine PCalls.of (N := 46) (res := [.tmp 8, .tmp 9, .tmp 10]) mixed Try.func23 rfl rfl rfl (by kernel_rfl) (by simp) [0, 1, 2, 3, 8, 9, 10, 11, 12, 13, 14, 18, 35] ?_
      repeat' (first | exact cl1 | exact kE | (refine stx ?_; refine exU8 ?_) | ((with_reducible show callX _ _ _ _ _); (first | refine call_p (q1) (by kernel_rfl) rfl ?_ | refine call_p (q2) (by kernel_rfl) rfl ?_ | refine call_p (q3) (by kernel_rfl) rfl ?_ | refine call_p (q5) (by kernel_rfl) rfl ?_)) | ((fail_if_success refine stp ?_); (conv => whnf) <;> (first | exact cl2 | refine kX ?_ | refine kP ?_ | refine kBd (fun hc => ?_) (fun hc => ?_) | refine kT ?_ | refine kF ?_ | refine kN ?_ | refine kBm (fun hc => ?_) (fun hc => ?_) | refine kO ?_ | refine kS ?_ | refine kA ?_ | refine kC ?_ ?_ | refine And.intro ?_ ?_ | refine ix_map (fun x hx => ?_) | refine exU8 ?_ | refine nilc (fun hn => ?_) ?_ | exact kW1 | refine imp0 (fun hpos => ?_) | refine kG ?_ ?_ | exact kW2 | (first | refine stq ?_ | fail)))) <;> (try exact cl5)
    | true =>
      rw [hs] at q2
      cases ht : wiB TM t with
      | false =>
        rw [ht] at q3
        have ew : whyA l sg no t = (0, 0, 1) := by unfold whyA; rw [if_pos hz, hs, ht]; rfl
        rw [ew]
        refine PCalls.of (N := 46) (res := [.tmp 8, .tmp 9, .tmp 10]) mixed Try.func23 rfl rfl rfl (by kernel_rfl) (by simp) [0, 1, 2, 3, 8, 9, 10, 11, 12, 13, 14, 18, 35] ?_
        repeat' (first | exact cl1 | exact kE | (refine stx ?_; refine exU8 ?_) | ((with_reducible show callX _ _ _ _ _); (first | refine call_p (q1) (by kernel_rfl) rfl ?_ | refine call_p (q2) (by kernel_rfl) rfl ?_ | refine call_p (q3) (by kernel_rfl) rfl ?_ | refine call_p (q5) (by kernel_rfl) rfl ?_)) | ((fail_if_success refine stp ?_); (conv => whnf) <;> (first | exact cl2 | refine kX ?_ | refine kP ?_ | refine kBd (fun hc => ?_) (fun hc => ?_) | refine kT ?_ | refine kF ?_ | refine kN ?_ | refine kBm (fun hc => ?_) (fun hc => ?_) | refine kO ?_ | refine kS ?_ | refine kA ?_ | refine kC ?_ ?_ | refine And.intro ?_ ?_ | refine ix_map (fun x hx => ?_) | refine exU8 ?_ | refine nilc (fun hn => ?_) ?_ | exact kW1 | refine imp0 (fun hpos => ?_) | refine kG ?_ ?_ | exact kW2 | (first | refine stq ?_ | fail)))) <;> (try exact cl5)
      | true =>
        rw [ht] at q3
        have hsz := sgB_len hs
        cases ha : l.any fun x => decide (x.no = no) with
        | false =>
          have hf := (fnd_neg l no).2 ha
          have hg : aget no (atM l) = none := by
            have h := goneB_eq l no
            rw [ha] at h
            unfold goneB at h
            cases hg : aget no (atM l) with
            | none => rfl
            | some k => rw [hg] at h; cases h
          have ew : whyA l sg no t = (0, 0, 1) := by unfold whyA; rw [if_pos hz, hs, ht, hg]; rfl
          rw [ew]
          generalize fnd l no = f at *
          refine PCalls.of (N := 46) (res := [.tmp 8, .tmp 9, .tmp 10]) mixed Try.func23 rfl rfl rfl (by kernel_rfl) (by simp) [0, 1, 2, 3, 8, 9, 10, 11, 12, 13, 14, 18, 35] ?_
          repeat' (first | exact cl1 | exact kE | (refine stx ?_; refine exU8 ?_) | ((with_reducible show callX _ _ _ _ _); (first | refine call_p (q1) (by kernel_rfl) rfl ?_ | refine call_p (q2) (by kernel_rfl) rfl ?_ | refine call_p (q3) (by kernel_rfl) rfl ?_ | refine call_p (q5) (by kernel_rfl) rfl ?_)) | ((fail_if_success refine stp ?_); (conv => whnf) <;> (first | exact cl2 | refine kBy hf fun hc => ?_ | refine kX ?_ | refine kP ?_ | refine kBd (fun hc => ?_) (fun hc => ?_) | refine kT ?_ | refine kF ?_ | refine kN ?_ | refine kBm (fun hc => ?_) (fun hc => ?_) | refine kO ?_ | refine kS ?_ | refine kA ?_ | refine kC ?_ ?_ | refine And.intro ?_ ?_ | refine ix_map (fun x hx => ?_) | refine exU8 ?_ | refine nilc (fun hn => ?_) ?_ | exact kW1 | refine imp0 (fun hpos => ?_) | refine kG ?_ ?_ | exact kW2 | (first | refine stq ?_ | fail)))) <;> (try exact cl5)
        | true =>
          obtain ⟨d, h1, h2, h3⟩ := ixF_of ha
          have q4 := rState_calls l sg t h20 hd hz hsz h2
          rw [fnd_ix hsr ha] at q5
          have ew : whyA l sg no t = ((stA l (finP l sg t) (ixF l no) t).1, (stA l (finP l sg t) (ixF l no) t).2, 0) := by unfold whyA; rw [if_pos hz, hs, ht, h1]; rfl
          rw [ew]
          have hn : ¬ ((ixF l no : Nat) : Int) < 0 := by omega
          generalize stA l (finP l sg t) (ixF l no) t = S at *
          generalize ixF l no = i at *
          refine PCalls.of (N := 46) (res := [.tmp 8, .tmp 9, .tmp 10]) mixed Try.func23 rfl rfl rfl (by kernel_rfl) (by simp) [0, 1, 2, 3, 8, 9, 10, 11, 12, 13, 14, 18, 35] ?_
          repeat' (first | exact cl1 | exact kE | (refine stx ?_; refine exU8 ?_) | ((with_reducible show callX _ _ _ _ _); (first | refine call_p (q1) (by kernel_rfl) rfl ?_ | refine call_p (q2) (by kernel_rfl) rfl ?_ | refine call_p (q3) (by kernel_rfl) rfl ?_ | refine call_p (q5) (by kernel_rfl) rfl ?_ | refine call_p (q4) (by kernel_rfl) rfl ?_)) | ((fail_if_success refine stp ?_); (conv => whnf) <;> (first | exact cl2 | refine kBn hn fun hc => ?_ | refine kX ?_ | refine kP ?_ | refine kBd (fun hc => ?_) (fun hc => ?_) | refine kT ?_ | refine kF ?_ | refine kN ?_ | refine kBm (fun hc => ?_) (fun hc => ?_) | refine kO ?_ | refine kS ?_ | refine kA ?_ | refine kC ?_ ?_ | refine And.intro ?_ ?_ | refine ix_map (fun x hx => ?_) | refine exU8 ?_ | refine nilc (fun hn => ?_) ?_ | exact kW1 | refine imp0 (fun hpos => ?_) | refine kG ?_ ?_ | exact kW2 | (first | refine stq ?_ | fail)))) <;> (try exact cl5)
end Go.Proofs.Ytgclicahmbgfiaa

namespace Go.Proofs.Ytgclicahmbgfiaa
open Go Go.Sg
end Go.Proofs.Ytgclicahmbgfiaa

namespace Go.Proofs.Ytgclicahmbgfiaa
open Go Go.Sg
open Cd
end Go.Proofs.Ytgclicahmbgfiaa

namespace Go.Proofs.Ytgclicahmbgfiaa
open Go Go.Sg
open Cd
end Go.Proofs.Ytgclicahmbgfiaa

namespace Go.Proofs.Ytgclicahmbgfiaa
open Go Go.Sg
open Cd
theorem fewD_f2 {x : Dc} (h : fewD x = true) : okF x := by
  unfold fewD at h
  simp only [Bool.and_eq_true, decide_eq_true_eq] at h
  exact ⟨h.1.1, h.1.2, h.2⟩
theorem rcheck_lim (L : List PV) (h : (4096 : Int) < (L.length : Int)) : PCalls Try.prog 18 [.sl 41 false L] (eI 2) := by
  refine PCalls.of (N := 57) (res := [.tmp 2]) mixed Try.func18 rfl rfl rfl (by kernel_rfl) (by simp) [0, 2, 3, 6, 10, 56] ?_
  repeat' (first | exact cl1 | (refine stx ?_; first | exact exHM _ | refine exU8 ?_) | ((fail_if_success refine stp ?_); (conv => whnf) <;> (first | exact cl2 | refine kBy h fun hc => ?_ | refine kX ?_ | refine kP ?_ | refine kBd (fun hc => ?_) (fun hc => ?_) | refine kT ?_ | refine kF ?_ | refine kN ?_ | refine kBm (fun hc => ?_) (fun hc => ?_) | refine kO ?_ | refine kS ?_ | refine kA ?_ | exact PV.leL_nil | refine kC ?_ ?_ | refine And.intro ?_ ?_ | refine ix_map (fun x hx => ?_) | refine exU8 ?_ | refine nilc (fun hn => ?_) ?_ | exact cl3 | refine imp0 (fun hpos => ?_) | refine kG ?_ ?_ | exact rfl | exact trivial | (first | refine stq ?_ | fail)))) <;> (try exact cl5)
theorem few_f {l : List Dc} (h : fewA l = true) : (l.length ≤ 20 ∧ ∀ x ∈ l, okF x) ∨ (4096 : Int) < (l.length : Int) := by
  unfold fewA fewN at h
  rw [Bool.and_eq_true] at h
  obtain ⟨h1, h2⟩ := h
  by_cases hl : l.length ≤ 20
  · refine .inl ⟨hl, fun x hx => fewD_f2 (List.all_eq_true.1 h1 x ?_)⟩
    rw [List.take_of_length_le (by omega)]; exact hx
  · refine .inr ?_
    simp only [Bool.or_eq_true, Bool.and_eq_true, decide_eq_true_eq] at h2
    omega
/-- What both sides answer. -/
structure Two (l : List Dc) (x : Dc) (y : List Dc) (e g : Int) (b : List Int) (h : Int) : Prop where
  ca : PCalls Try.prog 17 [eL l] (eI g)
  cb : PCalls Try.prog 18 [eL l] (eI g)
  aa : PCalls Try.prog 13 [eL l, eA x] (eR (y, e))
  ab : PCalls Try.prog 14 [eL l, eA x] (eR (y, e))
  ta : PCalls Try.prog 15 [eA x] (.tup [eB b, eI h])
  tb : PCalls Try.prog 16 [eA x] (.tup [eB b, eI h])
  sm : PCalls Try.prog 19 [eL y, eL y] (.bool true)
end Go.Proofs.Ytgclicahmbgfiaa

namespace Go.Proofs.Ytgclicahmbgfiaa
open Go Go.Sg
theorem inForce_lim (l : List Dc) (sg : List Int) (t : Int) (h : (4096 : Int) < (l.length : Int)) : PCalls Try.prog 20 [eL l, eIs sg, eI t] (eI2 ([], 2)) := by
  have q1 : PCalls Try.prog 17 [eL l] (eI 2) := check_lim (l.map eA) (by rw [List.length_map]; exact h)
  refine PCalls.of (N := 55) (res := [.tmp 6, .tmp 7]) mixed Try.func20 rfl rfl rfl (by kernel_rfl) (by simp) [0, 1, 2, 6, 7, 8, 9, 10, 11, 12, 17, 27, 32, 33, 34, 35, 47] ?_
  repeat' (first | exact cl1 | exact kE | (refine stx ?_; refine exU8 ?_) | ((with_reducible show callX _ _ _ _ _); (first | refine call_p (q1) (by kernel_rfl) rfl ?_)) | ((fail_if_success refine stp ?_); (conv => whnf) <;> (first | exact cl2 | refine kX ?_ | refine kP ?_ | refine kBd (fun hc => ?_) (fun hc => ?_) | refine kT ?_ | refine kF ?_ | refine kN ?_ | refine kBm (fun hc => ?_) (fun hc => ?_) | refine kO ?_ | refine kS ?_ | refine kA ?_ | refine kC ?_ ?_ | refine And.intro ?_ ?_ | refine ix_map (fun x hx => ?_) | refine exU8 ?_ | refine nilc (fun hn => ?_) ?_ | exact kW1 | refine imp0 (fun hpos => ?_) | refine kG ?_ ?_ | exact kW2 | (first | refine stq ?_ | fail)))) <;> (try exact cl5)
  all_goals exact nilI _
theorem rInForce_lim (l : List Dc) (sg : List Int) (t : Int) (h : (4096 : Int) < (l.length : Int)) : PCalls Try.prog 21 [eL l, eIs sg, eI t] (eI2 ([], 2)) := by
  have q1 : PCalls Try.prog 18 [eL l] (eI 2) := rcheck_lim (l.map eA) (by rw [List.length_map]; exact h)
  refine PCalls.of (N := 53) (res := [.tmp 6, .tmp 7]) mixed Try.func21 rfl rfl rfl (by kernel_rfl) (by simp) [0, 1, 2, 6, 7, 8, 9, 10, 11, 16, 26, 31, 43] ?_
  repeat' (first | exact cl1 | exact kE | (refine stx ?_; refine exU8 ?_) | ((with_reducible show callX _ _ _ _ _); (first | refine call_p (q1) (by kernel_rfl) rfl ?_)) | ((fail_if_success refine stp ?_); (conv => whnf) <;> (first | exact cl2 | refine kX ?_ | refine kP ?_ | refine kBd (fun hc => ?_) (fun hc => ?_) | refine kT ?_ | refine kF ?_ | refine kN ?_ | refine kBm (fun hc => ?_) (fun hc => ?_) | refine kO ?_ | refine kS ?_ | refine kA ?_ | refine kC ?_ ?_ | refine And.intro ?_ ?_ | refine ix_map (fun x hx => ?_) | refine exU8 ?_ | refine nilc (fun hn => ?_) ?_ | exact kW1 | refine imp0 (fun hpos => ?_) | refine kG ?_ ?_ | exact kW2 | (first | refine stq ?_ | fail)))) <;> (try exact cl5)
  all_goals exact nilI _
theorem why_lim (l : List Dc) (sg : List Int) (no t : Int) (h : (4096 : Int) < (l.length : Int)) : PCalls Try.prog 22 [eL l, eIs sg, eI no, eI t] (eW3 (0, 0, 2)) := by
  have q1 : PCalls Try.prog 17 [eL l] (eI 2) := check_lim (l.map eA) (by rw [List.length_map]; exact h)
  refine PCalls.of (N := 54) (res := [.tmp 8, .tmp 9, .tmp 10]) mixed Try.func22 rfl rfl rfl (by kernel_rfl) (by simp) [0, 1, 2, 3, 8, 9, 10, 11, 12, 13, 14, 18, 28, 44] ?_
  repeat' (first | exact cl1 | exact kE | (refine stx ?_; refine exU8 ?_) | ((with_reducible show callX _ _ _ _ _); (first | refine call_p (q1) (by kernel_rfl) rfl ?_)) | ((fail_if_success refine stp ?_); (conv => whnf) <;> (first | exact cl2 | refine kX ?_ | refine kP ?_ | refine kBd (fun hc => ?_) (fun hc => ?_) | refine kT ?_ | refine kF ?_ | refine kN ?_ | refine kBm (fun hc => ?_) (fun hc => ?_) | refine kO ?_ | refine kS ?_ | refine kA ?_ | refine kC ?_ ?_ | refine And.intro ?_ ?_ | refine ix_map (fun x hx => ?_) | refine exU8 ?_ | refine nilc (fun hn => ?_) ?_ | exact kW1 | refine imp0 (fun hpos => ?_) | refine kG ?_ ?_ | exact kW2 | (first | refine stq ?_ | fail)))) <;> (try exact cl5)
theorem rWhy_lim (l : List Dc) (sg : List Int) (no t : Int) (h : (4096 : Int) < (l.length : Int)) : PCalls Try.prog 23 [eL l, eIs sg, eI no, eI t] (eW3 (0, 0, 2)) := by
  have q1 : PCalls Try.prog 18 [eL l] (eI 2) := rcheck_lim (l.map eA) (by rw [List.length_map]; exact h)
  refine PCalls.of (N := 46) (res := [.tmp 8, .tmp 9, .tmp 10]) mixed Try.func23 rfl rfl rfl (by kernel_rfl) (by simp) [0, 1, 2, 3, 8, 9, 10, 11, 12, 13, 14, 18, 35] ?_
  repeat' (first | exact cl1 | exact kE | (refine stx ?_; refine exU8 ?_) | ((with_reducible show callX _ _ _ _ _); (first | refine call_p (q1) (by kernel_rfl) rfl ?_)) | ((fail_if_success refine stp ?_); (conv => whnf) <;> (first | exact cl2 | refine kX ?_ | refine kP ?_ | refine kBd (fun hc => ?_) (fun hc => ?_) | refine kT ?_ | refine kF ?_ | refine kN ?_ | refine kBm (fun hc => ?_) (fun hc => ?_) | refine kO ?_ | refine kS ?_ | refine kA ?_ | refine kC ?_ ?_ | refine And.intro ?_ ?_ | refine ix_map (fun x hx => ?_) | refine exU8 ?_ | refine nilc (fun hn => ?_) ?_ | exact kW1 | refine imp0 (fun hpos => ?_) | refine kG ?_ ?_ | exact kW2 | (first | refine stq ?_ | fail)))) <;> (try exact cl5)
structure TwoW (l : List Dc) (sg : List Int) (no t : Int) (a : List Int) (e x i g : Int) : Prop where
  ia : PCalls Try.prog 20 [eL l, eIs sg, eI t] (.tup [eIs a, eI e])
  ib : PCalls Try.prog 21 [eL l, eIs sg, eI t] (.tup [eIs a, eI e])
  wa : PCalls Try.prog 22 [eL l, eIs sg, eI no, eI t] (.tup [eI x, eI i, eI g])
  wb : PCalls Try.prog 23 [eL l, eIs sg, eI no, eI t] (.tup [eI x, eI i, eI g])
  sm : PCalls Try.prog 24 [eIs a, eIs a] (.bool true)
theorem twoW_of (l : List Dc) (sg : List Int) (no t : Int) (hf : fewA l = true) (hsl : sg.length ≤ 5000) : ∃ a e x i g, TwoW l sg no t a e x i g := by
  rcases few_f hf with ⟨hl, hd⟩ | hl
  · have hal : (inA l sg t).1.length < 1000000 := by
      unfold inA
      split
      · split
        · have := forL_len l (finP l sg t) t l.length
          show (forL l (finP l sg t) t l.length).length < _
          omega
        · simp
      · simp
    have sm := sameI_calls (inA l sg t).1 (inA l sg t).1 hal
    rw [decide_eq_true rfl] at sm
    exact ⟨(inA l sg t).1, (inA l sg t).2, (whyA l sg no t).1, (whyA l sg no t).2.1, (whyA l sg no t).2.2, inForce_calls l sg t hl hd (by omega), rInForce_calls l sg t hl hd (by omega), why_calls l sg no t hl hd (by omega), rWhy_calls l sg no t hl hd (by omega), sm⟩
  · have sm := sameI_calls [] [] (by decide)
    rw [decide_eq_true rfl] at sm
    exact ⟨[], 2, 0, 0, 2, inForce_lim l sg t hl, rInForce_lim l sg t hl, why_lim l sg no t hl, rWhy_lim l sg no t hl, sm⟩
theorem whySpec_calls (l : List Dc) (sg : List Int) (no t : Int) (hl : l.length < 140737488355328) : PCalls Try.prog 4 [eL l, eIs sg, eI no, eI t] (.bool true) := by
  have q0 := sane_calls
  have q1 : PCalls Try.prog 11 [eL l] (.bool (fewA l)) := few_calls l hl
  cases hfl : fewA l with
  | false =>
    rw [hfl] at q1
    refine PCalls.of (N := 84) (res := [.tmp 8]) mixed Try.func4 rfl rfl rfl (by kernel_rfl) (by simp) [0, 1, 2, 3, 8, 9, 10, 11, 12, 13, 14, 15, 16, 17, 18, 20, 28] ?_
    repeat' (first | exact cl1 | exact kE | (refine stx ?_; refine exU8 ?_) | ((with_reducible show callX _ _ _ _ _); (first | refine call_p (q0) (by kernel_rfl) rfl ?_ | refine call_p (q1) (by kernel_rfl) rfl ?_)) | ((fail_if_success refine stp ?_); (conv => whnf) <;> (first | exact cl2 | refine kX ?_ | refine kP ?_ | refine kBd (fun hc => ?_) (fun hc => ?_) | refine kT ?_ | refine kF ?_ | refine kN ?_ | refine kBm (fun hc => ?_) (fun hc => ?_) | refine kO ?_ | refine kS ?_ | refine kA ?_ | refine kC ?_ ?_ | refine And.intro ?_ ?_ | refine ix_map (fun x hx => ?_) | refine exU8 ?_ | refine nilc (fun hn => ?_) ?_ | exact kW1 | refine imp0 (fun hpos => ?_) | refine kG ?_ ?_ | exact kW2 | (first | refine stq ?_ | fail)))) <;> (try exact cl5)
  | true =>
    rw [hfl] at q1
    by_cases h5 : (5000 : Int) < ((sg.map eI).length : Int)
    · refine PCalls.of (N := 84) (res := [.tmp 8]) mixed Try.func4 rfl rfl rfl (by kernel_rfl) (by simp) [0, 1, 2, 3, 8, 9, 10, 11, 12, 13, 14, 15, 16, 17, 18, 20, 28] ?_
      repeat' (first | exact cl1 | exact kE | (refine stx ?_; refine exU8 ?_) | ((with_reducible show callX _ _ _ _ _); (first | refine call_p (q0) (by kernel_rfl) rfl ?_ | refine call_p (q1) (by kernel_rfl) rfl ?_)) | ((fail_if_success refine stp ?_); (conv => whnf) <;> (first | exact cl2 | refine kBy h5 fun hc => ?_ | refine kX ?_ | refine kP ?_ | refine kBd (fun hc => ?_) (fun hc => ?_) | refine kT ?_ | refine kF ?_ | refine kN ?_ | refine kBm (fun hc => ?_) (fun hc => ?_) | refine kO ?_ | refine kS ?_ | refine kA ?_ | refine kC ?_ ?_ | refine And.intro ?_ ?_ | refine ix_map (fun x hx => ?_) | refine exU8 ?_ | refine nilc (fun hn => ?_) ?_ | exact kW1 | refine imp0 (fun hpos => ?_) | refine kG ?_ ?_ | exact kW2 | (first | refine stq ?_ | fail)))) <;> (try exact cl5)
    · obtain ⟨a, e, x, i, g, T⟩ := twoW_of l sg no t hfl (by rw [List.length_map] at h5; omega)
      have t1 := T.ia
      have t2 := T.ib
      have t3 := T.wa
      have t4 := T.wb
      have t5 := T.sm
      refine PCalls.of (N := 84) (res := [.tmp 8]) mixed Try.func4 rfl rfl rfl (by kernel_rfl) (by simp) [0, 1, 2, 3, 8, 9, 10, 11, 12, 13, 14, 15, 16, 17, 18, 20, 28] ?_
      repeat' (first | exact cl1 | exact kE | (refine stx ?_; refine exU8 ?_) | ((with_reducible show callX _ _ _ _ _); (first | refine call_p (q0) (by kernel_rfl) rfl ?_ | refine call_p (q1) (by kernel_rfl) rfl ?_ | refine call_p (t1) (by kernel_rfl) rfl ?_ | refine call_p (t2) (by kernel_rfl) rfl ?_ | refine call_p (t3) (by kernel_rfl) rfl ?_ | refine call_p (t4) (by kernel_rfl) rfl ?_ | refine call_p (t5) (by kernel_rfl) rfl ?_)) | ((fail_if_success refine stp ?_); (conv => whnf) <;> (first | exact cl2 | refine kBn h5 fun hc => ?_ | refine kX ?_ | refine kP ?_ | refine kBd (fun hc => ?_) (fun hc => ?_) | refine kT ?_ | refine kF ?_ | refine kN ?_ | refine kBm (fun hc => ?_) (fun hc => ?_) | refine kO ?_ | refine kS ?_ | refine kA ?_ | refine kC ?_ ?_ | refine And.intro ?_ ?_ | refine ix_map (fun x hx => ?_) | refine exU8 ?_ | refine nilc (fun hn => ?_) ?_ | exact kW1 | refine imp0 (fun hpos => ?_) | refine kG ?_ ?_ | exact kW2 | (first | refine stq ?_ | fail)))) <;> (try exact cl5)
      all_goals first
      | (refine LeG.bool ?_; exact decide_eq_true rfl)
      | (exfalso; rename_i hh; exact hh rfl)
      | trace_state
end Go.Proofs.Ytgclicahmbgfiaa

namespace Go.Proofs.Ytgclicahmbgfiaa
open Go Go.Sg
theorem rI : Rdc Try.prog 3 Int (fun n => [eI n]) (fun n => (Lit.int .i64 n).wf = true) := Rdc.int (by kernel_rfl) (by kernel_rfl)
def okIs (l : List Int) : Prop := l.length ≤ reachBytes ∧ ∀ b ∈ l, (Lit.int .i64 b).wf = true
theorem rIs : Rdc Try.prog 23 (List Int) (fun b => [eIs b]) okIs :=
  Rdc.slice (e := 3) (sz := 1) (by kernel_rfl) (by kernel_rfl) rI (by kernel_rfl) (by decide) (of_decide_eq_true (by kernel_rfl)) (fun _ _ => rfl)
theorem rU8 : Rdc Try.prog 5 Int (fun n => [.int .u8 n]) (fun n => (Lit.int .u8 n).wf = true) := Rdc.int (by kernel_rfl) (by kernel_rfl)
theorem wf_u8 {n : Int} (h : (Lit.int .u8 n).wf = true) : 0 ≤ n ∧ n ≤ 255 := by
  simp [Lit.wf, IntKind.min, IntKind.max, IntKind.signed, IntKind.bits] at h; omega
theorem rTx : Rdc Try.prog 25 (List Int) (fun l => l.flatMap fun n => [.int .u8 n]) (fun l => l.length = 32 ∧ ∀ x ∈ l, (Lit.int .u8 x).wf = true) :=
  Rdc.array (e := 5) (n := 32) (sz := 1) (by kernel_rfl) rU8 (by kernel_rfl) (by kernel_rfl) (by decide)
structure okDc (x : Dc) : Prop where
  par : okIs x.par
  rev : okIs x.rev
  need : okIs x.need
  tx : ∀ i, i < 32 → 0 ≤ x.tx i ∧ x.tx i ≤ 255
abbrev RT := Int × Int × Int × Int × Int × Int × List Int × List Int × List Int × List Int × Unit
def toD (x : RT) : Dc := ⟨x.1, x.2.1, x.2.2.1, x.2.2.2.1, x.2.2.2.2.1, x.2.2.2.2.2.1, x.2.2.2.2.2.2.1, x.2.2.2.2.2.2.2.1, x.2.2.2.2.2.2.2.2.1, fun i => x.2.2.2.2.2.2.2.2.2.1.getD i 0⟩
theorem tx32 (L : List Int) (h : L.length = 32) : (L.flatMap fun n => [PV.int .u8 n]) = [u8 (L.getD 0 0), u8 (L.getD 1 0), u8 (L.getD 2 0), u8 (L.getD 3 0), u8 (L.getD 4 0), u8 (L.getD 5 0), u8 (L.getD 6 0), u8 (L.getD 7 0), u8 (L.getD 8 0), u8 (L.getD 9 0), u8 (L.getD 10 0), u8 (L.getD 11 0), u8 (L.getD 12 0), u8 (L.getD 13 0), u8 (L.getD 14 0), u8 (L.getD 15 0), u8 (L.getD 16 0), u8 (L.getD 17 0), u8 (L.getD 18 0), u8 (L.getD 19 0), u8 (L.getD 20 0), u8 (L.getD 21 0), u8 (L.getD 22 0), u8 (L.getD 23 0), u8 (L.getD 24 0), u8 (L.getD 25 0), u8 (L.getD 26 0), u8 (L.getD 27 0), u8 (L.getD 28 0), u8 (L.getD 29 0), u8 (L.getD 30 0), u8 (L.getD 31 0)] := by
  match L, h with
  | [a0, a1, a2, a3, a4, a5, a6, a7, a8, a9, a10, a11, a12, a13, a14, a15, a16, a17, a18, a19, a20, a21, a22, a23, a24, a25, a26, a27, a28, a29, a30, a31], _ => rfl
theorem okA_one (x : Dc) : ∀ c ∈ (eA x).cells, c.one = true := fun c hc => by
  have h : (eA x).cells.all (fun c => c.one) = true := rfl
  exact List.all_eq_true.1 h c hc
theorem rDc : Rdc Try.prog 27 Dc (fun x => (eA x).cells) okDc := by
  have h := Rdc.struct (P := Try.prog) (t := 27) Try.underlying27 (Rdf.cons rI (Rdf.cons rI (Rdf.cons rI (Rdf.cons rI (Rdf.cons rI (Rdf.cons rI (Rdf.cons rIs (Rdf.cons rIs (Rdf.cons rIs (Rdf.cons rTx Rdf.nil (by kernel_rfl) rfl) (by kernel_rfl) rfl) (by kernel_rfl) rfl) (by kernel_rfl) rfl) (by kernel_rfl) rfl) (by kernel_rfl) rfl) (by kernel_rfl) rfl) (by kernel_rfl) rfl) (by kernel_rfl) rfl) (by kernel_rfl) rfl) (by kernel_rfl)
  exact {
    sz := fun x _ => by
      have e : Try.prog.cellsOf 27 = 41 := by kernel_rfl
      rw [e]; rfl
    one := fun x _ => okA_one x
    rd := by
      intro H enc w n cs y hr hw
      obtain ⟨x, h1, h2, h3⟩ := h.rd hr hw
      obtain ⟨b1, b2, b3, b4, b5, b6, b7, b8, b9, b10, _⟩ := x
      obtain ⟨_, _, _, _, _, _, c7, c8, c9, c10, _⟩ := h1
      refine ⟨toD (b1, b2, b3, b4, b5, b6, b7, b8, b9, b10, ()), ⟨c7, c8, c9, fun i hi => ?_⟩, h2, fun i p hp => h3 i p ?_⟩
      · have hl : i < b10.length := by have := c10.1; simp only at this; omega
        have e : (toD (b1, b2, b3, b4, b5, b6, b7, b8, b9, b10, ())).tx i = b10[i] := by
          show b10.getD i 0 = b10[i]
          simp [List.getD, hl]
        rw [e]
        exact wf_u8 (c10.2 _ (List.getElem_mem hl))
      · show ([eI b1] ++ ([eI b2] ++ ([eI b3] ++ ([eI b4] ++ ([eI b5] ++ ([eI b6] ++ ([eIs b7] ++ ([eIs b8] ++ ([eIs b9] ++ ((b10.flatMap fun n => [PV.int .u8 n]) ++ []))))))))))[i]? = some p
        rw [tx32 b10 c10.1]
        exact hp }
def okL (l : List Dc) : Prop := l.length ≤ reachBytes ∧ ∀ b ∈ l, okDc b
theorem rL : Rdc Try.prog 22 (List Dc) (fun b => [eL b]) okL :=
  Rdc.slice (e := 27) (sz := 41) (ep := eA) (by kernel_rfl) (by kernel_rfl) rDc (by kernel_rfl) (by decide) (of_decide_eq_true (by kernel_rfl)) (fun _ _ => rfl)
theorem aI : Rda Try.prog 3 Int eI (fun n => (Lit.int .i64 n).wf = true) := Rda.one rI (by kernel_rfl)
theorem aL : Rda Try.prog 22 (List Dc) eL okL := Rda.one rL (by kernel_rfl)
theorem aIs : Rda Try.prog 23 (List Int) eIs okIs := Rda.one rIs (by kernel_rfl)
theorem okL.len {l : List Dc} (h : okL l) : l.length < 140737488355328 := Nat.lt_of_le_of_lt h.1 reachBytes_lt
theorem okIs.len {l : List Int} (h : okIs l) : l.length < 140737488355328 := Nat.lt_of_le_of_lt h.1 reachBytes_lt
theorem okDc.d {x : Dc} (h : okDc x) : x.par.length < 140737488355328 ∧ x.rev.length < 140737488355328 ∧ x.need.length < 140737488355328 := ⟨h.par.len, h.rev.len, h.need.len⟩
theorem own : ownKnob Try.prog.godebug = none := by kernel_rfl
end Go.Proofs.Ytgclicahmbgfiaa
