/- A part of the proof: contracts of the functions that the statement reaches. -/
import Derived.Test.YthlpjjnfcpjgoaaChp0
import Derived.Test.YthlpjjnfcpjgoaaRows
set_option linter.unusedSimpArgs false
set_option linter.unusedVariables false
set_option linter.unnecessarySimpa false
namespace Go.Proofs.Ythlpjjnfcpjgoaa
open Go Go.Sg
set_option maxRecDepth 100000
set_option maxHeartbeats 20000000
def i1 : It := ⟨1, 5, 6, 3, 7, false, false⟩
def i2 : It := ⟨2, 5, 5, 7, 9, true, false⟩
def i4 : It := ⟨4, 8, 8, 3, 8, false, false⟩
def i6 : It := ⟨6, 9, 9, 8, 9, true, false⟩
def i9 : It := ⟨9, 20, 20, 3, 7, false, true⟩
def i3 : It := ⟨3, 0, 0, 70, 0, false, false⟩
def i0 : It := ⟨0, 0, 0, 2, 2, true, false⟩
def L5 : List It := [i1, i2, i4, i6, i9]
theorem c1 : PCalls Try.prog 16 [eL [i1, i2, i4, i6, i9], eI 3, eIs [9], eI 10, eI 10] (eC ([1, 2], true, 0)) := by have h := conflict_calls [i1, i2, i4, i6, i9] 3 [9] 10 10 (by decide) (by decide); rwa [show conA [i1, i2, i4, i6, i9] 3 [9] 10 10 = ([1, 2], true, 0) from by kernel_rfl] at h
theorem c2 : PCalls Try.prog 16 [eL [i1, i2, i4, i6, i9], eI 3, eIs [7, 9], eI 10, eI 10] (eC ([1], true, 0)) := by have h := conflict_calls [i1, i2, i4, i6, i9] 3 [7, 9] 10 10 (by decide) (by decide); rwa [show conA [i1, i2, i4, i6, i9] 3 [7, 9] 10 10 = ([1], true, 0) from by kernel_rfl] at h
theorem c3 : PCalls Try.prog 16 [eL [i1, i2, i4, i6, i9], eI 3, eIs [9], eI 10, eI 5] (eC ([], false, 0)) := by have h := conflict_calls [i1, i2, i4, i6, i9] 3 [9] 10 5 (by decide) (by decide); rwa [show conA [i1, i2, i4, i6, i9] 3 [9] 10 5 = ([], false, 0) from by kernel_rfl] at h
theorem c4 : PCalls Try.prog 16 [eL [i1, i2, i4, i6, i9], eI 3, eIs [9], eI 20, eI 20] (eC ([4, 6], true, 0)) := by have h := conflict_calls [i1, i2, i4, i6, i9] 3 [9] 20 20 (by decide) (by decide); rwa [show conA [i1, i2, i4, i6, i9] 3 [9] 20 20 = ([4, 6], true, 0) from by kernel_rfl] at h
theorem c5 : PCalls Try.prog 16 [eL [], eI 0, eIs [5], eI 0, eI 0] (eC ([], false, 0)) := by have h := conflict_calls [] 0 [5] 0 0 (by decide) (by decide); rwa [show conA [] 0 [5] 0 0 = ([], false, 0) from by kernel_rfl] at h
theorem c6 : PCalls Try.prog 16 [eL [], eI 64, eIs [], eI 0, eI 0] (eC ([], false, 1)) := by have h := conflict_calls [] 64 [] 0 0 (by decide) (by decide); rwa [show conA [] 64 [] 0 0 = ([], false, 1) from by kernel_rfl] at h
theorem p1 : PCalls Try.prog 18 [eL [i1, i2, i4, i6, i9], eI 3, eIs [9], eI 10, eI 10, eIs [4, 6]] (eP (true, 0)) := by have h := proves_calls [i1, i2, i4, i6, i9] 3 [9] 10 10 [4, 6] (by decide) (by decide); rwa [show provA [i1, i2, i4, i6, i9] 3 [9] 10 10 [4, 6] = (true, 0) from by kernel_rfl] at h
theorem p2 : PCalls Try.prog 18 [eL [i1, i2, i4, i6, i9], eI 3, eIs [9], eI 10, eI 10, eIs [1, 6]] (eP (false, 0)) := by have h := proves_calls [i1, i2, i4, i6, i9] 3 [9] 10 10 [1, 6] (by decide) (by decide); rwa [show provA [i1, i2, i4, i6, i9] 3 [9] 10 10 [1, 6] = (false, 0) from by kernel_rfl] at h
theorem p3 : PCalls Try.prog 18 [eL [], eI 0, eIs [5], eI 0, eI 0, eIs []] (eP (false, 0)) := by have h := proves_calls [] 0 [5] 0 0 [] (by decide) (by decide); rwa [show provA [] 0 [5] 0 0 [] = (false, 0) from by kernel_rfl] at h
theorem p4 : PCalls Try.prog 18 [eL [i1, i2, i4, i6, i9], eI 3, eIs [9, 9], eI 10, eI 10, eIs [1, 2]] (eP (false, 1)) := by have h := proves_calls [i1, i2, i4, i6, i9] 3 [9, 9] 10 10 [1, 2] (by decide) (by decide); rwa [show provA [i1, i2, i4, i6, i9] 3 [9, 9] 10 10 [1, 2] = (false, 1) from by kernel_rfl] at h
theorem a1 : PCalls Try.prog 11 [eL [i1], eA i2] (eR ([i1, i2], 0)) := by have h := add_calls [i1] i2 (by decide); rwa [show addA [i1] i2 = ([i1, i2], 0) from by kernel_rfl] at h
theorem a2 : PCalls Try.prog 11 [eL [i1, i2, i4, i6, i9], eA i1] (eR ([], 151)) := by have h := add_calls [i1, i2, i4, i6, i9] i1 (by decide); rwa [show addA [i1, i2, i4, i6, i9] i1 = ([], 151) from by kernel_rfl] at h
theorem a3 : PCalls Try.prog 11 [eL [i1, i2, i4, i6, i9], eA i3] (eR ([], 290)) := by have h := add_calls [i1, i2, i4, i6, i9] i3 (by decide); rwa [show addA [i1, i2, i4, i6, i9] i3 = ([], 290) from by kernel_rfl] at h
theorem k0 : PCalls Try.prog 13 [eL []] (eI 0) := by have h := check_calls [] (by decide); rwa [show chkA [] = 0 from by kernel_rfl] at h
theorem k1 : PCalls Try.prog 13 [eL [i1, i2, i4, i6, i9]] (eI 0) := by have h := check_calls [i1, i2, i4, i6, i9] (by decide); rwa [show chkA [i1, i2, i4, i6, i9] = 0 from by kernel_rfl] at h
theorem k2 : PCalls Try.prog 13 [eL [i0]] (eI 290) := by have h := check_calls [i0] (by decide); rwa [show chkA [i0] = 290 from by kernel_rfl] at h
theorem k3 : PCalls Try.prog 13 [.sl 7 false (List.replicate 4097 (eA zIt))] (eI 2) := by
  have h := check_calls (List.replicate 4097 zIt) (by rw [List.length_replicate]; decide)
  have hz : chkA (List.replicate 4097 zIt) = 2 := by unfold chkA chkL; rw [if_pos (by rw [List.length_replicate]; decide)]
  rw [hz] at h
  rwa [show eL (List.replicate 4097 zIt) = .sl 7 false (List.replicate 4097 (eA zIt)) from by unfold eL; rw [List.map_replicate]] at h
theorem k3' : PCalls Try.prog 13 [.sl 7 false (List.take (Int.toNat 4097) (List.drop 0 (List.replicate (Int.toNat 4097) (eA zIt))))] (eI 2) := by
  rw [List.drop_zero, List.take_of_length_le (by rw [List.length_replicate]; exact Nat.le_refl _)]; exact k3
theorem e1 : PCalls Try.prog 20 [eIs [1, 2], eIs [1, 2]] (.bool true) := by have h := sameI_calls [1, 2] [1, 2] (by decide); rwa [show decide (([1, 2] : List Int) = [1, 2]) = true from by kernel_rfl] at h
theorem e2 : PCalls Try.prog 20 [eIs [1], eIs [1]] (.bool true) := by have h := sameI_calls [1] [1] (by decide); rwa [show decide (([1] : List Int) = [1]) = true from by kernel_rfl] at h
theorem e3 : PCalls Try.prog 20 [eIs [4, 6], eIs [4, 6]] (.bool true) := by have h := sameI_calls [4, 6] [4, 6] (by decide); rwa [show decide (([4, 6] : List Int) = [4, 6]) = true from by kernel_rfl] at h
theorem f1 : PCalls Try.prog 15 [eL [i1, i2], eL [i1, i2]] (.bool true) := by have h := same_calls [i1, i2] [i1, i2] (by decide); rwa [show decide ([i1, i2] = [i1, i2]) = true from by kernel_rfl] at h
theorem sane_calls : PCalls Try.prog 9 [] (.bool true) := by
  refine PCalls.of (N := 246) (res := [.tmp 0]) mixed Try.func9 rfl rfl rfl (by kernel_rfl) (by simp) [0, 1, 2, 3, 4, 5, 6, 7, 9, 10, 11, 12, 13, 15, 16, 19, 20, 21, 22, 23, 24, 25, 27, 28, 29, 31, 33, 177, 221] ?_
  repeat' (first | exact cl1 | ((with_reducible show Exists _); first | exact exHM _ | refine exU8 ?_) | ((with_reducible show callX _ _ _ _ _); (first | (refine call_z (c1) (by kernel_rfl) rfl ?_; (repeat' (first | exact PV.leL_nil | refine PV.leL_cons ?_ ?_ | refine And.intro ?_ ?_ | exact Nat.zero_lt_succ _ | exact Nat.le_of_ble_eq_true rfl | exact PV.le_refl _ | exact PV.le_nil _ _ _ | exact PV.le_clip _ _ _ | refine PV.le_agg ?_ | refine PV.le_tup ?_ | rfl)); fail_if_success (any_goals (refine PV.le_of ?_))) | (refine call_z (c2) (by kernel_rfl) rfl ?_; (repeat' (first | exact PV.leL_nil | refine PV.leL_cons ?_ ?_ | refine And.intro ?_ ?_ | exact Nat.zero_lt_succ _ | exact Nat.le_of_ble_eq_true rfl | exact PV.le_refl _ | exact PV.le_nil _ _ _ | exact PV.le_clip _ _ _ | refine PV.le_agg ?_ | refine PV.le_tup ?_ | rfl)); fail_if_success (any_goals (refine PV.le_of ?_))) | (refine call_z (c3) (by kernel_rfl) rfl ?_; (repeat' (first | exact PV.leL_nil | refine PV.leL_cons ?_ ?_ | refine And.intro ?_ ?_ | exact Nat.zero_lt_succ _ | exact Nat.le_of_ble_eq_true rfl | exact PV.le_refl _ | exact PV.le_nil _ _ _ | exact PV.le_clip _ _ _ | refine PV.le_agg ?_ | refine PV.le_tup ?_ | rfl)); fail_if_success (any_goals (refine PV.le_of ?_))) | (refine call_z (c4) (by kernel_rfl) rfl ?_; (repeat' (first | exact PV.leL_nil | refine PV.leL_cons ?_ ?_ | refine And.intro ?_ ?_ | exact Nat.zero_lt_succ _ | exact Nat.le_of_ble_eq_true rfl | exact PV.le_refl _ | exact PV.le_nil _ _ _ | exact PV.le_clip _ _ _ | refine PV.le_agg ?_ | refine PV.le_tup ?_ | rfl)); fail_if_success (any_goals (refine PV.le_of ?_))) | (refine call_z (c5) (by kernel_rfl) rfl ?_; (repeat' (first | exact PV.leL_nil | refine PV.leL_cons ?_ ?_ | refine And.intro ?_ ?_ | exact Nat.zero_lt_succ _ | exact Nat.le_of_ble_eq_true rfl | exact PV.le_refl _ | exact PV.le_nil _ _ _ | exact PV.le_clip _ _ _ | refine PV.le_agg ?_ | refine PV.le_tup ?_ | rfl)); fail_if_success (any_goals (refine PV.le_of ?_))) | (refine call_z (c6) (by kernel_rfl) rfl ?_; (repeat' (first | exact PV.leL_nil | refine PV.leL_cons ?_ ?_ | refine And.intro ?_ ?_ | exact Nat.zero_lt_succ _ | exact Nat.le_of_ble_eq_true rfl | exact PV.le_refl _ | exact PV.le_nil _ _ _ | exact PV.le_clip _ _ _ | refine PV.le_agg ?_ | refine PV.le_tup ?_ | rfl)); fail_if_success (any_goals (refine PV.le_of ?_))) | (refine call_z (p1) (by kernel_rfl) rfl ?_; (repeat' (first | exact PV.leL_nil | refine PV.leL_cons ?_ ?_ | refine And.intro ?_ ?_ | exact Nat.zero_lt_succ _ | exact Nat.le_of_ble_eq_true rfl | exact PV.le_refl _ | exact PV.le_nil _ _ _ | exact PV.le_clip _ _ _ | refine PV.le_agg ?_ | refine PV.le_tup ?_ | rfl)); fail_if_success (any_goals (refine PV.le_of ?_))) | (refine call_z (p2) (by kernel_rfl) rfl ?_; (repeat' (first | exact PV.leL_nil | refine PV.leL_cons ?_ ?_ | refine And.intro ?_ ?_ | exact Nat.zero_lt_succ _ | exact Nat.le_of_ble_eq_true rfl | exact PV.le_refl _ | exact PV.le_nil _ _ _ | exact PV.le_clip _ _ _ | refine PV.le_agg ?_ | refine PV.le_tup ?_ | rfl)); fail_if_success (any_goals (refine PV.le_of ?_))) | (refine call_z (p3) (by kernel_rfl) rfl ?_; (repeat' (first | exact PV.leL_nil | refine PV.leL_cons ?_ ?_ | refine And.intro ?_ ?_ | exact Nat.zero_lt_succ _ | exact Nat.le_of_ble_eq_true rfl | exact PV.le_refl _ | exact PV.le_nil _ _ _ | exact PV.le_clip _ _ _ | refine PV.le_agg ?_ | refine PV.le_tup ?_ | rfl)); fail_if_success (any_goals (refine PV.le_of ?_))) | (refine call_z (p4) (by kernel_rfl) rfl ?_; (repeat' (first | exact PV.leL_nil | refine PV.leL_cons ?_ ?_ | refine And.intro ?_ ?_ | exact Nat.zero_lt_succ _ | exact Nat.le_of_ble_eq_true rfl | exact PV.le_refl _ | exact PV.le_nil _ _ _ | exact PV.le_clip _ _ _ | refine PV.le_agg ?_ | refine PV.le_tup ?_ | rfl)); fail_if_success (any_goals (refine PV.le_of ?_))) | (refine call_z (a1) (by kernel_rfl) rfl ?_; (repeat' (first | exact PV.leL_nil | refine PV.leL_cons ?_ ?_ | refine And.intro ?_ ?_ | exact Nat.zero_lt_succ _ | exact Nat.le_of_ble_eq_true rfl | exact PV.le_refl _ | exact PV.le_nil _ _ _ | exact PV.le_clip _ _ _ | refine PV.le_agg ?_ | refine PV.le_tup ?_ | rfl)); fail_if_success (any_goals (refine PV.le_of ?_))) | (refine call_z (a2) (by kernel_rfl) rfl ?_; (repeat' (first | exact PV.leL_nil | refine PV.leL_cons ?_ ?_ | refine And.intro ?_ ?_ | exact Nat.zero_lt_succ _ | exact Nat.le_of_ble_eq_true rfl | exact PV.le_refl _ | exact PV.le_nil _ _ _ | exact PV.le_clip _ _ _ | refine PV.le_agg ?_ | refine PV.le_tup ?_ | rfl)); fail_if_success (any_goals (refine PV.le_of ?_))) | (refine call_z (a3) (by kernel_rfl) rfl ?_; (repeat' (first | exact PV.leL_nil | refine PV.leL_cons ?_ ?_ | refine And.intro ?_ ?_ | exact Nat.zero_lt_succ _ | exact Nat.le_of_ble_eq_true rfl | exact PV.le_refl _ | exact PV.le_nil _ _ _ | exact PV.le_clip _ _ _ | refine PV.le_agg ?_ | refine PV.le_tup ?_ | rfl)); fail_if_success (any_goals (refine PV.le_of ?_))) | (refine call_z (k0) (by kernel_rfl) rfl ?_; (repeat' (first | exact PV.leL_nil | refine PV.leL_cons ?_ ?_ | refine And.intro ?_ ?_ | exact Nat.zero_lt_succ _ | exact Nat.le_of_ble_eq_true rfl | exact PV.le_refl _ | exact PV.le_nil _ _ _ | exact PV.le_clip _ _ _ | refine PV.le_agg ?_ | refine PV.le_tup ?_ | rfl)); fail_if_success (any_goals (refine PV.le_of ?_))) | (refine call_z (k1) (by kernel_rfl) rfl ?_; (repeat' (first | exact PV.leL_nil | refine PV.leL_cons ?_ ?_ | refine And.intro ?_ ?_ | exact Nat.zero_lt_succ _ | exact Nat.le_of_ble_eq_true rfl | exact PV.le_refl _ | exact PV.le_nil _ _ _ | exact PV.le_clip _ _ _ | refine PV.le_agg ?_ | refine PV.le_tup ?_ | rfl)); fail_if_success (any_goals (refine PV.le_of ?_))) | (refine call_z (k2) (by kernel_rfl) rfl ?_; (repeat' (first | exact PV.leL_nil | refine PV.leL_cons ?_ ?_ | refine And.intro ?_ ?_ | exact Nat.zero_lt_succ _ | exact Nat.le_of_ble_eq_true rfl | exact PV.le_refl _ | exact PV.le_nil _ _ _ | exact PV.le_clip _ _ _ | refine PV.le_agg ?_ | refine PV.le_tup ?_ | rfl)); fail_if_success (any_goals (refine PV.le_of ?_))) | (refine call_z (k3') (by kernel_rfl) rfl ?_; refine And.intro ⟨rfl, Nat.zero_lt_succ _, (by show _ ≤ (List.replicate _ _).length; rw [List.length_replicate]; exact Nat.le_of_eq (Nat.zero_add _))⟩ ?_; refine And.intro (PV.leL_cons (PV.le_refl _) PV.leL_nil) ?_) | (refine call_z (e1) (by kernel_rfl) rfl ?_; (repeat' (first | exact PV.leL_nil | refine PV.leL_cons ?_ ?_ | refine And.intro ?_ ?_ | exact Nat.zero_lt_succ _ | exact Nat.le_of_ble_eq_true rfl | exact PV.le_refl _ | exact PV.le_nil _ _ _ | exact PV.le_clip _ _ _ | refine PV.le_agg ?_ | refine PV.le_tup ?_ | rfl)); fail_if_success (any_goals (refine PV.le_of ?_))) | (refine call_z (e2) (by kernel_rfl) rfl ?_; (repeat' (first | exact PV.leL_nil | refine PV.leL_cons ?_ ?_ | refine And.intro ?_ ?_ | exact Nat.zero_lt_succ _ | exact Nat.le_of_ble_eq_true rfl | exact PV.le_refl _ | exact PV.le_nil _ _ _ | exact PV.le_clip _ _ _ | refine PV.le_agg ?_ | refine PV.le_tup ?_ | rfl)); fail_if_success (any_goals (refine PV.le_of ?_))) | (refine call_z (e3) (by kernel_rfl) rfl ?_; (repeat' (first | exact PV.leL_nil | refine PV.leL_cons ?_ ?_ | refine And.intro ?_ ?_ | exact Nat.zero_lt_succ _ | exact Nat.le_of_ble_eq_true rfl | exact PV.le_refl _ | exact PV.le_nil _ _ _ | exact PV.le_clip _ _ _ | refine PV.le_agg ?_ | refine PV.le_tup ?_ | rfl)); fail_if_success (any_goals (refine PV.le_of ?_))) | (refine call_z (f1) (by kernel_rfl) rfl ?_; (repeat' (first | exact PV.leL_nil | refine PV.leL_cons ?_ ?_ | refine And.intro ?_ ?_ | exact Nat.zero_lt_succ _ | exact Nat.le_of_ble_eq_true rfl | exact PV.le_refl _ | exact PV.le_nil _ _ _ | exact PV.le_clip _ _ _ | refine PV.le_agg ?_ | refine PV.le_tup ?_ | rfl)); fail_if_success (any_goals (refine PV.le_of ?_))) | exact of_decide_eq_true rfl)) | ((fail_if_success with_reducible first | show LeG _ _ | show Lp _ _ _ _ | show Exists _ | show callX _ _ _ _ _ | show (_ : Int) ≤ _ | show (_ : Int) < _ | show (_ : Nat) ≤ _ | show (_ : Nat) < _); (conv => whnf) <;> (first | exact cl2 | refine Br.tt ?_ | refine Br.ff ?_ | refine ix_lit rfl ?_ | refine Sq.fz (id := 2) [(1, false)] ?_ | refine XAlt.l ?_ | refine Sq.pr ?_ | refine Br.dec (fun hc => ?_) (fun hc => ?_) | refine Br.tt ?_ | refine Br.ff ?_ | refine Br.not ?_ | refine Br.mk (fun hc => ?_) (fun hc => ?_) | refine Opt.nn ?_ | refine Opt.ss ?_ | refine AltA.l ?_ | exact PV.leL_nil | refine PV.leL_cons ?_ ?_ | refine And.intro ?_ ?_ | refine ix_map (fun x hx => ?_) | refine exU8 ?_ | refine nilc (fun hn => ?_) ?_ | (refine call_z (k3') (by kernel_rfl) rfl ?_; refine And.intro ⟨rfl, Nat.zero_lt_succ _, (by show _ ≤ (List.replicate _ _).length; rw [List.length_replicate]; exact Nat.le_of_eq (Nat.zero_add _))⟩ ?_; refine And.intro (PV.leL_cons (PV.le_refl _) PV.leL_nil) ?_) | exact of_decide_eq_true rfl | exact cl3 | refine imp0 (fun hpos => ?_) | refine fits_i64 ?_ ?_ | exact rfl | exact trivial | (with_reducible first | show LeG _ _ | show Lp _ _ _ _ | show Exists _ | show callX _ _ _ _ _)))) <;> (try exact cl5)
  all_goals trace_state
end Go.Proofs.Ythlpjjnfcpjgoaa

namespace Go.Proofs.Ythlpjjnfcpjgoaa
open Go Go.Sg
set_option maxRecDepth 100000
set_option maxHeartbeats 4000000
theorem radd_calls (l : List It) (u : It) (hl : l.length < 1000000) : PCalls Try.prog 12 [eL l, eA u] (eR (addA l u)) := by
  have q1 := rcheck_calls l hl
  by_cases hz : chkA l = 0
  · rw [hz] at q1
    rw [addA_ok hz]
    cases hr : rightA u with
    | false =>
      have q2 := rright_calls u
      rw [hr] at q2
      refine PCalls.of (N := 61) (res := [.tmp 4, .tmp 5]) mixed Try.func12 rfl rfl rfl (by kernel_rfl) (by simp) [0, 1, 3, 4, 5, 6, 7, 11, 15, 29, 45, 48] ?_
      repeat' (first | exact cl1 | ((with_reducible show Exists _); first | exact exHM _ | refine exU8 ?_) | ((with_reducible show callX _ _ _ _ _); (first | refine call_p (q1) (by kernel_rfl) rfl ?_ | refine call_p (q2) (by kernel_rfl) rfl ?_)) | ((fail_if_success with_reducible first | show LeG _ _ | show Lp _ _ _ _ | show Exists _ | show callX _ _ _ _ _ | show (_ : Int) ≤ _ | show (_ : Int) < _ | show (_ : Nat) ≤ _ | show (_ : Nat) < _); (conv => whnf) <;> (first | exact cl2 | refine XAlt.l ?_ | refine Sq.pr ?_ | refine Br.dec (fun hc => ?_) (fun hc => ?_) | refine Br.tt ?_ | refine Br.ff ?_ | refine Br.not ?_ | refine Br.mk (fun hc => ?_) (fun hc => ?_) | refine Opt.nn ?_ | refine Opt.ss ?_ | refine AltA.l ?_ | exact PV.leL_nil | refine PV.leL_cons ?_ ?_ | refine And.intro ?_ ?_ | refine ix_map (fun x hx => ?_) | refine exU8 ?_ | refine nilc (fun hn => ?_) ?_ | exact cl3 | refine imp0 (fun hpos => ?_) | refine fits_i64 ?_ ?_ | exact rfl | exact trivial | (with_reducible first | show LeG _ _ | show Lp _ _ _ _ | show Exists _ | show callX _ _ _ _ _)))) <;> (try exact cl5)
      all_goals first
      | (exact LeG.mk (PV.le_tup (PV.leL_cons (PV.le_nil _ _ _) (PV.leL_refl _))))
      | (exfalso; simp at hc)
    | true =>
    have q2 := rright_calls u
    rw [hr] at q2
    rw [if_pos rfl]
    refine PCalls.of (N := 61) (res := [.tmp 4, .tmp 5]) mixed Try.func12 rfl rfl rfl (by kernel_rfl) (by simp) [0, 1, 3, 4, 5, 6, 7, 11, 15, 29, 45, 48] ?_
    repeat' (first | exact cl1 | ((with_reducible show Exists _); first | exact exHM _ | refine exU8 ?_) | ((with_reducible show callX _ _ _ _ _); (first | refine call_p (q1) (by kernel_rfl) rfl ?_ | refine call_p (q2) (by kernel_rfl) rfl ?_)) | ((fail_if_success with_reducible first | show LeG _ _ | show Lp _ _ _ _ | show Exists _ | show callX _ _ _ _ _ | show (_ : Int) ≤ _ | show (_ : Int) < _ | show (_ : Nat) ≤ _ | show (_ : Nat) < _); (conv => whnf) <;> (first | exact cl2 | refine XAlt.l ?_ | refine Sq.pr ?_ | refine Br.dec (fun hc => ?_) (fun hc => ?_) | refine Br.tt ?_ | refine Br.ff ?_ | refine Br.not ?_ | refine Br.mk (fun hc => ?_) (fun hc => ?_) | refine Opt.nn ?_ | refine Opt.ss ?_ | refine AltA.l ?_ | exact PV.leL_nil | refine PV.leL_cons ?_ ?_ | refine And.intro ?_ ?_ | refine ix_map (fun x hx => ?_) | refine exU8 ?_ | refine nilc (fun hn => ?_) ?_ | exact cl3 | refine imp0 (fun hpos => ?_) | refine fits_i64 ?_ ?_ | exact rfl | exact trivial | (with_reducible first | show LeG _ _ | show Lp _ _ _ _ | show Exists _ | show callX _ _ _ _ _)))) <;> (try exact cl5)
    refine Wpc.loopB (α := {i : Nat // i ≤ l.length ∧ ∀ j y, j < i → l[j]? = some y → It.no y < It.no u}) mixed [0, 1, 3, 4, 5, 6, 7, 11, 15, 29, 45, 48] (fun i => [(7, .p (eI i.1))]) (fun i => l.length - i.1) ⟨0, by omega, fun j y h => absurd h (by omega)⟩ ?_ ?_
    · (first | refine Ent.ofA [] ?_ | refine Ent.ofC [] ?_) <;> (repeat' (first | exact trivial | refine HpLe.dd ?_ | refine HpLe.mk rfl (by simp) rfl (fun h => AObj.noConfusion h) ?_ ?_ | refine And.intro ?_ ?_ | exact cl9 | refine VLe.pe ?_ | refine VLe.agg ?_ | refine VLe.tup ?_ | refine VLe.fn ?_ ?_ | refine VLeL.cons ?_ ?_ | exact VLeL.nil | exact OLe.row _ _ | rfl | refine VLe.rsle rfl ?_ ?_ ?_ | refine OLe.rowe2 ?_ ?_ | refine OLe.mape ?_ ?_ | refine OLe.iter0 ?_ | refine OLe.itere ?_ ?_ | refine OLe.chane ?_ ?_ | refine OLe.mapSe ?_ ?_ ?_ | exact OLe.mapS0 rfl)) <;> try (first | (simp; done) | (congr 1; omega) | (congr 1; (first | (simp; done) | (simp; omega))))
    rintro ⟨i, hi, hq⟩
    have hi : i ≤ l.length := hi
    have hq : ∀ j y, j < i → l[j]? = some y → It.no y < It.no u := hq
    have hpos : (∀ y, l[i]? = some y → It.no u ≤ It.no y) → posN It.no (It.no u) l = i := fun h => posN_eq It.no l _ i hi hq h
    have hfin : posN It.no (It.no u) l = i → List.take (0 + (List.drop (Int.toNat 0) (List.take ((i : Int)).toNat (l.map eA))).length + 1 + (List.drop ((i : Int)).toNat (List.take (((l.map eA).length : Int)).toNat (l.map eA))).length) (List.drop 0 ([] ++ List.drop (Int.toNat 0) (List.take ((i : Int)).toNat (l.map eA)) ++ List.take 1 (List.drop 0 [eA u]) ++ List.drop ((i : Int)).toNat (List.take (((l.map eA).length : Int)).toNat (l.map eA)))) = (insN It.no l u).map eA := fun h => by
      unfold insN
      rw [h]
      simp only [Int.toNat_natCast, Int.reduceToNat, List.drop_zero, List.nil_append, List.take_length, List.take_succ_cons, List.take_zero, List.map_append, List.map_cons, List.map_take, List.map_drop, Nat.zero_add]
      rw [List.take_of_length_le (by simp <;> omega)]
      simp
    repeat' (first | exact cl1 | ((with_reducible show Exists _); first | exact exHM _ | refine exU8 ?_) | ((fail_if_success with_reducible first | show LeG _ _ | show Lp _ _ _ _ | show Exists _ | show callX _ _ _ _ _ | show (_ : Int) ≤ _ | show (_ : Int) < _ | show (_ : Nat) ≤ _ | show (_ : Nat) < _); (conv => whnf) <;> (first | exact cl2 | refine XAlt.l ?_ | refine Sq.pr ?_ | refine Br.dec (fun hc => ?_) (fun hc => ?_) | refine Br.tt ?_ | refine Br.ff ?_ | refine Br.not ?_ | refine Br.mk (fun hc => ?_) (fun hc => ?_) | refine Opt.nn ?_ | refine Opt.ss ?_ | refine AltA.l ?_ | exact PV.leL_nil | refine PV.leL_cons ?_ ?_ | refine And.intro ?_ ?_ | refine ix_map (fun x hx => ?_) | refine exU8 ?_ | refine nilc (fun hn => ?_) ?_ | exact cl3 | refine imp0 (fun hpos => ?_) | refine fits_i64 ?_ ?_ | exact rfl | exact trivial | (with_reducible first | show LeG _ _ | show Lp _ _ _ _ | show Exists _ | show callX _ _ _ _ _)))) <;> (try exact cl5)
    · have hx : l[i]? = some x := hx
      have hcc : It.no x < It.no u := hc
      have hlt := (List.getElem?_eq_some_iff.1 hx).1
      refine ⟨⟨i + 1, hlt, fun j y hj hy => ?_⟩, by show l.length - (i + 1) < l.length - i; omega, ?_⟩
      · rcases Nat.lt_succ_iff_lt_or_eq.1 hj with h1 | h1
        · exact hq j y h1 hy
        · subst h1; rw [hx] at hy; injection hy with hy; rw [← hy]; exact hcc
      · (first | refine Ent.ofA [] ?_ | refine Ent.ofC [] ?_) <;> (repeat' (first | exact trivial | refine HpLe.dd ?_ | refine HpLe.mk rfl (by simp) rfl (fun h => AObj.noConfusion h) ?_ ?_ | refine And.intro ?_ ?_ | exact cl9 | refine VLe.pe ?_ | refine VLe.agg ?_ | refine VLe.tup ?_ | refine VLe.fn ?_ ?_ | refine VLeL.cons ?_ ?_ | exact VLeL.nil | exact OLe.row _ _ | rfl | refine VLe.rsle rfl ?_ ?_ ?_ | refine OLe.rowe2 ?_ ?_ | refine OLe.mape ?_ ?_ | refine OLe.iter0 ?_ | refine OLe.itere ?_ ?_ | refine OLe.chane ?_ ?_ | refine OLe.mapSe ?_ ?_ ?_ | exact OLe.mapS0 rfl)) <;> try (first | (simp; done) | (congr 1; omega) | (congr 1; (first | (simp; done) | (simp; omega))))
    · rename_i c1 y hy c2 c3
      have hx : l[i]? = some x := hx
      have hy : l[i]? = some y := hy
      rw [hx] at hy; injection hy with hy; subst hy
      have hp := hpos fun z hz => by rw [hx] at hz; injection hz with hz; subst hz; omega
      rw [if_pos (by unfold hasN; rw [hp, hx]; simpa using hc)]
      exact LeG.mk (PV.le_tup (PV.leL_cons (PV.le_nil _ _ _) (PV.leL_refl _)))
    · rename_i c1 y hy c2 c3 c4
      have hx : l[i]? = some x := hx
      have hy : l[i]? = some y := hy
      rw [hx] at hy; injection hy with hy; subst hy
      have hp := hpos fun z hz => by rw [hx] at hz; injection hz with hz; subst hz; omega
      rw [if_neg (by unfold hasN; rw [hp, hx]; simpa using c4), if_pos (by simpa using hc)]
      exact LeG.mk (PV.le_tup (PV.leL_cons (PV.le_nil _ _ _) (PV.leL_refl _)))
    · rename_i c1 y hy c2 c3 c4
      have hx : l[i]? = some x := hx
      have hy : l[i]? = some y := hy
      rw [hx] at hy; injection hy with hy; subst hy
      have hp := hpos fun z hz => by rw [hx] at hz; injection hz with hz; subst hz; omega
      rw [if_neg (by unfold hasN; rw [hp, hx]; simpa using c4), if_neg (by simpa using hc)]
      exact LeG.of (congrArg (fun q => PV.tup [PV.sl _ false q, eI 0]) (hfin hp))
    · rename_i c1
      have c1 : ¬ (i : Int) < ((l.map eA).length : Int) := by assumption
      rw [List.length_map] at c1
      have hp := hpos fun z hz => by have := (List.getElem?_eq_some_iff.1 hz).1; omega
      rw [if_neg (by unfold hasN; rw [hp, List.getElem?_eq_none (by omega)]; simp), if_pos (by simpa using hc)]
      exact LeG.mk (PV.le_tup (PV.leL_cons (PV.le_nil _ _ _) (PV.leL_refl _)))
    · rename_i c1
      have c1 : ¬ (i : Int) < ((l.map eA).length : Int) := by assumption
      rw [List.length_map] at c1
      have hp := hpos fun z hz => by have := (List.getElem?_eq_some_iff.1 hz).1; omega
      rw [if_neg (by unfold hasN; rw [hp, List.getElem?_eq_none (by omega)]; simp), if_neg (by simpa using hc)]
      exact LeG.of (congrArg (fun q => PV.tup [PV.sl _ false q, eI 0]) (hfin hp))
  · rw [addA_no hz]
    refine PCalls.of (N := 61) (res := [.tmp 4, .tmp 5]) mixed Try.func12 rfl rfl rfl (by kernel_rfl) (by simp) [0, 1, 3, 4, 5, 6, 7, 11, 15, 29, 45, 48] ?_
    repeat' (first | exact cl1 | ((with_reducible show Exists _); first | exact exHM _ | refine exU8 ?_) | ((with_reducible show callX _ _ _ _ _); (first | refine call_p (q1) (by kernel_rfl) rfl ?_)) | ((fail_if_success with_reducible first | show LeG _ _ | show Lp _ _ _ _ | show Exists _ | show callX _ _ _ _ _ | show (_ : Int) ≤ _ | show (_ : Int) < _ | show (_ : Nat) ≤ _ | show (_ : Nat) < _); (conv => whnf) <;> (first | exact cl2 | refine XAlt.l ?_ | refine Sq.pr ?_ | refine Br.dec (fun hc => ?_) (fun hc => ?_) | refine Br.tt ?_ | refine Br.ff ?_ | refine Br.not ?_ | refine Br.mk (fun hc => ?_) (fun hc => ?_) | refine Opt.nn ?_ | refine Opt.ss ?_ | refine AltA.l ?_ | exact PV.leL_nil | refine PV.leL_cons ?_ ?_ | refine And.intro ?_ ?_ | refine ix_map (fun x hx => ?_) | refine exU8 ?_ | refine nilc (fun hn => ?_) ?_ | exact cl3 | refine imp0 (fun hpos => ?_) | refine fits_i64 ?_ ?_ | exact rfl | exact trivial | (with_reducible first | show LeG _ _ | show Lp _ _ _ _ | show Exists _ | show callX _ _ _ _ _)))) <;> (try exact cl5)
    · ((all_goals (try simp only [*, ↓reduceIte, Bool.false_eq_true, Bool.not_true, Bool.not_false, Bool.and_true, Bool.true_and, Bool.and_false, Bool.false_and, List.nil_append, List.drop_zero, Nat.zero_add, List.take_length, Int.toNat_natCast, Int.toNat_zero, List.append_nil]))); ((all_goals (try refine LeG.mk ?_)); (repeat' (first | exact PV.le_refl _ | exact PV.le_nil _ _ _ | exact PV.le_clip _ _ _ | exact PV.le_nilF _ _ _ | refine PV.le_agg ?_ | refine PV.le_tup ?_ | exact PV.leL_nil | refine PV.leL_cons ?_ ?_ | refine PV.le_of ?_ | rfl)))
end Go.Proofs.Ythlpjjnfcpjgoaa

namespace Go.Proofs.Ythlpjjnfcpjgoaa
open Go Go.Sg
set_option maxRecDepth 100000
set_option maxHeartbeats 20000000
def fewL (l : List It) : Bool := decide (l.length ≤ 40) || decide (4096 < l.length) && decide (l.length ≤ 4200)
theorem fewL_len {l : List It} (h : fewL l = true) : l.length < 1000000 := by simp [fewL] at h; omega
theorem few2_calls (l : List It) : PCalls Try.prog 10 [eL l] (.bool (fewL l)) := few_calls l
theorem spec_calls (l : List It) (x : It) : PCalls Try.prog 3 [eL l, eA x] (.bool true) := by
  have q0 := few2_calls l
  cases hf : fewL l with
  | false =>
    rw [hf] at q0
    refine PCalls.of (N := 41) (res := [.tmp 4]) mixed Try.func3 rfl rfl rfl (by kernel_rfl) (by simp) [0, 1, 3, 4, 5, 6, 7, 8, 10, 13] ?_
    repeat' (first | exact cl1 | ((with_reducible show Exists _); first | exact exHM _ | refine exU8 ?_) | ((with_reducible show callX _ _ _ _ _); (first | refine call_p (sane_calls) (by kernel_rfl) rfl ?_ | refine call_p (q0) (by kernel_rfl) rfl ?_)) | ((fail_if_success with_reducible first | show LeG _ _ | show Lp _ _ _ _ | show Exists _ | show callX _ _ _ _ _ | show (_ : Int) ≤ _ | show (_ : Int) < _ | show (_ : Nat) ≤ _ | show (_ : Nat) < _); (conv => whnf) <;> (first | exact cl2 | refine XAlt.l ?_ | refine Sq.pr ?_ | refine Br.dec (fun hc => ?_) (fun hc => ?_) | refine Br.tt ?_ | refine Br.ff ?_ | refine Br.not ?_ | refine Br.mk (fun hc => ?_) (fun hc => ?_) | refine Opt.nn ?_ | refine Opt.ss ?_ | refine AltA.l ?_ | exact PV.leL_nil | refine PV.leL_cons ?_ ?_ | refine And.intro ?_ ?_ | refine ix_map (fun x hx => ?_) | refine exU8 ?_ | refine nilc (fun hn => ?_) ?_ | exact cl3 | refine imp0 (fun hpos => ?_) | refine fits_i64 ?_ ?_ | exact rfl | exact trivial | (with_reducible first | show LeG _ _ | show Lp _ _ _ _ | show Exists _ | show callX _ _ _ _ _)))) <;> (try exact cl5)
  | true =>
    rw [hf] at q0
    have hl := fewL_len hf
    have h2 : (addA l x).1.length < 1000000 := by
      unfold addA addL
      split; split; split; simp; split; simp; rw [length_insN]; simp [fewL] at hf; omega; simp; simp
    have q5 := same_calls (addA l x).1 (addA l x).1 h2
    rw [decide_eq_true rfl] at q5
    refine PCalls.of (N := 41) (res := [.tmp 4]) mixed Try.func3 rfl rfl rfl (by kernel_rfl) (by simp) [0, 1, 3, 4, 5, 6, 7, 8, 10, 13] ?_
    repeat' (first | exact cl1 | ((with_reducible show Exists _); first | exact exHM _ | refine exU8 ?_) | ((with_reducible show callX _ _ _ _ _); (first | refine call_p (sane_calls) (by kernel_rfl) rfl ?_ | refine call_p (q0) (by kernel_rfl) rfl ?_ | refine call_p (add_calls l x hl) (by kernel_rfl) rfl ?_ | refine call_p (radd_calls l x hl) (by kernel_rfl) rfl ?_ | refine call_p (check_calls l hl) (by kernel_rfl) rfl ?_ | refine call_p (rcheck_calls l hl) (by kernel_rfl) rfl ?_ | refine call_p (q5) (by kernel_rfl) rfl ?_)) | ((fail_if_success with_reducible first | show LeG _ _ | show Lp _ _ _ _ | show Exists _ | show callX _ _ _ _ _ | show (_ : Int) ≤ _ | show (_ : Int) < _ | show (_ : Nat) ≤ _ | show (_ : Nat) < _); (conv => whnf) <;> (first | exact cl2 | refine XAlt.l ?_ | refine Sq.pr ?_ | refine Br.dec (fun hc => ?_) (fun hc => ?_) | refine Br.tt ?_ | refine Br.ff ?_ | refine Br.not ?_ | refine Br.mk (fun hc => ?_) (fun hc => ?_) | refine Opt.nn ?_ | refine Opt.ss ?_ | refine AltA.l ?_ | exact PV.leL_nil | refine PV.leL_cons ?_ ?_ | refine And.intro ?_ ?_ | refine ix_map (fun x hx => ?_) | refine exU8 ?_ | refine nilc (fun hn => ?_) ?_ | exact cl3 | refine imp0 (fun hpos => ?_) | refine fits_i64 ?_ ?_ | exact rfl | exact trivial | (with_reducible first | show LeG _ _ | show Lp _ _ _ _ | show Exists _ | show callX _ _ _ _ _)))) <;> (try exact cl5)
    all_goals exact LeG.bool (decide_eq_true rfl)
end Go.Proofs.Ythlpjjnfcpjgoaa

namespace Go.Proofs.Ythlpjjnfcpjgoaa
open Go Go.Sg
set_option maxRecDepth 100000
set_option maxHeartbeats 20000000
/-! ### The reference's put -/
theorem rput_old (ways : List Wy) (w : Wy) (r : List PV) (n : Nat) (hr : r = w.path.map eI) (hn : n = w.path.length) (hl : ways.length < 1000000) (hm : hasW ways w.to = true) :
    ICalls Try.prog 39 2 [(0, .row 2 (ways.map eW)), (1, .row 1 r)] [.rsl 0 2 0 ways.length, .agg [.rsl 1 1 0 n, .p (eI w.to)]] (.rsl 0 2 0 ways.length) [(0, .row 2 (ways.map eW)), (1, .dead)] := by
  subst hr; subst hn
  refine ICalls.of (N := 25) (res := [.tmp 4]) mixed Try.func39 rfl rfl rfl (by kernel_rfl) (by simp) [0, 1, 3, 4, 5, 9, 19] (Nat.le_refl _) ?_
  repeat' (first | exact cl1 | ((with_reducible show Exists _); first | exact exHM _ | refine exU8 ?_) | ((fail_if_success with_reducible first | show LeG _ _ | show Lp _ _ _ _ | show Exists _ | show callX _ _ _ _ _ | show (_ : Int) ≤ _ | show (_ : Int) < _ | show (_ : Nat) ≤ _ | show (_ : Nat) < _); (conv => whnf) <;> (first | exact cl2 | refine XAlt.l ?_ | refine Sq.pr ?_ | refine Br.dec (fun hc => ?_) (fun hc => ?_) | refine Br.tt ?_ | refine Br.ff ?_ | refine Br.not ?_ | refine Br.mk (fun hc => ?_) (fun hc => ?_) | refine Opt.nn ?_ | refine Opt.ss ?_ | refine AltA.l ?_ | exact PV.leL_nil | refine PV.leL_cons ?_ ?_ | refine And.intro ?_ ?_ | refine ix_map (fun x hx => ?_) | refine exU8 ?_ | refine nilc (fun hn => ?_) ?_ | exact cl3 | refine imp0 (fun hpos => ?_) | refine fits_i64 ?_ ?_ | exact rfl | exact trivial | (with_reducible first | show LeG _ _ | show Lp _ _ _ _ | show Exists _ | show callX _ _ _ _ _)))) <;> (try exact cl5)
  refine Wpc.loopA (α := {i : Nat // i ≤ ways.length ∧ ∀ (j : Nat) v, j < i → ways[j]? = some v → v.to ≠ w.to}) mixed [0, 1, 3, 4, 5, 9, 19] (fun i => [(5, .p (eI i.1))]) (fun _ => []) (fun _ => 0) (fun i => ways.length - i.1) ⟨0, by omega, fun j v h => absurd h (by omega)⟩ ?_ ?_
  · (first | refine Ent.ofA [] ?_ | refine Ent.ofC [] ?_) <;> (repeat' (first | exact trivial | refine HpLe.dd ?_ | refine HpLe.mk rfl (by simp) rfl (fun h => AObj.noConfusion h) ?_ ?_ | refine And.intro ?_ ?_ | exact cl9 | refine VLe.pe ?_ | refine VLe.agg ?_ | refine VLe.tup ?_ | refine VLe.fn ?_ ?_ | refine VLeL.cons ?_ ?_ | exact VLeL.nil | exact OLe.row _ _ | rfl | refine VLe.rsle rfl ?_ ?_ ?_ | refine OLe.rowe2 ?_ ?_ | refine OLe.mape ?_ ?_ | refine OLe.iter0 ?_ | refine OLe.itere ?_ ?_ | refine OLe.chane ?_ ?_ | refine OLe.mapSe ?_ ?_ ?_ | exact OLe.mapS0 rfl)) <;> try (first | (simp; done) | (congr 1; omega) | (congr 1; (first | (simp; done) | (simp; omega))))
  rintro ⟨i, hi, hq⟩
  have hi : i ≤ ways.length := hi
  have hq : ∀ (j : Nat) v, j < i → ways[j]? = some v → v.to ≠ w.to := hq
  cases hxi : ways[i]? with
  | none =>
    exfalso
    have hge : ways.length ≤ i := List.getElem?_eq_none_iff.1 hxi
    obtain ⟨v, hv, e⟩ := List.any_eq_true.1 hm
    obtain ⟨j, hj⟩ := List.getElem?_of_mem hv
    exact hq j v (by have := (List.getElem?_eq_some_iff.1 hj).1; omega) hj (of_decide_eq_true e)
  | some v =>
    have hlt : i < ways.length := (List.getElem?_eq_some_iff.1 hxi).1
    have hyes : ((i : Int) < ((ways.length : Nat) : Int)) := by omega
    repeat' (first | exact cl1 | ((with_reducible show Exists _); first | exact exHM _ | refine exU8 ?_) | ((fail_if_success with_reducible first | show LeG _ _ | show Lp _ _ _ _ | show Exists _ | show callX _ _ _ _ _ | show (_ : Int) ≤ _ | show (_ : Int) < _ | show (_ : Nat) ≤ _ | show (_ : Nat) < _); (conv => whnf) <;> (first | exact cl2 | refine Br.dec (fun hc => ?_) (fun hc => absurd hyes hc) | refine XAlt.l ?_ | refine Sq.pr ?_ | refine Br.dec (fun hc => ?_) (fun hc => ?_) | refine Br.tt ?_ | refine Br.ff ?_ | refine Br.not ?_ | refine Br.mk (fun hc => ?_) (fun hc => ?_) | refine Opt.nn ?_ | refine Opt.ss ?_ | refine AltA.l ?_ | exact PV.leL_nil | refine PV.leL_cons ?_ ?_ | refine And.intro ?_ ?_ | refine ix_map (fun x hx => ?_) | refine exU8 ?_ | refine nilc (fun hn => ?_) ?_ | exact cl3 | refine imp0 (fun hpos => ?_) | refine fits_i64 ?_ ?_ | exact rfl | exact trivial | (with_reducible first | show LeG _ _ | show Lp _ _ _ _ | show Exists _ | show callX _ _ _ _ _)))) <;> (try exact cl5)
    · refine ⟨[], [(0, 0), (1, 1)], ?_, ?_, by decide, by simp, fun i hi => by match i, hi with | 0, _ => rfl | 1, _ => rfl⟩ <;> (repeat' (first | exact trivial | refine HpLe.dd ?_ | refine HpLe.mk rfl (by simp) rfl (fun h => AObj.noConfusion h) ?_ ?_ | refine And.intro ?_ ?_ | exact cl9 | refine VLe.pe ?_ | refine VLe.agg ?_ | refine VLe.tup ?_ | refine VLe.fn ?_ ?_ | refine VLeL.cons ?_ ?_ | exact VLeL.nil | exact OLe.row _ _ | rfl | refine VLe.rsle rfl ?_ ?_ ?_ | refine OLe.rowe2 ?_ ?_ | refine OLe.mape ?_ ?_ | refine OLe.iter0 ?_ | refine OLe.itere ?_ ?_ | refine OLe.chane ?_ ?_ | refine OLe.mapSe ?_ ?_ ?_ | exact OLe.mapS0 rfl))
    · have hx : ways[0 + (i : Int).toNat]? = some x := hx
      rw [Nat.zero_add, Int.toNat_natCast] at hx
      have hc : ¬ x.to = w.to := hc
      refine ⟨⟨i + 1, hlt, fun j v hj hv => ?_⟩, by show ways.length - (i + 1) < ways.length - i; omega, ?_⟩
      · rcases Nat.lt_succ_iff_lt_or_eq.1 hj with h1 | h1
        · exact hq j v h1 hv
        · rw [h1, hx] at hv; injection hv with hv; rw [← hv]; exact hc
      · (first | refine Ent.ofA [] ?_ | refine Ent.ofC [] ?_) <;> (repeat' (first | exact trivial | refine HpLe.dd ?_ | refine HpLe.mk rfl (by simp) rfl (fun h => AObj.noConfusion h) ?_ ?_ | refine And.intro ?_ ?_ | exact cl9 | refine VLe.pe ?_ | refine VLe.agg ?_ | refine VLe.tup ?_ | refine VLe.fn ?_ ?_ | refine VLeL.cons ?_ ?_ | exact VLeL.nil | exact OLe.row _ _ | rfl | refine VLe.rsle rfl ?_ ?_ ?_ | refine OLe.rowe2 ?_ ?_ | refine OLe.mape ?_ ?_ | refine OLe.iter0 ?_ | refine OLe.itere ?_ ?_ | refine OLe.chane ?_ ?_ | refine OLe.mapSe ?_ ?_ ?_ | exact OLe.mapS0 rfl)) <;> try (first | (simp; done) | (congr 1; omega) | (congr 1; (first | (simp; done) | (simp; omega))))
theorem rput_new (ways : List Wy) (w : Wy) (r : List PV) (n : Nat) (hr : r = w.path.map eI) (hn : n = w.path.length) (hl : ways.length < 1000000) (hw : w.path.length < 1000000) (hm : hasW ways w.to = false) :
    ICalls Try.prog 39 2 [(0, .row 2 (ways.map eW)), (1, .row 1 r)] [.rsl 0 2 0 ways.length, .agg [.rsl 1 1 0 n, .p (eI w.to)]] (.rsl 2 2 0 (ways ++ [w]).length) [(2, .row 2 ((ways ++ [w]).map eW)), (0, .dead), (1, .dead)] := by
  subst hr; subst hn
  refine ICalls.of (N := 25) (res := [.tmp 4]) mixed Try.func39 rfl rfl rfl (by kernel_rfl) (by simp) [0, 1, 3, 4, 5, 9, 19] (Nat.le_refl _) ?_
  repeat' (first | exact cl1 | ((with_reducible show Exists _); first | exact exHM _ | refine exU8 ?_) | ((fail_if_success with_reducible first | show LeG _ _ | show Lp _ _ _ _ | show Exists _ | show callX _ _ _ _ _ | show (_ : Int) ≤ _ | show (_ : Int) < _ | show (_ : Nat) ≤ _ | show (_ : Nat) < _); (conv => whnf) <;> (first | exact cl2 | refine XAlt.l ?_ | refine Sq.pr ?_ | refine Br.dec (fun hc => ?_) (fun hc => ?_) | refine Br.tt ?_ | refine Br.ff ?_ | refine Br.not ?_ | refine Br.mk (fun hc => ?_) (fun hc => ?_) | refine Opt.nn ?_ | refine Opt.ss ?_ | refine AltA.l ?_ | exact PV.leL_nil | refine PV.leL_cons ?_ ?_ | refine And.intro ?_ ?_ | refine ix_map (fun x hx => ?_) | refine exU8 ?_ | refine nilc (fun hn => ?_) ?_ | exact cl3 | refine imp0 (fun hpos => ?_) | refine fits_i64 ?_ ?_ | exact rfl | exact trivial | (with_reducible first | show LeG _ _ | show Lp _ _ _ _ | show Exists _ | show callX _ _ _ _ _)))) <;> (try exact cl5)
  refine Wpc.loopA (α := {i : Nat // i ≤ ways.length}) mixed [0, 1, 3, 4, 5, 9, 19] (fun i => [(5, .p (eI i.1))]) (fun _ => []) (fun _ => 0) (fun i => ways.length - i.1) ⟨0, by omega⟩ ?_ ?_
  · (first | refine Ent.ofA [] ?_ | refine Ent.ofC [] ?_) <;> (repeat' (first | exact trivial | refine HpLe.dd ?_ | refine HpLe.mk rfl (by simp) rfl (fun h => AObj.noConfusion h) ?_ ?_ | refine And.intro ?_ ?_ | exact cl9 | refine VLe.pe ?_ | refine VLe.agg ?_ | refine VLe.tup ?_ | refine VLe.fn ?_ ?_ | refine VLeL.cons ?_ ?_ | exact VLeL.nil | exact OLe.row _ _ | rfl | refine VLe.rsle rfl ?_ ?_ ?_ | refine OLe.rowe2 ?_ ?_ | refine OLe.mape ?_ ?_ | refine OLe.iter0 ?_ | refine OLe.itere ?_ ?_ | refine OLe.chane ?_ ?_ | refine OLe.mapSe ?_ ?_ ?_ | exact OLe.mapS0 rfl)) <;> try (first | (simp; done) | (congr 1; omega) | (congr 1; (first | (simp; done) | (simp; omega))))
  rintro ⟨i, hi⟩
  have hi : i ≤ ways.length := hi
  cases hxi : ways[i]? with
  | none =>
    have hge : ways.length ≤ i := List.getElem?_eq_none_iff.1 hxi
    have hno : ¬ ((i : Int) < ((ways.length : Nat) : Int)) := by omega
    repeat' (first | exact cl1 | ((with_reducible show Exists _); first | exact exHM _ | refine exU8 ?_) | ((fail_if_success with_reducible first | show LeG _ _ | show Lp _ _ _ _ | show Exists _ | show callX _ _ _ _ _ | show (_ : Int) ≤ _ | show (_ : Int) < _ | show (_ : Nat) ≤ _ | show (_ : Nat) < _); (conv => whnf) <;> (first | exact cl2 | refine Br.dec (fun hc => absurd hc hno) (fun hc => ?_) | refine XAlt.l ?_ | refine Sq.pr ?_ | refine Br.dec (fun hc => ?_) (fun hc => ?_) | refine Br.tt ?_ | refine Br.ff ?_ | refine Br.not ?_ | refine Br.mk (fun hc => ?_) (fun hc => ?_) | refine Opt.nn ?_ | refine Opt.ss ?_ | refine AltA.l ?_ | exact PV.leL_nil | refine PV.leL_cons ?_ ?_ | refine And.intro ?_ ?_ | refine ix_map (fun x hx => ?_) | refine exU8 ?_ | refine nilc (fun hn => ?_) ?_ | exact cl3 | refine imp0 (fun hpos => ?_) | refine fits_i64 ?_ ?_ | exact rfl | exact trivial | (with_reducible first | show LeG _ _ | show Lp _ _ _ _ | show Exists _ | show callX _ _ _ _ _)))) <;> (try exact cl5)
    refine ⟨[], [(0, 0), (1, 1), (2, 642)], ?_, ?_, by decide, by simp, fun i hi => by match i, hi with | 0, _ => rfl | 1, _ => rfl⟩ <;> (repeat' (first | exact trivial | refine HpLe.dd ?_ | refine HpLe.mk rfl (by simp) rfl (fun h => AObj.noConfusion h) ?_ ?_ | refine And.intro ?_ ?_ | exact cl9 | refine VLe.pe ?_ | refine VLe.agg ?_ | refine VLe.tup ?_ | refine VLe.fn ?_ ?_ | refine VLeL.cons ?_ ?_ | exact VLeL.nil | exact OLe.row _ _ | rfl | refine VLe.rsle rfl ?_ ?_ ?_ | refine OLe.rowe2 ?_ ?_ | refine OLe.mape ?_ ?_ | refine OLe.iter0 ?_ | refine OLe.itere ?_ ?_ | refine OLe.chane ?_ ?_ | refine OLe.mapSe ?_ ?_ ?_ | exact OLe.mapS0 rfl))
    · show ways.length + 1 = (ways ++ [w]).length
      rw [List.length_append]; rfl
    · show List.map eW ways ++ [PV.agg [PV.sl 1 false (List.take w.path.length (List.drop 0 (w.path.map eI))), eI w.to]] = List.map eW (ways ++ [w])
      rw [List.drop_zero, List.take_of_length_le (by simp), List.map_append]; rfl
  | some v =>
    have hlt : i < ways.length := (List.getElem?_eq_some_iff.1 hxi).1
    have hyes : ((i : Int) < ((ways.length : Nat) : Int)) := by omega
    have hne : ¬ v.to = w.to := fun e => by
      have := hasW_mem.1 hm
      exact this (List.mem_map.2 ⟨v, List.mem_of_getElem? hxi, e⟩)
    repeat' (first | exact cl1 | ((with_reducible show Exists _); first | exact exHM _ | refine exU8 ?_) | ((fail_if_success with_reducible first | show LeG _ _ | show Lp _ _ _ _ | show Exists _ | show callX _ _ _ _ _ | show (_ : Int) ≤ _ | show (_ : Int) < _ | show (_ : Nat) ≤ _ | show (_ : Nat) < _); (conv => whnf) <;> (first | exact cl2 | refine Br.dec (fun hc => ?_) (fun hc => absurd hyes hc) | refine XAlt.l ?_ | refine Sq.pr ?_ | refine Br.dec (fun hc => ?_) (fun hc => ?_) | refine Br.tt ?_ | refine Br.ff ?_ | refine Br.not ?_ | refine Br.mk (fun hc => ?_) (fun hc => ?_) | refine Opt.nn ?_ | refine Opt.ss ?_ | refine AltA.l ?_ | exact PV.leL_nil | refine PV.leL_cons ?_ ?_ | refine And.intro ?_ ?_ | refine ix_map (fun x hx => ?_) | refine exU8 ?_ | refine nilc (fun hn => ?_) ?_ | exact cl3 | refine imp0 (fun hpos => ?_) | refine fits_i64 ?_ ?_ | exact rfl | exact trivial | (with_reducible first | show LeG _ _ | show Lp _ _ _ _ | show Exists _ | show callX _ _ _ _ _)))) <;> (try exact cl5)
    · exfalso
      have hx : ways[0 + (i : Int).toNat]? = some x := hx
      rw [Nat.zero_add, Int.toNat_natCast] at hx
      have hc : x.to = w.to := hc
      rw [hxi] at hx; injection hx with hx; subst hx; exact hne hc
    · refine ⟨⟨i + 1, hlt⟩, by show ways.length - (i + 1) < ways.length - i; omega, ?_⟩
      (first | refine Ent.ofA [] ?_ | refine Ent.ofC [] ?_) <;> (repeat' (first | exact trivial | refine HpLe.dd ?_ | refine HpLe.mk rfl (by simp) rfl (fun h => AObj.noConfusion h) ?_ ?_ | refine And.intro ?_ ?_ | exact cl9 | refine VLe.pe ?_ | refine VLe.agg ?_ | refine VLe.tup ?_ | refine VLe.fn ?_ ?_ | refine VLeL.cons ?_ ?_ | exact VLeL.nil | exact OLe.row _ _ | rfl | refine VLe.rsle rfl ?_ ?_ ?_ | refine OLe.rowe2 ?_ ?_ | refine OLe.mape ?_ ?_ | refine OLe.iter0 ?_ | refine OLe.itere ?_ ?_ | refine OLe.chane ?_ ?_ | refine OLe.mapSe ?_ ?_ ?_ | exact OLe.mapS0 rfl)) <;> try (first | (simp; done) | (congr 1; omega) | (congr 1; (first | (simp; done) | (simp; omega))))
theorem expF_take {S : List It} {p : Int} {w : Wy} {ways : List Wy} {i : Nat} {x : It} (h : S[i]? = some x) : expW w (frm (S.take (i + 1)) p) ways = if x.of_ && decide (x.person = p) then putW (expW w (frm (S.take i) p) ways) ⟨w.path ++ [x.no], x.party⟩ else expW w (frm (S.take i) p) ways := by
  unfold frm
  rw [filter_take _ h]
  split
  · unfold expW; rw [List.foldl_append]; rfl
  · rw [List.append_nil]
theorem expF_ok {S : List It} {w : Wy} {ways : List Wy} (h : OkW S ways) (hw : w.path.length ≤ 7) (p : Int) (i : Nat) : OkW S (expW w (frm (S.take i) p) ways) := by
  have := exp_ok (L := frm (S.take i) p) (w := w) h (fun x hx => List.mem_of_mem_take (frm_mem hx)) hw (frm (S.take i) p).length
  rwa [List.take_length] at this
theorem expF_get {S : List It} {w : Wy} {ways : List Wy} {k : Nat} {v : Wy} (h : ways[k]? = some v) (p : Int) (i : Nat) : (expW w (frm (S.take i) p) ways)[k]? = some v := by
  obtain ⟨z, hz⟩ := exp_pre (L := frm (S.take i) p) (w := w) (ways := ways) (frm (S.take i) p).length
  rw [List.take_length] at hz
  rw [hz, List.getElem?_append_left (List.getElem?_eq_some_iff.1 h).1]; exact h
end Go.Proofs.Ythlpjjnfcpjgoaa

namespace Go.Proofs.Ythlpjjnfcpjgoaa
open Go Go.Sg
set_option maxRecDepth 100000
set_option maxHeartbeats 40000000
theorem ix_rw {α : Type} {f : α → PV} {l : List α} {n : Nat} {x : α} {K : PV → Prop} (hx : l[n]? = some x) (k : K (f x)) : ∀ p, (l.map f)[0 + ((n : Nat) : Int).toNat]? = some p → K p := by
  rw [Nat.zero_add, Int.toNat_natCast]; exact ix_at hx k
theorem rconflict_calls (l : List It) (who : Int) (P : List Int) (t k : Int) (hl : l.length < 1000000) (hP : P.length < 1000000) : PCalls Try.prog 17 [eL l, eI who, eIs P, eI t, eI k] (eC (conA l who P t k)) := by
  have q1 := rError_calls l who P t k hl hP
  unfold conA
  by_cases hz : examA l who P t k = 0
  · rw [hz] at q1
    rw [if_pos hz]
    obtain ⟨hchk, harg⟩ := examA_ok hz
    have q2 := rstanding_calls l t k hl
    have htk : 0 ≤ t ∧ 0 ≤ k := by
      unfold argB wiB at harg
      simp only [Bool.and_eq_true, decide_eq_true_eq] at harg
      omega
    rw [stL_eq htk.1 htk.2 hchk] at q2
    have hSl : (stL t k l).length ≤ l.length := List.length_filter_le _ _
    generalize stL t k l = S at *
    refine PCalls.of (N := 139) (res := [.tmp 10, .tmp 11, .tmp 12]) mixed Try.func17 rfl rfl rfl (by kernel_rfl) (by simp) [0, 1, 2, 3, 4, 10, 11, 12, 13, 14, 15, 16, 17, 18, 26, 36, 53, 71, 80, 92, 96, 116] ?_
    repeat' (first | exact cl1 | ((with_reducible show Exists _); first | exact exHM _ | refine exU8 ?_) | ((with_reducible show callX _ _ _ _ _); (first | refine call_p (q1) (by kernel_rfl) rfl ?_ | refine call_p (q2) (by kernel_rfl) rfl ?_)) | ((fail_if_success with_reducible first | show LeG _ _ | show Lp _ _ _ _ | show Exists _ | show callX _ _ _ _ _ | show (_ : Int) ≤ _ | show (_ : Int) < _ | show (_ : Nat) ≤ _ | show (_ : Nat) < _); (conv => whnf) <;> (first | exact cl2 | refine XAlt.l ?_ | refine Sq.pr ?_ | refine Br.dec (fun hc => ?_) (fun hc => ?_) | refine Br.tt ?_ | refine Br.ff ?_ | refine Br.not ?_ | refine Br.mk (fun hc => ?_) (fun hc => ?_) | refine Opt.nn ?_ | refine Opt.ss ?_ | refine AltA.l ?_ | exact PV.leL_nil | refine PV.leL_cons ?_ ?_ | refine And.intro ?_ ?_ | refine ix_map (fun x hx => ?_) | refine exU8 ?_ | refine nilc (fun hn => ?_) ?_ | exact cl3 | refine imp0 (fun hpos => ?_) | refine fits_i64 ?_ ?_ | exact rfl | exact trivial | (with_reducible first | show LeG _ _ | show Lp _ _ _ _ | show Exists _ | show callX _ _ _ _ _)))) <;> (try exact cl5)
    have hSl2 : S.length < 1000000 := by omega
    refine Wpc.loopA (α := {i : Nat // i ≤ S.length}) mixed [0, 1, 2, 3, 4, 10, 11, 12, 13, 14, 15, 16, 17, 18, 26, 36, 53, 71, 80, 92, 96, 116] (fun i => [(15, .rsl 1088 2 0 (iniW who (S.take i.1)).length), (16, .p (eI i.1))]) (fun i => [(1088, .row 2 ((iniW who (S.take i.1)).map eW))]) (fun _ => 0) (fun i => S.length - i.1) ⟨0, by omega⟩ ?_ ?_
    · (first | refine Ent.ofA [] ?_ | refine Ent.ofC [] ?_) <;> (repeat' (first | exact trivial | refine HpLe.dd ?_ | refine HpLe.mk rfl (by simp) rfl (fun h => AObj.noConfusion h) ?_ ?_ | refine And.intro ?_ ?_ | exact cl9 | refine VLe.pe ?_ | refine VLe.agg ?_ | refine VLe.tup ?_ | refine VLe.fn ?_ ?_ | refine VLeL.cons ?_ ?_ | exact VLeL.nil | exact OLe.row _ _ | rfl | refine VLe.rsle rfl ?_ ?_ ?_ | refine OLe.rowe2 ?_ ?_ | refine OLe.mape ?_ ?_ | refine OLe.iter0 ?_ | refine OLe.itere ?_ ?_ | refine OLe.chane ?_ ?_ | refine OLe.mapSe ?_ ?_ ?_ | exact OLe.mapS0 rfl)) <;> try (first | (simp; done) | (congr 1; omega) | (congr 1; (first | (simp; done) | (simp; omega))))
    rintro ⟨i, hi⟩
    have hi : i ≤ S.length := hi
    have hok : OkW S (iniW who (S.take i)) := ini_ok (S := S) who i
    have hwl : (iniW who (S.take i)).length ≤ S.length := hok.len
    have hwl2 : (iniW who (S.take i)).length < 1000000 := by omega
    cases hxi : S[i]? with
    | some y =>
      have hlt : i < S.length := (List.getElem?_eq_some_iff.1 hxi).1
      have hyes : ((i : Int) < ((S.map eA).length : Int)) := by rw [List.length_map]; omega
      cases ho : y.of_ with
      | true =>
        repeat' (first | exact cl1 | ((with_reducible show Exists _); first | exact exHM _ | refine exU8 ?_) | ((fail_if_success with_reducible first | show LeG _ _ | show Lp _ _ _ _ | show Exists _ | show callX _ _ _ _ _ | show (_ : Int) ≤ _ | show (_ : Int) < _ | show (_ : Nat) ≤ _ | show (_ : Nat) < _); (conv => whnf) <;> (first | exact cl2 | refine Br.dec (fun hc => ?_) (fun hc => absurd hyes hc) | refine ix_at hxi ?_ | refine XAlt.l ?_ | refine Sq.pr ?_ | refine Br.dec (fun hc => ?_) (fun hc => ?_) | refine Br.tt ?_ | refine Br.ff ?_ | refine Br.not ?_ | refine Br.mk (fun hc => ?_) (fun hc => ?_) | refine Opt.nn ?_ | refine Opt.ss ?_ | refine AltA.l ?_ | exact PV.leL_nil | refine PV.leL_cons ?_ ?_ | refine And.intro ?_ ?_ | refine ix_map (fun x hx => ?_) | refine exU8 ?_ | refine nilc (fun hn => ?_) ?_ | exact cl3 | refine imp0 (fun hpos => ?_) | refine fits_i64 ?_ ?_ | exact rfl | exact trivial | (with_reducible first | show LeG _ _ | show Lp _ _ _ _ | show Exists _ | show callX _ _ _ _ _)))) <;> (try exact cl5)
        all_goals first
        | (exfalso; simp_all; done)
        | (refine ⟨⟨i + 1, hlt⟩, by show S.length - (i + 1) < S.length - i; omega, ?_⟩
           show Ent _ _ (hdS _ _ _ _ [(15, .rsl 1088 2 0 (iniW who (S.take (i + 1))).length), (16, .p (eI ((i + 1 : Nat) : Int)))] [(1088, .row 2 ((iniW who (S.take (i + 1))).map eW))] 0)
           rw [iniW_of hxi ho]
           (first | refine Ent.ofA [] ?_ | refine Ent.ofC [] ?_) <;> (repeat' (first | exact trivial | refine HpLe.dd ?_ | refine HpLe.mk rfl (by simp) rfl (fun h => AObj.noConfusion h) ?_ ?_ | refine And.intro ?_ ?_ | exact cl9 | refine VLe.pe ?_ | refine VLe.agg ?_ | refine VLe.tup ?_ | refine VLe.fn ?_ ?_ | refine VLeL.cons ?_ ?_ | exact VLeL.nil | exact OLe.row _ _ | rfl | refine VLe.rsle rfl ?_ ?_ ?_ | refine OLe.rowe2 ?_ ?_ | refine OLe.mape ?_ ?_ | refine OLe.iter0 ?_ | refine OLe.itere ?_ ?_ | refine OLe.chane ?_ ?_ | refine OLe.mapSe ?_ ?_ ?_ | exact OLe.mapS0 rfl)) <;> try (first | (simp; done) | (congr 1; omega) | (congr 1; (first | (simp; done) | (simp; omega)))))
        | trace_state
      | false =>
        by_cases hp : y.person = who
        · have ey := iniW_yes hxi ho hp
          cases hm : hasW (iniW who (S.take i)) y.party with
          | true =>
            have pc := rput_old (iniW who (S.take i)) ⟨[y.no], y.party⟩ [eI y.no] 1 rfl rfl hwl2 hm
            rw [show putW (iniW who (S.take i)) ⟨[y.no], y.party⟩ = iniW who (S.take i) by unfold putW; rw [if_pos hm]] at ey
            repeat' (first | exact cl1 | ((with_reducible show Exists _); first | exact exHM _ | refine exU8 ?_) | ((with_reducible show callX _ _ _ _ _); (first | refine call_i [1088, 2880] (pc) (by kernel_rfl) rfl rfl (by decide) cl6 (fun i hi => by match i, hi with | 0, _ => rfl | 1, _ => rfl) cl7 cl8 (by simp [keys]) ?_)) | ((fail_if_success with_reducible first | show LeG _ _ | show Lp _ _ _ _ | show Exists _ | show callX _ _ _ _ _ | show (_ : Int) ≤ _ | show (_ : Int) < _ | show (_ : Nat) ≤ _ | show (_ : Nat) < _); (conv => whnf) <;> (first | exact cl2 | refine Br.dec (fun hc => ?_) (fun hc => absurd hyes hc) | refine Br.dec (fun hc => ?_) (fun hc => absurd hp hc) | refine ix_at hxi ?_ | refine XAlt.l ?_ | refine Sq.pr ?_ | refine Br.dec (fun hc => ?_) (fun hc => ?_) | refine Br.tt ?_ | refine Br.ff ?_ | refine Br.not ?_ | refine Br.mk (fun hc => ?_) (fun hc => ?_) | refine Opt.nn ?_ | refine Opt.ss ?_ | refine AltA.l ?_ | exact PV.leL_nil | refine PV.leL_cons ?_ ?_ | refine And.intro ?_ ?_ | refine ix_map (fun x hx => ?_) | refine exU8 ?_ | refine nilc (fun hn => ?_) ?_ | exact cl3 | refine imp0 (fun hpos => ?_) | refine fits_i64 ?_ ?_ | exact rfl | exact trivial | (with_reducible first | show LeG _ _ | show Lp _ _ _ _ | show Exists _ | show callX _ _ _ _ _)))) <;> (try exact cl5)
            all_goals first
            | (exfalso; simp_all; done)
            | (refine ⟨⟨i + 1, hlt⟩, by show S.length - (i + 1) < S.length - i; omega, ?_⟩
               show Ent _ _ (hdS _ _ _ _ [(15, .rsl 1088 2 0 (iniW who (S.take (i + 1))).length), (16, .p (eI ((i + 1 : Nat) : Int)))] [(1088, .row 2 ((iniW who (S.take (i + 1))).map eW))] 0)
               rw [ey]
               (first | refine Ent.ofA [] ?_ | refine Ent.ofC [] ?_) <;> (repeat' (first | exact trivial | refine HpLe.dd ?_ | refine HpLe.mk rfl (by simp) rfl (fun h => AObj.noConfusion h) ?_ ?_ | refine And.intro ?_ ?_ | exact cl9 | refine VLe.pe ?_ | refine VLe.agg ?_ | refine VLe.tup ?_ | refine VLe.fn ?_ ?_ | refine VLeL.cons ?_ ?_ | exact VLeL.nil | exact OLe.row _ _ | rfl | refine VLe.rsle rfl ?_ ?_ ?_ | refine OLe.rowe2 ?_ ?_ | refine OLe.mape ?_ ?_ | refine OLe.iter0 ?_ | refine OLe.itere ?_ ?_ | refine OLe.chane ?_ ?_ | refine OLe.mapSe ?_ ?_ ?_ | exact OLe.mapS0 rfl)) <;> try (first | (simp; done) | (congr 1; omega) | (congr 1; (first | (simp; done) | (simp; omega)))))
            | trace_state
          | false =>
            have pc := rput_new (iniW who (S.take i)) ⟨[y.no], y.party⟩ [eI y.no] 1 rfl rfl hwl2 (by show 1 < 1000000; decide) hm
            rw [show putW (iniW who (S.take i)) ⟨[y.no], y.party⟩ = iniW who (S.take i) ++ [⟨[y.no], y.party⟩] by unfold putW; rw [if_neg (by rw [hm]; exact Bool.false_ne_true)]] at ey
            repeat' (first | exact cl1 | ((with_reducible show Exists _); first | exact exHM _ | refine exU8 ?_) | ((with_reducible show callX _ _ _ _ _); (first | refine call_i [1088, 2880] (pc) (by kernel_rfl) rfl rfl (by decide) cl6 (fun i hi => by match i, hi with | 0, _ => rfl | 1, _ => rfl) cl7 cl8 (by simp [keys]) ?_)) | ((fail_if_success with_reducible first | show LeG _ _ | show Lp _ _ _ _ | show Exists _ | show callX _ _ _ _ _ | show (_ : Int) ≤ _ | show (_ : Int) < _ | show (_ : Nat) ≤ _ | show (_ : Nat) < _); (conv => whnf) <;> (first | exact cl2 | refine Br.dec (fun hc => ?_) (fun hc => absurd hyes hc) | refine Br.dec (fun hc => ?_) (fun hc => absurd hp hc) | refine ix_at hxi ?_ | refine XAlt.l ?_ | refine Sq.pr ?_ | refine Br.dec (fun hc => ?_) (fun hc => ?_) | refine Br.tt ?_ | refine Br.ff ?_ | refine Br.not ?_ | refine Br.mk (fun hc => ?_) (fun hc => ?_) | refine Opt.nn ?_ | refine Opt.ss ?_ | refine AltA.l ?_ | exact PV.leL_nil | refine PV.leL_cons ?_ ?_ | refine And.intro ?_ ?_ | refine ix_map (fun x hx => ?_) | refine exU8 ?_ | refine nilc (fun hn => ?_) ?_ | exact cl3 | refine imp0 (fun hpos => ?_) | refine fits_i64 ?_ ?_ | exact rfl | exact trivial | (with_reducible first | show LeG _ _ | show Lp _ _ _ _ | show Exists _ | show callX _ _ _ _ _)))) <;> (try exact cl5)
            all_goals first
            | (exfalso; simp_all; done)
            | (refine ⟨⟨i + 1, hlt⟩, by show S.length - (i + 1) < S.length - i; omega, ?_⟩
               show Ent _ _ (hdS _ _ _ _ [(15, .rsl 1088 2 0 (iniW who (S.take (i + 1))).length), (16, .p (eI ((i + 1 : Nat) : Int)))] [(1088, .row 2 ((iniW who (S.take (i + 1))).map eW))] 0)
               rw [ey]
               (first | refine Ent.ofA [] ?_ | refine Ent.ofC [] ?_) <;> (repeat' (first | exact trivial | refine HpLe.dd ?_ | refine HpLe.mk rfl (by simp) rfl (fun h => AObj.noConfusion h) ?_ ?_ | refine And.intro ?_ ?_ | exact cl9 | refine VLe.pe ?_ | refine VLe.agg ?_ | refine VLe.tup ?_ | refine VLe.fn ?_ ?_ | refine VLeL.cons ?_ ?_ | exact VLeL.nil | exact OLe.row _ _ | rfl | refine VLe.rsle rfl ?_ ?_ ?_ | refine OLe.rowe2 ?_ ?_ | refine OLe.mape ?_ ?_ | refine OLe.iter0 ?_ | refine OLe.itere ?_ ?_ | refine OLe.chane ?_ ?_ | refine OLe.mapSe ?_ ?_ ?_ | exact OLe.mapS0 rfl)) <;> try (first | (simp; done) | (congr 1; omega) | (congr 1; (first | (simp; done) | (simp; omega)))))
            | trace_state
        · repeat' (first | exact cl1 | ((with_reducible show Exists _); first | exact exHM _ | refine exU8 ?_) | ((fail_if_success with_reducible first | show LeG _ _ | show Lp _ _ _ _ | show Exists _ | show callX _ _ _ _ _ | show (_ : Int) ≤ _ | show (_ : Int) < _ | show (_ : Nat) ≤ _ | show (_ : Nat) < _); (conv => whnf) <;> (first | exact cl2 | refine Br.dec (fun hc => ?_) (fun hc => absurd hyes hc) | refine Br.dec (fun hc => absurd hc hp) (fun hc => ?_) | refine ix_at hxi ?_ | refine XAlt.l ?_ | refine Sq.pr ?_ | refine Br.dec (fun hc => ?_) (fun hc => ?_) | refine Br.tt ?_ | refine Br.ff ?_ | refine Br.not ?_ | refine Br.mk (fun hc => ?_) (fun hc => ?_) | refine Opt.nn ?_ | refine Opt.ss ?_ | refine AltA.l ?_ | exact PV.leL_nil | refine PV.leL_cons ?_ ?_ | refine And.intro ?_ ?_ | refine ix_map (fun x hx => ?_) | refine exU8 ?_ | refine nilc (fun hn => ?_) ?_ | exact cl3 | refine imp0 (fun hpos => ?_) | refine fits_i64 ?_ ?_ | exact rfl | exact trivial | (with_reducible first | show LeG _ _ | show Lp _ _ _ _ | show Exists _ | show callX _ _ _ _ _)))) <;> (try exact cl5)
          all_goals first
          | (exfalso; simp_all; done)
          | (refine ⟨⟨i + 1, hlt⟩, by show S.length - (i + 1) < S.length - i; omega, ?_⟩
             show Ent _ _ (hdS _ _ _ _ [(15, .rsl 1088 2 0 (iniW who (S.take (i + 1))).length), (16, .p (eI ((i + 1 : Nat) : Int)))] [(1088, .row 2 ((iniW who (S.take (i + 1))).map eW))] 0)
             rw [iniW_no hxi ho hp]
             (first | refine Ent.ofA [] ?_ | refine Ent.ofC [] ?_) <;> (repeat' (first | exact trivial | refine HpLe.dd ?_ | refine HpLe.mk rfl (by simp) rfl (fun h => AObj.noConfusion h) ?_ ?_ | refine And.intro ?_ ?_ | exact cl9 | refine VLe.pe ?_ | refine VLe.agg ?_ | refine VLe.tup ?_ | refine VLe.fn ?_ ?_ | refine VLeL.cons ?_ ?_ | exact VLeL.nil | exact OLe.row _ _ | rfl | refine VLe.rsle rfl ?_ ?_ ?_ | refine OLe.rowe2 ?_ ?_ | refine OLe.mape ?_ ?_ | refine OLe.iter0 ?_ | refine OLe.itere ?_ ?_ | refine OLe.chane ?_ ?_ | refine OLe.mapSe ?_ ?_ ?_ | exact OLe.mapS0 rfl)) <;> try (first | (simp; done) | (congr 1; omega) | (congr 1; (first | (simp; done) | (simp; omega)))))
          | trace_state
    | none =>
      have hge : S.length ≤ i := List.getElem?_eq_none_iff.1 hxi
      have hno : ¬ ((i : Int) < ((S.map eA).length : Int)) := by rw [List.length_map]; omega
      repeat' (first | exact cl1 | ((with_reducible show Exists _); first | exact exHM _ | refine exU8 ?_) | ((fail_if_success with_reducible first | show LeG _ _ | show Lp _ _ _ _ | show Exists _ | show callX _ _ _ _ _ | show (_ : Int) ≤ _ | show (_ : Int) < _ | show (_ : Nat) ≤ _ | show (_ : Nat) < _); (conv => whnf) <;> (first | exact cl2 | refine Br.dec (fun hc => absurd hc hno) (fun hc => ?_) | refine XAlt.l ?_ | refine Sq.pr ?_ | refine Br.dec (fun hc => ?_) (fun hc => ?_) | refine Br.tt ?_ | refine Br.ff ?_ | refine Br.not ?_ | refine Br.mk (fun hc => ?_) (fun hc => ?_) | refine Opt.nn ?_ | refine Opt.ss ?_ | refine AltA.l ?_ | exact PV.leL_nil | refine PV.leL_cons ?_ ?_ | refine And.intro ?_ ?_ | refine ix_map (fun x hx => ?_) | refine exU8 ?_ | refine nilc (fun hn => ?_) ?_ | exact cl3 | refine imp0 (fun hpos => ?_) | refine fits_i64 ?_ ?_ | exact rfl | exact trivial | (with_reducible first | show LeG _ _ | show Lp _ _ _ _ | show Exists _ | show callX _ _ _ _ _)))) <;> (try exact cl5)
      have ew : iniW who (S.take i) = iniW who S := by rw [List.take_of_length_le hge]
      rw [ew] at hok hwl hwl2 ⊢
      refine Wpc.loopA (α := {x : List Wy × Nat // OkW S x.1 ∧ x.2 ≤ x.1.length ∧ srch P S (S.length + 1 - x.2) x.1 x.2 = conF S P who}) mixed [0, 1, 2, 3, 4, 10, 11, 12, 13, 14, 15, 16, 17, 18, 26, 36, 53, 71, 80, 92, 96, 116] (fun x => [(15, .rsl 1088 2 0 x.1.1.length), (17, .p (eI x.1.2))]) (fun x => [(1088, .row 2 (x.1.1.map eW))]) (fun _ => 0) (fun x => S.length + 1 - x.1.2) ⟨(iniW who S, 0), hok, Nat.zero_le _, rfl⟩ ?_ ?_
      · (first | refine Ent.ofA [] ?_ | refine Ent.ofC [] ?_) <;> (repeat' (first | exact trivial | refine HpLe.dd ?_ | refine HpLe.mk rfl (by simp) rfl (fun h => AObj.noConfusion h) ?_ ?_ | refine And.intro ?_ ?_ | exact cl9 | refine VLe.pe ?_ | refine VLe.agg ?_ | refine VLe.tup ?_ | refine VLe.fn ?_ ?_ | refine VLeL.cons ?_ ?_ | exact VLeL.nil | exact OLe.row _ _ | rfl | refine VLe.rsle rfl ?_ ?_ ?_ | refine OLe.rowe2 ?_ ?_ | refine OLe.mape ?_ ?_ | refine OLe.iter0 ?_ | refine OLe.itere ?_ ?_ | refine OLe.chane ?_ ?_ | refine OLe.mapSe ?_ ?_ ?_ | exact OLe.mapS0 rfl)) <;> try (first | (simp; done) | (congr 1; omega) | (congr 1; (first | (simp; done) | (simp; omega))))
      rintro ⟨⟨ways, kk⟩, hok, hkk, hq⟩
      have hok : OkW S ways := hok
      have hkk : kk ≤ ways.length := hkk
      have hq : srch P S (S.length + 1 - kk) ways kk = conF S P who := hq
      have hwl := hok.len
      have hwl2 : ways.length < 1000000 := by omega
      cases hw : ways[kk]? with
      | none =>
        have hge : ways.length ≤ kk := List.getElem?_eq_none_iff.1 hw
        have hno : ¬ ((kk : Int) < ((ways.length : Nat) : Int)) := by omega
        repeat' (first | exact cl1 | ((with_reducible show Exists _); first | exact exHM _ | refine exU8 ?_) | ((fail_if_success with_reducible first | show LeG _ _ | show Lp _ _ _ _ | show Exists _ | show callX _ _ _ _ _ | show (_ : Int) ≤ _ | show (_ : Int) < _ | show (_ : Nat) ≤ _ | show (_ : Nat) < _); (conv => whnf) <;> (first | exact cl2 | refine Br.dec (fun hc => absurd hc hno) (fun hc => ?_) | refine XAlt.l ?_ | refine Sq.pr ?_ | refine Br.dec (fun hc => ?_) (fun hc => ?_) | refine Br.tt ?_ | refine Br.ff ?_ | refine Br.not ?_ | refine Br.mk (fun hc => ?_) (fun hc => ?_) | refine Opt.nn ?_ | refine Opt.ss ?_ | refine AltA.l ?_ | exact PV.leL_nil | refine PV.leL_cons ?_ ?_ | refine And.intro ?_ ?_ | refine ix_map (fun x hx => ?_) | refine exU8 ?_ | refine nilc (fun hn => ?_) ?_ | exact cl3 | refine imp0 (fun hpos => ?_) | refine fits_i64 ?_ ?_ | exact rfl | exact trivial | (with_reducible first | show LeG _ _ | show Lp _ _ _ _ | show Exists _ | show callX _ _ _ _ _)))) <;> (try exact cl5)
        show LeG (PV.tup [PV.sl 0 true [], PV.bool false, eI 0]) (eC ((conF S P who).1, (conF S P who).2, 0))
        rw [← hq, show S.length + 1 - kk = (S.length - kk) + 1 by omega, srch_none hw]
        exact LeG.mk (PV.le_tup (PV.leL_cons (PV.le_nil _ _ _) (PV.leL_cons (PV.le_refl _) (PV.leL_cons (PV.le_refl _) PV.leL_nil))))
      | some w =>
        have hlt : kk < ways.length := (List.getElem?_eq_some_iff.1 hw).1
        have hyes : ((kk : Int) < ((ways.length : Nat) : Int)) := by omega
        have hwm := hok.mem w (List.mem_of_getElem? hw)
        rw [show S.length + 1 - kk = (S.length - kk) + 1 by omega, srch_some hw] at hq
        have qb := has_calls P w.to hP
        cases hb : hasB P w.to with
        | true =>
          rw [hb] at qb
          rw [hb, if_pos rfl] at hq
          repeat' (first | exact cl1 | ((with_reducible show Exists _); first | exact exHM _ | refine exU8 ?_) | ((with_reducible show callX _ _ _ _ _); (first | refine call_p (qb) (by kernel_rfl) rfl ?_)) | ((fail_if_success with_reducible first | show LeG _ _ | show Lp _ _ _ _ | show Exists _ | show callX _ _ _ _ _ | show (_ : Int) ≤ _ | show (_ : Int) < _ | show (_ : Nat) ≤ _ | show (_ : Nat) < _); (conv => whnf) <;> (first | exact cl2 | refine Br.dec (fun hc => ?_) (fun hc => absurd hyes hc) | refine ix_rw hw ?_ | refine XAlt.l ?_ | refine Sq.pr ?_ | refine Br.dec (fun hc => ?_) (fun hc => ?_) | refine Br.tt ?_ | refine Br.ff ?_ | refine Br.not ?_ | refine Br.mk (fun hc => ?_) (fun hc => ?_) | refine Opt.nn ?_ | refine Opt.ss ?_ | refine AltA.l ?_ | exact PV.leL_nil | refine PV.leL_cons ?_ ?_ | refine And.intro ?_ ?_ | refine ix_map (fun x hx => ?_) | refine exU8 ?_ | refine nilc (fun hn => ?_) ?_ | exact cl3 | refine imp0 (fun hpos => ?_) | refine fits_i64 ?_ ?_ | exact rfl | exact trivial | (with_reducible first | show LeG _ _ | show Lp _ _ _ _ | show Exists _ | show callX _ _ _ _ _)))) <;> (try exact cl5)
          show LeG (PV.tup [eIs w.path, PV.bool true, eI 0]) (eC ((conF S P who).1, (conF S P who).2, 0))
          rw [← hq]; exact LeG.refl _
        | false =>
          rw [hb] at qb
          rw [hb, if_neg Bool.false_ne_true] at hq
          by_cases h8 : w.path.length = 8
          · rw [if_pos h8] at hq
            have h8' : ((w.path.map eI).length : Int) = 8 := by rw [List.length_map]; omega
            repeat' (first | exact cl1 | ((with_reducible show Exists _); first | exact exHM _ | refine exU8 ?_) | ((with_reducible show callX _ _ _ _ _); (first | refine call_p (qb) (by kernel_rfl) rfl ?_)) | ((fail_if_success with_reducible first | show LeG _ _ | show Lp _ _ _ _ | show Exists _ | show callX _ _ _ _ _ | show (_ : Int) ≤ _ | show (_ : Int) < _ | show (_ : Nat) ≤ _ | show (_ : Nat) < _); (conv => whnf) <;> (first | exact cl2 | refine Br.dec (fun hc => ?_) (fun hc => absurd hyes hc) | refine Br.dec (fun hc => ?_) (fun hc => absurd h8' hc) | refine ix_rw hw ?_ | refine XAlt.l ?_ | refine Sq.pr ?_ | refine Br.dec (fun hc => ?_) (fun hc => ?_) | refine Br.tt ?_ | refine Br.ff ?_ | refine Br.not ?_ | refine Br.mk (fun hc => ?_) (fun hc => ?_) | refine Opt.nn ?_ | refine Opt.ss ?_ | refine AltA.l ?_ | exact PV.leL_nil | refine PV.leL_cons ?_ ?_ | refine And.intro ?_ ?_ | refine ix_map (fun x hx => ?_) | refine exU8 ?_ | refine nilc (fun hn => ?_) ?_ | exact cl3 | refine imp0 (fun hpos => ?_) | refine fits_i64 ?_ ?_ | exact rfl | exact trivial | (with_reducible first | show LeG _ _ | show Lp _ _ _ _ | show Exists _ | show callX _ _ _ _ _)))) <;> (try exact cl5)
            refine ⟨⟨(ways, kk + 1), hok, hlt, by rw [show S.length + 1 - (kk + 1) = S.length - kk by omega]; exact hq⟩, by show S.length + 1 - (kk + 1) < S.length + 1 - kk; omega, ?_⟩
            (first | refine Ent.ofA [] ?_ | refine Ent.ofC [] ?_) <;> (repeat' (first | exact trivial | refine HpLe.dd ?_ | refine HpLe.mk rfl (by simp) rfl (fun h => AObj.noConfusion h) ?_ ?_ | refine And.intro ?_ ?_ | exact cl9 | refine VLe.pe ?_ | refine VLe.agg ?_ | refine VLe.tup ?_ | refine VLe.fn ?_ ?_ | refine VLeL.cons ?_ ?_ | exact VLeL.nil | exact OLe.row _ _ | rfl | refine VLe.rsle rfl ?_ ?_ ?_ | refine OLe.rowe2 ?_ ?_ | refine OLe.mape ?_ ?_ | refine OLe.iter0 ?_ | refine OLe.itere ?_ ?_ | refine OLe.chane ?_ ?_ | refine OLe.mapSe ?_ ?_ ?_ | exact OLe.mapS0 rfl)) <;> try (first | (simp; done) | (congr 1; omega) | (congr 1; (first | (simp; done) | (simp; omega))))
          · rw [if_neg h8] at hq
            have h8' : ¬ ((w.path.map eI).length : Int) = 8 := by rw [List.length_map]; omega
            repeat' (first | exact cl1 | ((with_reducible show Exists _); first | exact exHM _ | refine exU8 ?_) | ((with_reducible show callX _ _ _ _ _); (first | refine call_p (qb) (by kernel_rfl) rfl ?_)) | ((fail_if_success with_reducible first | show LeG _ _ | show Lp _ _ _ _ | show Exists _ | show callX _ _ _ _ _ | show (_ : Int) ≤ _ | show (_ : Int) < _ | show (_ : Nat) ≤ _ | show (_ : Nat) < _); (conv => whnf) <;> (first | exact cl2 | refine Br.dec (fun hc => ?_) (fun hc => absurd hyes hc) | refine Br.dec (fun hc => absurd hc h8') (fun hc => ?_) | refine ix_rw hw ?_ | refine XAlt.l ?_ | refine Sq.pr ?_ | refine Br.dec (fun hc => ?_) (fun hc => ?_) | refine Br.tt ?_ | refine Br.ff ?_ | refine Br.not ?_ | refine Br.mk (fun hc => ?_) (fun hc => ?_) | refine Opt.nn ?_ | refine Opt.ss ?_ | refine AltA.l ?_ | exact PV.leL_nil | refine PV.leL_cons ?_ ?_ | refine And.intro ?_ ?_ | refine ix_map (fun x hx => ?_) | refine exU8 ?_ | refine nilc (fun hn => ?_) ?_ | exact cl3 | refine imp0 (fun hpos => ?_) | refine fits_i64 ?_ ?_ | exact rfl | exact trivial | (with_reducible first | show LeG _ _ | show Lp _ _ _ _ | show Exists _ | show callX _ _ _ _ _)))) <;> (try exact cl5)
            have hp7 : w.path.length ≤ 7 := by have := hwm.2; omega
            refine Wpc.loopA (α := {i : Nat // i ≤ S.length}) mixed [0, 1, 2, 3, 4, 10, 11, 12, 13, 14, 15, 16, 17, 18, 26, 36, 53, 71, 80, 92, 96, 116] (fun i => [(15, .rsl 1088 2 0 (expW w (frm (S.take i.1) w.to) ways).length), (18, .p (eI i.1))]) (fun i => [(1088, .row 2 ((expW w (frm (S.take i.1) w.to) ways).map eW))]) (fun _ => 0) (fun i => S.length - i.1) ⟨0, by omega⟩ ?_ ?_
            · (first | refine Ent.ofA [] ?_ | refine Ent.ofC [] ?_) <;> (repeat' (first | exact trivial | refine HpLe.dd ?_ | refine HpLe.mk rfl (by simp) rfl (fun h => AObj.noConfusion h) ?_ ?_ | refine And.intro ?_ ?_ | exact cl9 | refine VLe.pe ?_ | refine VLe.agg ?_ | refine VLe.tup ?_ | refine VLe.fn ?_ ?_ | refine VLeL.cons ?_ ?_ | exact VLeL.nil | exact OLe.row _ _ | rfl | refine VLe.rsle rfl ?_ ?_ ?_ | refine OLe.rowe2 ?_ ?_ | refine OLe.mape ?_ ?_ | refine OLe.iter0 ?_ | refine OLe.itere ?_ ?_ | refine OLe.chane ?_ ?_ | refine OLe.mapSe ?_ ?_ ?_ | exact OLe.mapS0 rfl)) <;> try (first | (simp; done) | (congr 1; omega) | (congr 1; (first | (simp; done) | (simp; omega))))
            rintro ⟨i, hi⟩
            have hi : i ≤ S.length := hi
            have hoki : OkW S (expW w (frm (S.take i) w.to) ways) := expF_ok hok hp7 w.to i
            have hwi : (expW w (frm (S.take i) w.to) ways)[kk]? = some w := expF_get hw w.to i
            have hli := hoki.len
            have hli2 : (expW w (frm (S.take i) w.to) ways).length < 1000000 := by omega
            cases hxi : S[i]? with
            | none =>
              have hge : S.length ≤ i := List.getElem?_eq_none_iff.1 hxi
              have hno : ¬ ((i : Int) < ((S.map eA).length : Int)) := by rw [List.length_map]; omega
              have ew : expW w (frm (S.take i) w.to) ways = expW w (frm S w.to) ways := by rw [List.take_of_length_le hge]
              repeat' (first | exact cl1 | ((with_reducible show Exists _); first | exact exHM _ | refine exU8 ?_) | ((fail_if_success with_reducible first | show LeG _ _ | show Lp _ _ _ _ | show Exists _ | show callX _ _ _ _ _ | show (_ : Int) ≤ _ | show (_ : Int) < _ | show (_ : Nat) ≤ _ | show (_ : Nat) < _); (conv => whnf) <;> (first | exact cl2 | refine Br.dec (fun hc => absurd hc hno) (fun hc => ?_) | refine XAlt.l ?_ | refine Sq.pr ?_ | refine Br.dec (fun hc => ?_) (fun hc => ?_) | refine Br.tt ?_ | refine Br.ff ?_ | refine Br.not ?_ | refine Br.mk (fun hc => ?_) (fun hc => ?_) | refine Opt.nn ?_ | refine Opt.ss ?_ | refine AltA.l ?_ | exact PV.leL_nil | refine PV.leL_cons ?_ ?_ | refine And.intro ?_ ?_ | refine ix_map (fun x hx => ?_) | refine exU8 ?_ | refine nilc (fun hn => ?_) ?_ | exact cl3 | refine imp0 (fun hpos => ?_) | refine fits_i64 ?_ ?_ | exact rfl | exact trivial | (with_reducible first | show LeG _ _ | show Lp _ _ _ _ | show Exists _ | show callX _ _ _ _ _)))) <;> (try exact cl5)
              rw [ew] at hoki hwi hli ⊢
              have hkG : kk < (expW w (frm S w.to) ways).length := (List.getElem?_eq_some_iff.1 hwi).1
              refine ⟨⟨(expW w (frm S w.to) ways, kk + 1), hoki, hkG, by rw [show S.length + 1 - (kk + 1) = S.length - kk by omega]; exact hq⟩, by show S.length + 1 - (kk + 1) < S.length + 1 - kk; omega, ?_⟩
              (first | refine Ent.ofA [] ?_ | refine Ent.ofC [] ?_) <;> (repeat' (first | exact trivial | refine HpLe.dd ?_ | refine HpLe.mk rfl (by simp) rfl (fun h => AObj.noConfusion h) ?_ ?_ | refine And.intro ?_ ?_ | exact cl9 | refine VLe.pe ?_ | refine VLe.agg ?_ | refine VLe.tup ?_ | refine VLe.fn ?_ ?_ | refine VLeL.cons ?_ ?_ | exact VLeL.nil | exact OLe.row _ _ | rfl | refine VLe.rsle rfl ?_ ?_ ?_ | refine OLe.rowe2 ?_ ?_ | refine OLe.mape ?_ ?_ | refine OLe.iter0 ?_ | refine OLe.itere ?_ ?_ | refine OLe.chane ?_ ?_ | refine OLe.mapSe ?_ ?_ ?_ | exact OLe.mapS0 rfl)) <;> try (first | (simp; done) | (congr 1; omega) | (congr 1; (first | (simp; done) | (simp; omega))))
            | some y =>
              have hlti : i < S.length := (List.getElem?_eq_some_iff.1 hxi).1
              have hyi : ((i : Int) < ((S.map eA).length : Int)) := by rw [List.length_map]; omega
              have et := expF_take (p := w.to) (w := w) (ways := ways) hxi
              generalize hG : expW w (frm (S.take i) w.to) ways = G at *
              have hkG : kk < G.length := (List.getElem?_eq_some_iff.1 hwi).1
              have hkG2 : (kk : Int) < ((G.length : Nat) : Int) := by omega
              have hkG3 : 0 + ((kk : Nat) : Int).toNat < (G.map eW).length := by rw [List.length_map]; omega
              cases ho : y.of_ with
              | false =>
                rw [ho, Bool.false_and, if_neg Bool.false_ne_true] at et
                repeat' (first | exact cl1 | ((with_reducible show Exists _); first | exact exHM _ | refine exU8 ?_) | ((fail_if_success with_reducible first | show LeG _ _ | show Lp _ _ _ _ | show Exists _ | show callX _ _ _ _ _ | show (_ : Int) ≤ _ | show (_ : Int) < _ | show (_ : Nat) ≤ _ | show (_ : Nat) < _); (conv => whnf) <;> (first | exact cl2 | refine Br.dec (fun hc => ?_) (fun hc => absurd hyi hc) | refine ix_at hxi ?_ | refine ix_rw hwi ?_ | exact hkG2 | exact hkG3 | refine XAlt.l ?_ | refine Sq.pr ?_ | refine Br.dec (fun hc => ?_) (fun hc => ?_) | refine Br.tt ?_ | refine Br.ff ?_ | refine Br.not ?_ | refine Br.mk (fun hc => ?_) (fun hc => ?_) | refine Opt.nn ?_ | refine Opt.ss ?_ | refine AltA.l ?_ | exact PV.leL_nil | refine PV.leL_cons ?_ ?_ | refine And.intro ?_ ?_ | refine ix_map (fun x hx => ?_) | refine exU8 ?_ | refine nilc (fun hn => ?_) ?_ | exact cl3 | refine imp0 (fun hpos => ?_) | refine fits_i64 ?_ ?_ | exact rfl | exact trivial | (with_reducible first | show LeG _ _ | show Lp _ _ _ _ | show Exists _ | show callX _ _ _ _ _)))) <;> (try exact cl5)
                all_goals first
                | (exfalso; simp_all; done)
                | skip
                refine ⟨⟨i + 1, hlti⟩, by show S.length - (i + 1) < S.length - i; omega, ?_⟩
                show Ent _ _ (hdS _ _ _ _ [(15, .rsl 1088 2 0 (expW w (frm (S.take (i + 1)) w.to) ways).length), (18, .p (eI ((i + 1 : Nat) : Int)))] [(1088, .row 2 ((expW w (frm (S.take (i + 1)) w.to) ways).map eW))] 0)
                rw [et]
                (first | refine Ent.ofA [] ?_ | refine Ent.ofC [] ?_) <;> (repeat' (first | exact trivial | refine HpLe.dd ?_ | refine HpLe.mk rfl (by simp) rfl (fun h => AObj.noConfusion h) ?_ ?_ | refine And.intro ?_ ?_ | exact cl9 | refine VLe.pe ?_ | refine VLe.agg ?_ | refine VLe.tup ?_ | refine VLe.fn ?_ ?_ | refine VLeL.cons ?_ ?_ | exact VLeL.nil | exact OLe.row _ _ | rfl | refine VLe.rsle rfl ?_ ?_ ?_ | refine OLe.rowe2 ?_ ?_ | refine OLe.mape ?_ ?_ | refine OLe.iter0 ?_ | refine OLe.itere ?_ ?_ | refine OLe.chane ?_ ?_ | refine OLe.mapSe ?_ ?_ ?_ | exact OLe.mapS0 rfl)) <;> try (first | (simp; done) | (congr 1; omega) | (congr 1; (first | (simp; done) | (simp; omega))))
              | true =>
                by_cases hpp : y.person = w.to
                · rw [ho, Bool.true_and, decide_eq_true hpp, if_pos rfl] at et
                  cases hm : hasW G y.party with
                  | true =>
                    rw [show putW G ⟨w.path ++ [y.no], y.party⟩ = G by unfold putW; rw [if_pos hm]] at et
                    have pc := rput_old G ⟨w.path ++ [y.no], y.party⟩ (w.path.map eI ++ [eI y.no]) (0 + (w.path.map eI).length + 1) (by simp) (by simp) hli2 hm
                    repeat' (first | exact cl1 | ((with_reducible show Exists _); first | exact exHM _ | refine exU8 ?_) | ((with_reducible show callX _ _ _ _ _); (first | refine call_i [1088, 5120] (pc) (by kernel_rfl) rfl rfl (by decide) cl6 (fun i hi => by match i, hi with | 0, _ => rfl | 1, _ => rfl) cl7 cl8 (by simp [keys]) ?_)) | ((fail_if_success with_reducible first | show LeG _ _ | show Lp _ _ _ _ | show Exists _ | show callX _ _ _ _ _ | show (_ : Int) ≤ _ | show (_ : Int) < _ | show (_ : Nat) ≤ _ | show (_ : Nat) < _); (conv => whnf) <;> (first | exact cl2 | refine Br.dec (fun hc => ?_) (fun hc => absurd hyi hc) | refine Br.dec (fun hc => ?_) (fun hc => absurd hpp hc) | refine ix_at hxi ?_ | refine ix_rw hwi ?_ | exact hkG2 | exact hkG3 | refine XAlt.l ?_ | refine Sq.pr ?_ | refine Br.dec (fun hc => ?_) (fun hc => ?_) | refine Br.tt ?_ | refine Br.ff ?_ | refine Br.not ?_ | refine Br.mk (fun hc => ?_) (fun hc => ?_) | refine Opt.nn ?_ | refine Opt.ss ?_ | refine AltA.l ?_ | exact PV.leL_nil | refine PV.leL_cons ?_ ?_ | refine And.intro ?_ ?_ | refine ix_map (fun x hx => ?_) | refine exU8 ?_ | refine nilc (fun hn => ?_) ?_ | exact cl3 | refine imp0 (fun hpos => ?_) | refine fits_i64 ?_ ?_ | exact rfl | exact trivial | (with_reducible first | show LeG _ _ | show Lp _ _ _ _ | show Exists _ | show callX _ _ _ _ _)))) <;> (try exact cl5)
                    all_goals first
                    | (exfalso; simp_all; done)
                    | skip
                    refine ⟨⟨i + 1, hlti⟩, by show S.length - (i + 1) < S.length - i; omega, ?_⟩
                    show Ent _ _ (hdS _ _ _ _ [(15, .rsl 1088 2 0 (expW w (frm (S.take (i + 1)) w.to) ways).length), (18, .p (eI ((i + 1 : Nat) : Int)))] [(1088, .row 2 ((expW w (frm (S.take (i + 1)) w.to) ways).map eW))] 0)
                    rw [et]
                    (first | refine Ent.ofA [] ?_ | refine Ent.ofC [] ?_) <;> (repeat' (first | exact trivial | refine HpLe.dd ?_ | refine HpLe.mk rfl (by simp) rfl (fun h => AObj.noConfusion h) ?_ ?_ | refine And.intro ?_ ?_ | exact cl9 | refine VLe.pe ?_ | refine VLe.agg ?_ | refine VLe.tup ?_ | refine VLe.fn ?_ ?_ | refine VLeL.cons ?_ ?_ | exact VLeL.nil | exact OLe.row _ _ | rfl | refine VLe.rsle rfl ?_ ?_ ?_ | refine OLe.rowe2 ?_ ?_ | refine OLe.mape ?_ ?_ | refine OLe.iter0 ?_ | refine OLe.itere ?_ ?_ | refine OLe.chane ?_ ?_ | refine OLe.mapSe ?_ ?_ ?_ | exact OLe.mapS0 rfl)) <;> try (first | (simp; done) | (congr 1; omega) | (congr 1; (first | (simp; done) | (simp; omega))))
                  | false =>
                    rw [show putW G ⟨w.path ++ [y.no], y.party⟩ = G ++ [⟨w.path ++ [y.no], y.party⟩] by unfold putW; rw [if_neg (by rw [hm]; exact Bool.false_ne_true)]] at et
                    have pc := rput_new G ⟨w.path ++ [y.no], y.party⟩ (w.path.map eI ++ [eI y.no]) (0 + (w.path.map eI).length + 1) (by simp) (by simp) hli2 (by simp; omega) hm
                    repeat' (first | exact cl1 | ((with_reducible show Exists _); first | exact exHM _ | refine exU8 ?_) | ((with_reducible show callX _ _ _ _ _); (first | refine call_i [1088, 5120] (pc) (by kernel_rfl) rfl rfl (by decide) cl6 (fun i hi => by match i, hi with | 0, _ => rfl | 1, _ => rfl) cl7 cl8 (by simp [keys]) ?_)) | ((fail_if_success with_reducible first | show LeG _ _ | show Lp _ _ _ _ | show Exists _ | show callX _ _ _ _ _ | show (_ : Int) ≤ _ | show (_ : Int) < _ | show (_ : Nat) ≤ _ | show (_ : Nat) < _); (conv => whnf) <;> (first | exact cl2 | refine Br.dec (fun hc => ?_) (fun hc => absurd hyi hc) | refine Br.dec (fun hc => ?_) (fun hc => absurd hpp hc) | refine ix_at hxi ?_ | refine ix_rw hwi ?_ | exact hkG2 | exact hkG3 | refine XAlt.l ?_ | refine Sq.pr ?_ | refine Br.dec (fun hc => ?_) (fun hc => ?_) | refine Br.tt ?_ | refine Br.ff ?_ | refine Br.not ?_ | refine Br.mk (fun hc => ?_) (fun hc => ?_) | refine Opt.nn ?_ | refine Opt.ss ?_ | refine AltA.l ?_ | exact PV.leL_nil | refine PV.leL_cons ?_ ?_ | refine And.intro ?_ ?_ | refine ix_map (fun x hx => ?_) | refine exU8 ?_ | refine nilc (fun hn => ?_) ?_ | exact cl3 | refine imp0 (fun hpos => ?_) | refine fits_i64 ?_ ?_ | exact rfl | exact trivial | (with_reducible first | show LeG _ _ | show Lp _ _ _ _ | show Exists _ | show callX _ _ _ _ _)))) <;> (try exact cl5)
                    all_goals first
                    | (exfalso; simp_all; done)
                    | skip
                    refine ⟨⟨i + 1, hlti⟩, by show S.length - (i + 1) < S.length - i; omega, ?_⟩
                    show Ent _ _ (hdS _ _ _ _ [(15, .rsl 1088 2 0 (expW w (frm (S.take (i + 1)) w.to) ways).length), (18, .p (eI ((i + 1 : Nat) : Int)))] [(1088, .row 2 ((expW w (frm (S.take (i + 1)) w.to) ways).map eW))] 0)
                    rw [et]
                    (first | refine Ent.ofA [] ?_ | refine Ent.ofC [] ?_) <;> (repeat' (first | exact trivial | refine HpLe.dd ?_ | refine HpLe.mk rfl (by simp) rfl (fun h => AObj.noConfusion h) ?_ ?_ | refine And.intro ?_ ?_ | exact cl9 | refine VLe.pe ?_ | refine VLe.agg ?_ | refine VLe.tup ?_ | refine VLe.fn ?_ ?_ | refine VLeL.cons ?_ ?_ | exact VLeL.nil | exact OLe.row _ _ | rfl | refine VLe.rsle rfl ?_ ?_ ?_ | refine OLe.rowe2 ?_ ?_ | refine OLe.mape ?_ ?_ | refine OLe.iter0 ?_ | refine OLe.itere ?_ ?_ | refine OLe.chane ?_ ?_ | refine OLe.mapSe ?_ ?_ ?_ | exact OLe.mapS0 rfl)) <;> try (first | (simp; done) | (congr 1; omega) | (congr 1; (first | (simp; done) | (simp; omega))))
                · rw [ho, Bool.true_and, decide_eq_false hpp, if_neg Bool.false_ne_true] at et
                  repeat' (first | exact cl1 | ((with_reducible show Exists _); first | exact exHM _ | refine exU8 ?_) | ((fail_if_success with_reducible first | show LeG _ _ | show Lp _ _ _ _ | show Exists _ | show callX _ _ _ _ _ | show (_ : Int) ≤ _ | show (_ : Int) < _ | show (_ : Nat) ≤ _ | show (_ : Nat) < _); (conv => whnf) <;> (first | exact cl2 | refine Br.dec (fun hc => ?_) (fun hc => absurd hyi hc) | refine Br.dec (fun hc => absurd hc hpp) (fun hc => ?_) | refine ix_at hxi ?_ | refine ix_rw hwi ?_ | exact hkG2 | exact hkG3 | refine XAlt.l ?_ | refine Sq.pr ?_ | refine Br.dec (fun hc => ?_) (fun hc => ?_) | refine Br.tt ?_ | refine Br.ff ?_ | refine Br.not ?_ | refine Br.mk (fun hc => ?_) (fun hc => ?_) | refine Opt.nn ?_ | refine Opt.ss ?_ | refine AltA.l ?_ | exact PV.leL_nil | refine PV.leL_cons ?_ ?_ | refine And.intro ?_ ?_ | refine ix_map (fun x hx => ?_) | refine exU8 ?_ | refine nilc (fun hn => ?_) ?_ | exact cl3 | refine imp0 (fun hpos => ?_) | refine fits_i64 ?_ ?_ | exact rfl | exact trivial | (with_reducible first | show LeG _ _ | show Lp _ _ _ _ | show Exists _ | show callX _ _ _ _ _)))) <;> (try exact cl5)
                  all_goals first
                  | (exfalso; simp_all; done)
                  | skip
                  refine ⟨⟨i + 1, hlti⟩, by show S.length - (i + 1) < S.length - i; omega, ?_⟩
                  show Ent _ _ (hdS _ _ _ _ [(15, .rsl 1088 2 0 (expW w (frm (S.take (i + 1)) w.to) ways).length), (18, .p (eI ((i + 1 : Nat) : Int)))] [(1088, .row 2 ((expW w (frm (S.take (i + 1)) w.to) ways).map eW))] 0)
                  rw [et]
                  (first | refine Ent.ofA [] ?_ | refine Ent.ofC [] ?_) <;> (repeat' (first | exact trivial | refine HpLe.dd ?_ | refine HpLe.mk rfl (by simp) rfl (fun h => AObj.noConfusion h) ?_ ?_ | refine And.intro ?_ ?_ | exact cl9 | refine VLe.pe ?_ | refine VLe.agg ?_ | refine VLe.tup ?_ | refine VLe.fn ?_ ?_ | refine VLeL.cons ?_ ?_ | exact VLeL.nil | exact OLe.row _ _ | rfl | refine VLe.rsle rfl ?_ ?_ ?_ | refine OLe.rowe2 ?_ ?_ | refine OLe.mape ?_ ?_ | refine OLe.iter0 ?_ | refine OLe.itere ?_ ?_ | refine OLe.chane ?_ ?_ | refine OLe.mapSe ?_ ?_ ?_ | exact OLe.mapS0 rfl)) <;> try (first | (simp; done) | (congr 1; omega) | (congr 1; (first | (simp; done) | (simp; omega))))
  · rw [if_neg hz]
    refine PCalls.of (N := 139) (res := [.tmp 10, .tmp 11, .tmp 12]) mixed Try.func17 rfl rfl rfl (by kernel_rfl) (by simp) [0, 1, 2, 3, 4, 10, 11, 12, 13, 14, 15, 16, 17, 18, 26, 36, 53, 71, 80, 92, 96, 116] ?_
    repeat' (first | exact cl1 | ((with_reducible show Exists _); first | exact exHM _ | refine exU8 ?_) | ((with_reducible show callX _ _ _ _ _); (first | refine call_p (q1) (by kernel_rfl) rfl ?_)) | ((fail_if_success with_reducible first | show LeG _ _ | show Lp _ _ _ _ | show Exists _ | show callX _ _ _ _ _ | show (_ : Int) ≤ _ | show (_ : Int) < _ | show (_ : Nat) ≤ _ | show (_ : Nat) < _); (conv => whnf) <;> (first | exact cl2 | refine XAlt.l ?_ | refine Sq.pr ?_ | refine Br.dec (fun hc => ?_) (fun hc => ?_) | refine Br.tt ?_ | refine Br.ff ?_ | refine Br.not ?_ | refine Br.mk (fun hc => ?_) (fun hc => ?_) | refine Opt.nn ?_ | refine Opt.ss ?_ | refine AltA.l ?_ | exact PV.leL_nil | refine PV.leL_cons ?_ ?_ | refine And.intro ?_ ?_ | refine ix_map (fun x hx => ?_) | refine exU8 ?_ | refine nilc (fun hn => ?_) ?_ | exact cl3 | refine imp0 (fun hpos => ?_) | refine fits_i64 ?_ ?_ | exact rfl | exact trivial | (with_reducible first | show LeG _ _ | show Lp _ _ _ _ | show Exists _ | show callX _ _ _ _ _)))) <;> (try exact cl5)
    all_goals exact LeG.mk (PV.le_tup (PV.leL_cons (PV.le_nil _ _ _) (PV.leL_cons (PV.le_refl _) (PV.leL_cons (PV.le_refl _) PV.leL_nil))))
end Go.Proofs.Ythlpjjnfcpjgoaa

namespace Go.Proofs.Ythlpjjnfcpjgoaa
open Go Go.Sg
set_option maxRecDepth 100000
set_option maxHeartbeats 20000000
theorem byF_mem {F : List It} {n : Int} {x : It} : ∀ i, aget n (byF (F.take i)) = some x → x ∈ F ∧ x.no = n := by
  intro i
  induction i with
  | zero => intro h; cases h
  | succ i ih =>
    cases hx : F[i]? with
    | none => rw [List.take_add_one, hx]; simpa using ih
    | some y =>
      intro h
      rw [byF_take hx, aget_put] at h
      split at h
      · rename_i e
        injection h with h
        subst h
        exact ⟨List.mem_of_getElem? hx, e.symm⟩
      · exact ih h
theorem byF_get {F : List It} (hs : F.Pairwise (fun a b => a.no < b.no)) {n : Int} {x : It} : aget n (byF F) = some x ↔ x ∈ F ∧ x.no = n := by
  constructor
  · intro h
    have := byF_mem (F := F) (n := n) (x := x) F.length
    rw [List.take_length] at this
    exact this h
  · rintro ⟨hx, hn⟩
    obtain ⟨j, hj⟩ := List.getElem?_of_mem hx
    have key : ∀ i, j < i → aget n (byF (F.take i)) = some x := by
      intro i
      induction i with
      | zero => intro h; omega
      | succ i ih =>
        intro hji
        cases hy : F[i]? with
        | none =>
          have := (List.getElem?_eq_some_iff.1 hj).1
          have := List.getElem?_eq_none_iff.1 hy
          rw [List.take_add_one, hy, Option.toList_none, List.append_nil]
          exact ih (by omega)
        | some y =>
          rw [byF_take hy, aget_put]
          by_cases hij : i = j
          · subst hij
            rw [hj] at hy; injection hy with hy; subst hy
            rw [if_pos hn.symm]
          · have hlt := srt_lt It.no hs (show j < i by omega) hj hy
            rw [if_neg (by omega)]
            exact ih (by omega)
    have := key F.length (List.getElem?_eq_some_iff.1 hj).1
    rwa [List.take_length] at this
/-- One step of the reference: an entry that stands, of this number, from `p`. -/
def stpB (t k : Int) (l : List It) (no : Int) (b : Bool) (p : Int) (x : It) : Bool := decide (x.no = no) && stR t k l x && (x.of_ == b) && decide (x.person = p)
def provR (t k : Int) (l : List It) : Bool → List Int → Int → Option Int
  | _, [], p => some p
  | b, no :: r, p => match l.find? (stpB t k l no b p) with
    | none => none
    | some x => provR t k l true r x.party
theorem provR_eq {t k : Int} {l : List It} (ht : 0 ≤ t) (hk : 0 ≤ k) (hz : chkA l = 0) : ∀ (path : List Int) (b : Bool) (p : Int), provR t k l b path p = provF (byF (stL t k l)) b path p := by
  obtain ⟨_, hr, hs⟩ := chkA_srt hz
  have hss : (stL t k l).Pairwise (fun a b => a.no < b.no) := List.Pairwise.sublist List.filter_sublist hs
  have hst : ∀ x, x ∈ stL t k l ↔ x ∈ l ∧ stR t k l x = true := fun x => by rw [← stL_eq ht hk hz, List.mem_filter]
  intro path
  induction path with
  | nil => intro b p; rfl
  | cons no r ih =>
    intro b p
    unfold provR provF
    cases hf : l.find? (stpB t k l no b p) with
    | none =>
      have hno := List.find?_eq_none.1 hf
      cases hg : aget no (byF (stL t k l)) with
      | none => rfl
      | some x =>
        obtain ⟨hxS, hxn⟩ := (byF_get hss).1 hg
        obtain ⟨hxl, hxr⟩ := (hst x).1 hxS
        have := hno x hxl
        unfold stpB at this
        rw [decide_eq_true hxn, hxr] at this
        show none = if x.of_ = b then (if x.person = p then provF (byF (stL t k l)) true r x.party else none) else none
        by_cases h1 : x.of_ = b
        · rw [if_pos h1]
          by_cases h2 : x.person = p
          · exfalso; apply this; rw [h1, decide_eq_true h2]; cases b <;> rfl
          · rw [if_neg h2]
        · rw [if_neg h1]
    | some x =>
      have hx := List.find?_some hf
      have hxl := List.mem_of_find?_eq_some hf
      unfold stpB at hx
      simp only [Bool.and_eq_true, decide_eq_true_eq, beq_iff_eq] at hx
      obtain ⟨⟨⟨h1, h2⟩, h3⟩, h4⟩ := hx
      have hg := (byF_get hss).2 ⟨(hst x).2 ⟨hxl, h2⟩, h1⟩
      rw [hg]
      show provR t k l true r x.party = if x.of_ = b then (if x.person = p then provF (byF (stL t k l)) true r x.party else none) else none
      rw [if_pos h3, if_pos h4]; exact ih true x.party
theorem find_take {α : Type} {p : α → Bool} {l : List α} {i : Nat} {x : α} (h : l[i]? = some x) : (l.take (i + 1)).find? p = match (l.take i).find? p with
    | some y => some y
    | none => if p x then some x else none := by
  rw [List.take_add_one, h, List.find?_append]
  cases (l.take i).find? p with
  | some y => rfl
  | none => show List.find? p [x] = _; rw [List.find?_singleton]
def refA (l : List It) (who : Int) (P : List Int) (t k : Int) (p : List Int) : Bool := match provR t k l false p who with
  | none => false
  | some z => hasB P z
theorem rproves_calls (l : List It) (who : Int) (P : List Int) (t k : Int) (p : List Int) (hl : l.length < 1000000) (hP : P.length < 1000000) : PCalls Try.prog 19 [eL l, eI who, eIs P, eI t, eI k, eIs p] (eP (provA l who P t k p)) := by
  have q1 := rError_calls l who P t k hl hP
  unfold provA
  by_cases hz : examA l who P t k = 0
  · rw [hz] at q1
    rw [if_pos hz]
    obtain ⟨hchk, harg⟩ := examA_ok hz
    have htk : 0 ≤ t ∧ 0 ≤ k := by
      unfold argB wiB at harg
      simp only [Bool.and_eq_true, decide_eq_true_eq] at harg
      omega
    by_cases hp : 1 ≤ p.length ∧ p.length ≤ 8
    · rw [if_pos hp]
      have hp1 : ¬ ((p.map eI).length : Int) < 1 := by rw [List.length_map]; omega
      have hp9 : ¬ (8 : Int) < ((p.map eI).length : Int) := by rw [List.length_map]; omega
      have eG : provG (byF (stL t k l)) P p who = refA l who P t k p := by
        unfold provG refA; rw [provR_eq htk.1 htk.2 hchk]; rfl
      rw [eG]
      refine PCalls.of (N := 102) (res := [.tmp 12, .tmp 13]) mixed Try.func19 rfl rfl rfl (by kernel_rfl) (by simp) [0, 1, 2, 3, 4, 5, 12, 13, 14, 15, 16, 17, 18, 26, 35, 40, 46, 91, 98] ?_
      repeat' (first | exact cl1 | ((with_reducible show Exists _); first | exact exHM _ | refine exU8 ?_) | ((with_reducible show callX _ _ _ _ _); (first | refine call_p (q1) (by kernel_rfl) rfl ?_)) | ((fail_if_success with_reducible first | show LeG _ _ | show Lp _ _ _ _ | show Exists _ | show callX _ _ _ _ _ | show (_ : Int) ≤ _ | show (_ : Int) < _ | show (_ : Nat) ≤ _ | show (_ : Nat) < _); (conv => whnf) <;> (first | exact cl2 | refine Br.dec (fun hc => absurd hc hp1) (fun hc => ?_) | refine Br.dec (fun hc => absurd hc hp9) (fun hc => ?_) | refine XAlt.l ?_ | refine Sq.pr ?_ | refine Br.dec (fun hc => ?_) (fun hc => ?_) | refine Br.tt ?_ | refine Br.ff ?_ | refine Br.not ?_ | refine Br.mk (fun hc => ?_) (fun hc => ?_) | refine Opt.nn ?_ | refine Opt.ss ?_ | refine AltA.l ?_ | exact PV.leL_nil | refine PV.leL_cons ?_ ?_ | refine And.intro ?_ ?_ | refine ix_map (fun x hx => ?_) | refine exU8 ?_ | refine nilc (fun hn => ?_) ?_ | exact cl3 | refine imp0 (fun hpos => ?_) | refine fits_i64 ?_ ?_ | exact rfl | exact trivial | (with_reducible first | show LeG _ _ | show Lp _ _ _ _ | show Exists _ | show callX _ _ _ _ _)))) <;> (try exact cl5)
      refine Wpc.loopA (α := {x : Nat × Int // x.1 ≤ p.length ∧ provR t k l (decide (0 < x.1)) (p.drop x.1) x.2 = provR t k l false p who}) mixed [0, 1, 2, 3, 4, 5, 12, 13, 14, 15, 16, 17, 18, 26, 35, 40, 46, 91, 98] (fun x => [(15, .p (eI x.1.2)), (16, .p (eI x.1.1))]) (fun _ => []) (fun _ => 0) (fun x => p.length - x.1.1) ⟨(0, who), Nat.zero_le _, rfl⟩ ?_ ?_
      · (first | refine Ent.ofA [] ?_ | refine Ent.ofC [] ?_) <;> (repeat' (first | exact trivial | refine HpLe.dd ?_ | refine HpLe.mk rfl (by simp) rfl (fun h => AObj.noConfusion h) ?_ ?_ | refine And.intro ?_ ?_ | exact cl9 | refine VLe.pe ?_ | refine VLe.agg ?_ | refine VLe.tup ?_ | refine VLe.fn ?_ ?_ | refine VLeL.cons ?_ ?_ | exact VLeL.nil | exact OLe.row _ _ | rfl | refine VLe.rsle rfl ?_ ?_ ?_ | refine OLe.rowe2 ?_ ?_ | refine OLe.mape ?_ ?_ | refine OLe.iter0 ?_ | refine OLe.itere ?_ ?_ | refine OLe.chane ?_ ?_ | refine OLe.mapSe ?_ ?_ ?_ | exact OLe.mapS0 rfl)) <;> try (first | (simp; done) | (congr 1; omega) | (congr 1; (first | (simp; done) | (simp; omega))))
      rintro ⟨⟨i, g⟩, hi, hq⟩
      have hi : i ≤ p.length := hi
      have hq : provR t k l (decide (0 < i)) (p.drop i) g = provR t k l false p who := hq
      cases hxi : p[i]? with
      | none =>
        have hge : p.length ≤ i := List.getElem?_eq_none_iff.1 hxi
        have hno : ¬ ((i : Int) < ((p.map eI).length : Int)) := by rw [List.length_map]; omega
        have hd : p.drop i = [] := List.drop_eq_nil_of_le hge
        have q3 := has_calls P g hP
        rw [hd] at hq
        repeat' (first | exact cl1 | ((with_reducible show Exists _); first | exact exHM _ | refine exU8 ?_) | ((with_reducible show callX _ _ _ _ _); (first | refine call_p (q3) (by kernel_rfl) rfl ?_)) | ((fail_if_success with_reducible first | show LeG _ _ | show Lp _ _ _ _ | show Exists _ | show callX _ _ _ _ _ | show (_ : Int) ≤ _ | show (_ : Int) < _ | show (_ : Nat) ≤ _ | show (_ : Nat) < _); (conv => whnf) <;> (first | exact cl2 | refine Br.dec (fun hc => absurd hc hno) (fun hc => ?_) | refine XAlt.l ?_ | refine Sq.pr ?_ | refine Br.dec (fun hc => ?_) (fun hc => ?_) | refine Br.tt ?_ | refine Br.ff ?_ | refine Br.not ?_ | refine Br.mk (fun hc => ?_) (fun hc => ?_) | refine Opt.nn ?_ | refine Opt.ss ?_ | refine AltA.l ?_ | exact PV.leL_nil | refine PV.leL_cons ?_ ?_ | refine And.intro ?_ ?_ | refine ix_map (fun x hx => ?_) | refine exU8 ?_ | refine nilc (fun hn => ?_) ?_ | exact cl3 | refine imp0 (fun hpos => ?_) | refine fits_i64 ?_ ?_ | exact rfl | exact trivial | (with_reducible first | show LeG _ _ | show Lp _ _ _ _ | show Exists _ | show callX _ _ _ _ _)))) <;> (try exact cl5)
        show LeG (.tup [.bool (hasB P g), eI 0]) (.tup [.bool (refA l who P t k p), eI 0])
        unfold refA; rw [← hq]; exact LeG.refl _
      | some no =>
        have hlt : i < p.length := (List.getElem?_eq_some_iff.1 hxi).1
        have hyes : ((i : Int) < ((p.map eI).length : Int)) := by rw [List.length_map]; omega
        have hd : p.drop i = no :: p.drop (i + 1) := by
          rw [List.drop_eq_getElem_cons hlt, (List.getElem?_eq_some_iff.1 hxi).2]
        rw [hd] at hq
        obtain ⟨b, hb⟩ : ∃ b, decide (0 < i) = b := ⟨_, rfl⟩
        rw [hb] at hq
        have hbI : decide ((0 : Int) < (i : Int)) = b := by rw [← hb]; exact decide_eq_decide.2 (by omega)
        repeat' (first | exact cl1 | ((with_reducible show Exists _); first | exact exHM _ | refine exU8 ?_) | ((fail_if_success with_reducible first | show LeG _ _ | show Lp _ _ _ _ | show Exists _ | show callX _ _ _ _ _ | show (_ : Int) ≤ _ | show (_ : Int) < _ | show (_ : Nat) ≤ _ | show (_ : Nat) < _); (conv => whnf) <;> (first | exact cl2 | refine Br.dec (fun hc => ?_) (fun hc => absurd hyes hc) | refine XAlt.l ?_ | refine Sq.pr ?_ | refine Br.dec (fun hc => ?_) (fun hc => ?_) | refine Br.tt ?_ | refine Br.ff ?_ | refine Br.not ?_ | refine Br.mk (fun hc => ?_) (fun hc => ?_) | refine Opt.nn ?_ | refine Opt.ss ?_ | refine AltA.l ?_ | exact PV.leL_nil | refine PV.leL_cons ?_ ?_ | refine And.intro ?_ ?_ | refine ix_map (fun x hx => ?_) | refine exU8 ?_ | refine nilc (fun hn => ?_) ?_ | exact cl3 | refine imp0 (fun hpos => ?_) | refine fits_i64 ?_ ?_ | exact rfl | exact trivial | (with_reducible first | show LeG _ _ | show Lp _ _ _ _ | show Exists _ | show callX _ _ _ _ _)))) <;> (try exact cl5)
        refine Wpc.loopA (α := {j : Nat // j ≤ l.length}) mixed [0, 1, 2, 3, 4, 5, 12, 13, 14, 15, 16, 17, 18, 26, 35, 40, 46, 91, 98] (fun j => [(15, .p (eI (((((l.take j.1).find? (stpB t k l no b g)).map It.party).getD g)))), (17, .p (.bool ((l.take j.1).find? (stpB t k l no b g)).isSome)), (18, .p (eI j.1))]) (fun _ => []) (fun _ => 0) (fun j => l.length - j.1) ⟨0, by omega⟩ ?_ ?_
        · (first | refine Ent.ofA [] ?_ | refine Ent.ofC [] ?_) <;> (repeat' (first | exact trivial | refine HpLe.dd ?_ | refine HpLe.mk rfl (by simp) rfl (fun h => AObj.noConfusion h) ?_ ?_ | refine And.intro ?_ ?_ | exact cl9 | refine VLe.pe ?_ | refine VLe.agg ?_ | refine VLe.tup ?_ | refine VLe.fn ?_ ?_ | refine VLeL.cons ?_ ?_ | exact VLeL.nil | exact OLe.row _ _ | rfl | refine VLe.rsle rfl ?_ ?_ ?_ | refine OLe.rowe2 ?_ ?_ | refine OLe.mape ?_ ?_ | refine OLe.iter0 ?_ | refine OLe.itere ?_ ?_ | refine OLe.chane ?_ ?_ | refine OLe.mapSe ?_ ?_ ?_ | exact OLe.mapS0 rfl)) <;> try (first | (simp; done) | (congr 1; omega) | (congr 1; (first | (simp; done) | (simp; omega))))
        rintro ⟨j, hj⟩
        have hj : j ≤ l.length := hj
        cases hxj : l[j]? with
        | none =>
          have hgj : l.length ≤ j := List.getElem?_eq_none_iff.1 hxj
          have hnj : ¬ ((j : Int) < ((l.map eA).length : Int)) := by rw [List.length_map]; omega
          have eT : (l.take j).find? (stpB t k l no b g) = l.find? (stpB t k l no b g) := by rw [List.take_of_length_le hgj]
          cases hf : l.find? (stpB t k l no b g) with
          | none =>
            have hv : provR t k l b (no :: p.drop (i + 1)) g = none := by unfold provR; rw [hf]
            generalize hF : (l.take j).find? (stpB t k l no b g) = F at *
            rw [hf] at eT; subst eT
            repeat' (first | exact cl1 | ((with_reducible show Exists _); first | exact exHM _ | refine exU8 ?_) | ((fail_if_success with_reducible first | show LeG _ _ | show Lp _ _ _ _ | show Exists _ | show callX _ _ _ _ _ | show (_ : Int) ≤ _ | show (_ : Int) < _ | show (_ : Nat) ≤ _ | show (_ : Nat) < _); (conv => whnf) <;> (first | exact cl2 | refine Br.dec (fun hc => absurd hc hnj) (fun hc => ?_) | refine XAlt.l ?_ | refine Sq.pr ?_ | refine Br.dec (fun hc => ?_) (fun hc => ?_) | refine Br.tt ?_ | refine Br.ff ?_ | refine Br.not ?_ | refine Br.mk (fun hc => ?_) (fun hc => ?_) | refine Opt.nn ?_ | refine Opt.ss ?_ | refine AltA.l ?_ | exact PV.leL_nil | refine PV.leL_cons ?_ ?_ | refine And.intro ?_ ?_ | refine ix_map (fun x hx => ?_) | refine exU8 ?_ | refine nilc (fun hn => ?_) ?_ | exact cl3 | refine imp0 (fun hpos => ?_) | refine fits_i64 ?_ ?_ | exact rfl | exact trivial | (with_reducible first | show LeG _ _ | show Lp _ _ _ _ | show Exists _ | show callX _ _ _ _ _)))) <;> (try exact cl5)
            all_goals (show LeG (.tup [.bool false, eI 0]) (.tup [.bool (refA l who P t k p), eI 0]); unfold refA; rw [← hq, hv]; exact LeG.refl _)
          | some x =>
            have hv : provR t k l b (no :: p.drop (i + 1)) g = provR t k l true (p.drop (i + 1)) x.party := by show (match l.find? (stpB t k l no b g) with | none => none | some x => provR t k l true (p.drop (i + 1)) x.party) = _; rw [hf]
            generalize hF : (l.take j).find? (stpB t k l no b g) = F at *
            rw [hf] at eT; subst eT
            repeat' (first | exact cl1 | ((with_reducible show Exists _); first | exact exHM _ | refine exU8 ?_) | ((fail_if_success with_reducible first | show LeG _ _ | show Lp _ _ _ _ | show Exists _ | show callX _ _ _ _ _ | show (_ : Int) ≤ _ | show (_ : Int) < _ | show (_ : Nat) ≤ _ | show (_ : Nat) < _); (conv => whnf) <;> (first | exact cl2 | refine Br.dec (fun hc => absurd hc hnj) (fun hc => ?_) | refine XAlt.l ?_ | refine Sq.pr ?_ | refine Br.dec (fun hc => ?_) (fun hc => ?_) | refine Br.tt ?_ | refine Br.ff ?_ | refine Br.not ?_ | refine Br.mk (fun hc => ?_) (fun hc => ?_) | refine Opt.nn ?_ | refine Opt.ss ?_ | refine AltA.l ?_ | exact PV.leL_nil | refine PV.leL_cons ?_ ?_ | refine And.intro ?_ ?_ | refine ix_map (fun x hx => ?_) | refine exU8 ?_ | refine nilc (fun hn => ?_) ?_ | exact cl3 | refine imp0 (fun hpos => ?_) | refine fits_i64 ?_ ?_ | exact rfl | exact trivial | (with_reducible first | show LeG _ _ | show Lp _ _ _ _ | show Exists _ | show callX _ _ _ _ _)))) <;> (try exact cl5)
            all_goals (refine ⟨⟨(i + 1, x.party), hlt, by rw [show decide (0 < i + 1) = true from by simp, ← hv]; exact hq⟩, by show p.length - (i + 1) < p.length - i; omega, ?_⟩; (first | refine Ent.ofA [] ?_ | refine Ent.ofC [] ?_) <;> (repeat' (first | exact trivial | refine HpLe.dd ?_ | refine HpLe.mk rfl (by simp) rfl (fun h => AObj.noConfusion h) ?_ ?_ | refine And.intro ?_ ?_ | exact cl9 | refine VLe.pe ?_ | refine VLe.agg ?_ | refine VLe.tup ?_ | refine VLe.fn ?_ ?_ | refine VLeL.cons ?_ ?_ | exact VLeL.nil | exact OLe.row _ _ | rfl | refine VLe.rsle rfl ?_ ?_ ?_ | refine OLe.rowe2 ?_ ?_ | refine OLe.mape ?_ ?_ | refine OLe.iter0 ?_ | refine OLe.itere ?_ ?_ | refine OLe.chane ?_ ?_ | refine OLe.mapSe ?_ ?_ ?_ | exact OLe.mapS0 rfl)) <;> try (first | (simp; done) | (congr 1; omega) | (congr 1; (first | (simp; done) | (simp; omega)))))
        | some y =>
          have hltj : j < l.length := (List.getElem?_eq_some_iff.1 hxj).1
          have hyj : ((j : Int) < ((l.map eA).length : Int)) := by rw [List.length_map]; omega
          have et := find_take (p := stpB t k l no b g) hxj
          have q4 := stands_calls l y t k hl
          generalize hF : (l.take j).find? (stpB t k l no b g) = F at *
          cases F with
          | some z =>
            have et2 : (l.take (j + 1)).find? (stpB t k l no b g) = some z := et
            repeat' (first | exact cl1 | ((with_reducible show Exists _); first | exact exHM _ | refine exU8 ?_) | ((fail_if_success with_reducible first | show LeG _ _ | show Lp _ _ _ _ | show Exists _ | show callX _ _ _ _ _ | show (_ : Int) ≤ _ | show (_ : Int) < _ | show (_ : Nat) ≤ _ | show (_ : Nat) < _); (conv => whnf) <;> (first | exact cl2 | refine Br.dec (fun hc => ?_) (fun hc => absurd hyj hc) | refine XAlt.l ?_ | refine Sq.pr ?_ | refine Br.dec (fun hc => ?_) (fun hc => ?_) | refine Br.tt ?_ | refine Br.ff ?_ | refine Br.not ?_ | refine Br.mk (fun hc => ?_) (fun hc => ?_) | refine Opt.nn ?_ | refine Opt.ss ?_ | refine AltA.l ?_ | exact PV.leL_nil | refine PV.leL_cons ?_ ?_ | refine And.intro ?_ ?_ | refine ix_map (fun x hx => ?_) | refine exU8 ?_ | refine nilc (fun hn => ?_) ?_ | exact cl3 | refine imp0 (fun hpos => ?_) | refine fits_i64 ?_ ?_ | exact rfl | exact trivial | (with_reducible first | show LeG _ _ | show Lp _ _ _ _ | show Exists _ | show callX _ _ _ _ _)))) <;> (try exact cl5)
            all_goals first
            | (exfalso; simp_all; done)
            | (refine ⟨⟨j + 1, hltj⟩, by show l.length - (j + 1) < l.length - j; omega, ?_⟩
               show Ent _ _ (hdS _ _ _ _ [(15, .p (eI ((((l.take (j + 1)).find? (stpB t k l no b g)).map It.party).getD g))), (17, .p (.bool ((l.take (j + 1)).find? (stpB t k l no b g)).isSome)), (18, .p (eI ((j + 1 : Nat) : Int)))] [] 0)
               rw [et2]
               (first | refine Ent.ofA [] ?_ | refine Ent.ofC [] ?_) <;> (repeat' (first | exact trivial | refine HpLe.dd ?_ | refine HpLe.mk rfl (by simp) rfl (fun h => AObj.noConfusion h) ?_ ?_ | refine And.intro ?_ ?_ | exact cl9 | refine VLe.pe ?_ | refine VLe.agg ?_ | refine VLe.tup ?_ | refine VLe.fn ?_ ?_ | refine VLeL.cons ?_ ?_ | exact VLeL.nil | exact OLe.row _ _ | rfl | refine VLe.rsle rfl ?_ ?_ ?_ | refine OLe.rowe2 ?_ ?_ | refine OLe.mape ?_ ?_ | refine OLe.iter0 ?_ | refine OLe.itere ?_ ?_ | refine OLe.chane ?_ ?_ | refine OLe.mapSe ?_ ?_ ?_ | exact OLe.mapS0 rfl)) <;> try (first | (simp; done) | (congr 1; omega) | (congr 1; (first | (simp; done) | (simp; omega)))))
          | none =>
            repeat' (first | exact cl1 | ((with_reducible show Exists _); first | exact exHM _ | refine exU8 ?_) | ((with_reducible show callX _ _ _ _ _); (first | refine call_p (q4) (by kernel_rfl) rfl ?_)) | ((fail_if_success with_reducible first | show LeG _ _ | show Lp _ _ _ _ | show Exists _ | show callX _ _ _ _ _ | show (_ : Int) ≤ _ | show (_ : Int) < _ | show (_ : Nat) ≤ _ | show (_ : Nat) < _); (conv => whnf) <;> (first | exact cl2 | refine Br.dec (fun hc => ?_) (fun hc => absurd hyj hc) | refine ix_at hxj ?_ | refine ix_at hxi ?_ | refine XAlt.l ?_ | refine Sq.pr ?_ | refine Br.dec (fun hc => ?_) (fun hc => ?_) | refine Br.tt ?_ | refine Br.ff ?_ | refine Br.not ?_ | refine Br.mk (fun hc => ?_) (fun hc => ?_) | refine Opt.nn ?_ | refine Opt.ss ?_ | refine AltA.l ?_ | exact PV.leL_nil | refine PV.leL_cons ?_ ?_ | refine And.intro ?_ ?_ | refine ix_map (fun x hx => ?_) | refine exU8 ?_ | refine nilc (fun hn => ?_) ?_ | exact cl3 | refine imp0 (fun hpos => ?_) | refine fits_i64 ?_ ?_ | exact rfl | exact trivial | (with_reducible first | show LeG _ _ | show Lp _ _ _ _ | show Exists _ | show callX _ _ _ _ _)))) <;> (try exact cl5)
            all_goals first
            | (have hs : stpB t k l no b g y = true := by simp_all [stpB]
               have et2 : (l.take (j + 1)).find? (stpB t k l no b g) = some y := by rw [et]; show (if stpB t k l no b g y then some y else none) = _; rw [hs]; rfl
               refine ⟨⟨j + 1, hltj⟩, by show l.length - (j + 1) < l.length - j; omega, ?_⟩
               show Ent _ _ (hdS _ _ _ _ [(15, .p (eI ((((l.take (j + 1)).find? (stpB t k l no b g)).map It.party).getD g))), (17, .p (.bool ((l.take (j + 1)).find? (stpB t k l no b g)).isSome)), (18, .p (eI ((j + 1 : Nat) : Int)))] [] 0)
               rw [et2]
               (first | refine Ent.ofA [] ?_ | refine Ent.ofC [] ?_) <;> (repeat' (first | exact trivial | refine HpLe.dd ?_ | refine HpLe.mk rfl (by simp) rfl (fun h => AObj.noConfusion h) ?_ ?_ | refine And.intro ?_ ?_ | exact cl9 | refine VLe.pe ?_ | refine VLe.agg ?_ | refine VLe.tup ?_ | refine VLe.fn ?_ ?_ | refine VLeL.cons ?_ ?_ | exact VLeL.nil | exact OLe.row _ _ | rfl | refine VLe.rsle rfl ?_ ?_ ?_ | refine OLe.rowe2 ?_ ?_ | refine OLe.mape ?_ ?_ | refine OLe.iter0 ?_ | refine OLe.itere ?_ ?_ | refine OLe.chane ?_ ?_ | refine OLe.mapSe ?_ ?_ ?_ | exact OLe.mapS0 rfl)) <;> try (first | (simp; done) | (congr 1; omega) | (congr 1; (first | (simp; done) | (simp; omega)))))
            | (have hs : stpB t k l no b g y = false := by simp_all [stpB]
               have et2 : (l.take (j + 1)).find? (stpB t k l no b g) = none := by rw [et]; show (if stpB t k l no b g y then some y else none) = _; rw [hs]; rfl
               refine ⟨⟨j + 1, hltj⟩, by show l.length - (j + 1) < l.length - j; omega, ?_⟩
               show Ent _ _ (hdS _ _ _ _ [(15, .p (eI ((((l.take (j + 1)).find? (stpB t k l no b g)).map It.party).getD g))), (17, .p (.bool ((l.take (j + 1)).find? (stpB t k l no b g)).isSome)), (18, .p (eI ((j + 1 : Nat) : Int)))] [] 0)
               rw [et2]
               (first | refine Ent.ofA [] ?_ | refine Ent.ofC [] ?_) <;> (repeat' (first | exact trivial | refine HpLe.dd ?_ | refine HpLe.mk rfl (by simp) rfl (fun h => AObj.noConfusion h) ?_ ?_ | refine And.intro ?_ ?_ | exact cl9 | refine VLe.pe ?_ | refine VLe.agg ?_ | refine VLe.tup ?_ | refine VLe.fn ?_ ?_ | refine VLeL.cons ?_ ?_ | exact VLeL.nil | exact OLe.row _ _ | rfl | refine VLe.rsle rfl ?_ ?_ ?_ | refine OLe.rowe2 ?_ ?_ | refine OLe.mape ?_ ?_ | refine OLe.iter0 ?_ | refine OLe.itere ?_ ?_ | refine OLe.chane ?_ ?_ | refine OLe.mapSe ?_ ?_ ?_ | exact OLe.mapS0 rfl)) <;> try (first | (simp; done) | (congr 1; omega) | (congr 1; (first | (simp; done) | (simp; omega)))))
            | trace_state
    · rw [if_neg hp]
      by_cases hp1 : ((p.map eI).length : Int) < 1
      · refine PCalls.of (N := 102) (res := [.tmp 12, .tmp 13]) mixed Try.func19 rfl rfl rfl (by kernel_rfl) (by simp) [0, 1, 2, 3, 4, 5, 12, 13, 14, 15, 16, 17, 18, 26, 35, 40, 46, 91, 98] ?_
        repeat' (first | exact cl1 | ((with_reducible show Exists _); first | exact exHM _ | refine exU8 ?_) | ((with_reducible show callX _ _ _ _ _); (first | refine call_p (q1) (by kernel_rfl) rfl ?_)) | ((fail_if_success with_reducible first | show LeG _ _ | show Lp _ _ _ _ | show Exists _ | show callX _ _ _ _ _ | show (_ : Int) ≤ _ | show (_ : Int) < _ | show (_ : Nat) ≤ _ | show (_ : Nat) < _); (conv => whnf) <;> (first | exact cl2 | refine Br.dec (fun hc => ?_) (fun hc => absurd hp1 hc) | refine XAlt.l ?_ | refine Sq.pr ?_ | refine Br.dec (fun hc => ?_) (fun hc => ?_) | refine Br.tt ?_ | refine Br.ff ?_ | refine Br.not ?_ | refine Br.mk (fun hc => ?_) (fun hc => ?_) | refine Opt.nn ?_ | refine Opt.ss ?_ | refine AltA.l ?_ | exact PV.leL_nil | refine PV.leL_cons ?_ ?_ | refine And.intro ?_ ?_ | refine ix_map (fun x hx => ?_) | refine exU8 ?_ | refine nilc (fun hn => ?_) ?_ | exact cl3 | refine imp0 (fun hpos => ?_) | refine fits_i64 ?_ ?_ | exact rfl | exact trivial | (with_reducible first | show LeG _ _ | show Lp _ _ _ _ | show Exists _ | show callX _ _ _ _ _)))) <;> (try exact cl5)
      · have hp9 : (8 : Int) < ((p.map eI).length : Int) := by rw [List.length_map] at *; omega
        refine PCalls.of (N := 102) (res := [.tmp 12, .tmp 13]) mixed Try.func19 rfl rfl rfl (by kernel_rfl) (by simp) [0, 1, 2, 3, 4, 5, 12, 13, 14, 15, 16, 17, 18, 26, 35, 40, 46, 91, 98] ?_
        repeat' (first | exact cl1 | ((with_reducible show Exists _); first | exact exHM _ | refine exU8 ?_) | ((with_reducible show callX _ _ _ _ _); (first | refine call_p (q1) (by kernel_rfl) rfl ?_)) | ((fail_if_success with_reducible first | show LeG _ _ | show Lp _ _ _ _ | show Exists _ | show callX _ _ _ _ _ | show (_ : Int) ≤ _ | show (_ : Int) < _ | show (_ : Nat) ≤ _ | show (_ : Nat) < _); (conv => whnf) <;> (first | exact cl2 | refine Br.dec (fun hc => absurd hc hp1) (fun hc => ?_) | refine Br.dec (fun hc => ?_) (fun hc => absurd hp9 hc) | refine XAlt.l ?_ | refine Sq.pr ?_ | refine Br.dec (fun hc => ?_) (fun hc => ?_) | refine Br.tt ?_ | refine Br.ff ?_ | refine Br.not ?_ | refine Br.mk (fun hc => ?_) (fun hc => ?_) | refine Opt.nn ?_ | refine Opt.ss ?_ | refine AltA.l ?_ | exact PV.leL_nil | refine PV.leL_cons ?_ ?_ | refine And.intro ?_ ?_ | refine ix_map (fun x hx => ?_) | refine exU8 ?_ | refine nilc (fun hn => ?_) ?_ | exact cl3 | refine imp0 (fun hpos => ?_) | refine fits_i64 ?_ ?_ | exact rfl | exact trivial | (with_reducible first | show LeG _ _ | show Lp _ _ _ _ | show Exists _ | show callX _ _ _ _ _)))) <;> (try exact cl5)
  · rw [if_neg hz]
    refine PCalls.of (N := 102) (res := [.tmp 12, .tmp 13]) mixed Try.func19 rfl rfl rfl (by kernel_rfl) (by simp) [0, 1, 2, 3, 4, 5, 12, 13, 14, 15, 16, 17, 18, 26, 35, 40, 46, 91, 98] ?_
    repeat' (first | exact cl1 | ((with_reducible show Exists _); first | exact exHM _ | refine exU8 ?_) | ((with_reducible show callX _ _ _ _ _); (first | refine call_p (q1) (by kernel_rfl) rfl ?_)) | ((fail_if_success with_reducible first | show LeG _ _ | show Lp _ _ _ _ | show Exists _ | show callX _ _ _ _ _ | show (_ : Int) ≤ _ | show (_ : Int) < _ | show (_ : Nat) ≤ _ | show (_ : Nat) < _); (conv => whnf) <;> (first | exact cl2 | refine XAlt.l ?_ | refine Sq.pr ?_ | refine Br.dec (fun hc => ?_) (fun hc => ?_) | refine Br.tt ?_ | refine Br.ff ?_ | refine Br.not ?_ | refine Br.mk (fun hc => ?_) (fun hc => ?_) | refine Opt.nn ?_ | refine Opt.ss ?_ | refine AltA.l ?_ | exact PV.leL_nil | refine PV.leL_cons ?_ ?_ | refine And.intro ?_ ?_ | refine ix_map (fun x hx => ?_) | refine exU8 ?_ | refine nilc (fun hn => ?_) ?_ | exact cl3 | refine imp0 (fun hpos => ?_) | refine fits_i64 ?_ ?_ | exact rfl | exact trivial | (with_reducible first | show LeG _ _ | show Lp _ _ _ _ | show Exists _ | show callX _ _ _ _ _)))) <;> (try exact cl5)
end Go.Proofs.Ythlpjjnfcpjgoaa

namespace Go.Proofs.Ythlpjjnfcpjgoaa
open Go Go.Sg
set_option maxRecDepth 100000
set_option maxHeartbeats 20000000
theorem exp_okL {S : List It} {w : Wy} {ways : List Wy} (h : OkW S ways) (hw : w.path.length ≤ 7) : OkW S (expW w (frm S w.to) ways) := by
  have := exp_ok (L := frm S w.to) (w := w) h (fun x hx => frm_mem hx) hw (frm S w.to).length
  rwa [List.take_length] at this
theorem srch_len (P : List Int) (S : List It) : ∀ (n : Nat) (ways : List Wy) (k : Nat), OkW S ways → (srch P S n ways k).1.length ≤ 8
  | 0, _, _, _ => Nat.zero_le _
  | n + 1, ways, k, h => by
    cases hw : ways[k]? with
    | none => rw [srch_none hw]; exact Nat.zero_le _
    | some w =>
      have hm := h.mem w (List.mem_of_getElem? hw)
      rw [srch_some hw]
      split
      · exact hm.2
      · split
        · exact srch_len P S n ways (k + 1) h
        · exact srch_len P S n _ (k + 1) (exp_okL h (by omega))
theorem conF_len (S : List It) (P : List Int) (who : Int) : (conF S P who).1.length ≤ 8 := by
  have h := ini_ok (S := S) who S.length
  rw [List.take_length] at h
  exact srch_len P S _ _ _ h
theorem conA_len8 (l : List It) (who : Int) (P : List Int) (t k : Int) : (conA l who P t k).1.length ≤ 8 := by
  unfold conA
  split
  · exact conF_len _ _ _
  · exact Nat.zero_le _
theorem conA_len {l : List It} {who : Int} {P : List Int} {t k : Int} (hl : l.length < 1000000) : (conA l who P t k).1.length < 1000000 := by
  have := conA_len8 l who P t k; omega
theorem conflictSpec_calls (l : List It) (who : Int) (P : List Int) (t k : Int) (p : List Int) : PCalls Try.prog 4 [eL l, eI who, eIs P, eI t, eI k, eIs p] (.bool true) := by
  have q0 := few2_calls l
  cases hf : fewL l with
  | false =>
    rw [hf] at q0
    refine PCalls.of (N := 101) (res := [.tmp 12]) mixed Try.func4 rfl rfl rfl (by kernel_rfl) (by simp) [0, 1, 2, 3, 4, 5, 12, 13, 14, 15, 16, 17, 18, 19, 20, 21, 22, 24, 37] ?_
    repeat' (first | exact cl1 | ((with_reducible show Exists _); first | exact exHM _ | refine exU8 ?_) | ((with_reducible show callX _ _ _ _ _); (first | refine call_p (sane_calls) (by kernel_rfl) rfl ?_ | refine call_p (q0) (by kernel_rfl) rfl ?_)) | ((fail_if_success with_reducible first | show LeG _ _ | show Lp _ _ _ _ | show Exists _ | show callX _ _ _ _ _ | show (_ : Int) ≤ _ | show (_ : Int) < _ | show (_ : Nat) ≤ _ | show (_ : Nat) < _); (conv => whnf) <;> (first | exact cl2 | refine XAlt.l ?_ | refine Sq.pr ?_ | refine Br.dec (fun hc => ?_) (fun hc => ?_) | refine Br.tt ?_ | refine Br.ff ?_ | refine Br.not ?_ | refine Br.mk (fun hc => ?_) (fun hc => ?_) | refine Opt.nn ?_ | refine Opt.ss ?_ | refine AltA.l ?_ | exact PV.leL_nil | refine PV.leL_cons ?_ ?_ | refine And.intro ?_ ?_ | refine ix_map (fun x hx => ?_) | refine exU8 ?_ | refine nilc (fun hn => ?_) ?_ | exact cl3 | refine imp0 (fun hpos => ?_) | refine fits_i64 ?_ ?_ | exact rfl | exact trivial | (with_reducible first | show LeG _ _ | show Lp _ _ _ _ | show Exists _ | show callX _ _ _ _ _)))) <;> (try exact cl5)
  | true =>
    rw [hf] at q0
    have hl := fewL_len hf
    by_cases hP : P.length ≤ 100
    · have hP1 : ¬ (100 : Int) < ((P.map eI).length : Int) := by rw [List.length_map]; omega
      by_cases hp : p.length ≤ 100
      · have hp1 : ¬ (100 : Int) < ((p.map eI).length : Int) := by rw [List.length_map]; omega
        have hP2 : P.length < 1000000 := by omega
        have q5 := sameI_calls (conA l who P t k).1 (conA l who P t k).1 (conA_len hl)
        rw [decide_eq_true rfl] at q5
        refine PCalls.of (N := 101) (res := [.tmp 12]) mixed Try.func4 rfl rfl rfl (by kernel_rfl) (by simp) [0, 1, 2, 3, 4, 5, 12, 13, 14, 15, 16, 17, 18, 19, 20, 21, 22, 24, 37] ?_
        repeat' (first | exact cl1 | ((with_reducible show Exists _); first | exact exHM _ | refine exU8 ?_) | ((with_reducible show callX _ _ _ _ _); (first | refine call_p (sane_calls) (by kernel_rfl) rfl ?_ | refine call_p (q0) (by kernel_rfl) rfl ?_ | refine call_p (conflict_calls l who P t k hl hP2) (by kernel_rfl) rfl ?_ | refine call_p (rconflict_calls l who P t k hl hP2) (by kernel_rfl) rfl ?_ | refine call_p (proves_calls l who P t k p hl hP2) (by kernel_rfl) rfl ?_ | refine call_p (rproves_calls l who P t k p hl hP2) (by kernel_rfl) rfl ?_ | refine call_p (q5) (by kernel_rfl) rfl ?_)) | ((fail_if_success with_reducible first | show LeG _ _ | show Lp _ _ _ _ | show Exists _ | show callX _ _ _ _ _ | show (_ : Int) ≤ _ | show (_ : Int) < _ | show (_ : Nat) ≤ _ | show (_ : Nat) < _); (conv => whnf) <;> (first | exact cl2 | refine Br.dec (fun hc => absurd hc hP1) (fun hc => ?_) | refine Br.dec (fun hc => absurd hc hp1) (fun hc => ?_) | refine XAlt.l ?_ | refine Sq.pr ?_ | refine Br.dec (fun hc => ?_) (fun hc => ?_) | refine Br.tt ?_ | refine Br.ff ?_ | refine Br.not ?_ | refine Br.mk (fun hc => ?_) (fun hc => ?_) | refine Opt.nn ?_ | refine Opt.ss ?_ | refine AltA.l ?_ | exact PV.leL_nil | refine PV.leL_cons ?_ ?_ | refine And.intro ?_ ?_ | refine ix_map (fun x hx => ?_) | refine exU8 ?_ | refine nilc (fun hn => ?_) ?_ | exact cl3 | refine imp0 (fun hpos => ?_) | refine fits_i64 ?_ ?_ | exact rfl | exact trivial | (with_reducible first | show LeG _ _ | show Lp _ _ _ _ | show Exists _ | show callX _ _ _ _ _)))) <;> (try exact cl5)
        all_goals first
        | exact LeG.bool (decide_eq_true rfl)
        | exact absurd rfl hc
      · have hp1 : (100 : Int) < ((p.map eI).length : Int) := by rw [List.length_map]; omega
        refine PCalls.of (N := 101) (res := [.tmp 12]) mixed Try.func4 rfl rfl rfl (by kernel_rfl) (by simp) [0, 1, 2, 3, 4, 5, 12, 13, 14, 15, 16, 17, 18, 19, 20, 21, 22, 24, 37] ?_
        repeat' (first | exact cl1 | ((with_reducible show Exists _); first | exact exHM _ | refine exU8 ?_) | ((with_reducible show callX _ _ _ _ _); (first | refine call_p (sane_calls) (by kernel_rfl) rfl ?_ | refine call_p (q0) (by kernel_rfl) rfl ?_)) | ((fail_if_success with_reducible first | show LeG _ _ | show Lp _ _ _ _ | show Exists _ | show callX _ _ _ _ _ | show (_ : Int) ≤ _ | show (_ : Int) < _ | show (_ : Nat) ≤ _ | show (_ : Nat) < _); (conv => whnf) <;> (first | exact cl2 | refine Br.dec (fun hc => absurd hc hP1) (fun hc => ?_) | refine Br.dec (fun hc => ?_) (fun hc => absurd hp1 hc) | refine XAlt.l ?_ | refine Sq.pr ?_ | refine Br.dec (fun hc => ?_) (fun hc => ?_) | refine Br.tt ?_ | refine Br.ff ?_ | refine Br.not ?_ | refine Br.mk (fun hc => ?_) (fun hc => ?_) | refine Opt.nn ?_ | refine Opt.ss ?_ | refine AltA.l ?_ | exact PV.leL_nil | refine PV.leL_cons ?_ ?_ | refine And.intro ?_ ?_ | refine ix_map (fun x hx => ?_) | refine exU8 ?_ | refine nilc (fun hn => ?_) ?_ | exact cl3 | refine imp0 (fun hpos => ?_) | refine fits_i64 ?_ ?_ | exact rfl | exact trivial | (with_reducible first | show LeG _ _ | show Lp _ _ _ _ | show Exists _ | show callX _ _ _ _ _)))) <;> (try exact cl5)
    · have hP1 : (100 : Int) < ((P.map eI).length : Int) := by rw [List.length_map]; omega
      refine PCalls.of (N := 101) (res := [.tmp 12]) mixed Try.func4 rfl rfl rfl (by kernel_rfl) (by simp) [0, 1, 2, 3, 4, 5, 12, 13, 14, 15, 16, 17, 18, 19, 20, 21, 22, 24, 37] ?_
      repeat' (first | exact cl1 | ((with_reducible show Exists _); first | exact exHM _ | refine exU8 ?_) | ((with_reducible show callX _ _ _ _ _); (first | refine call_p (sane_calls) (by kernel_rfl) rfl ?_ | refine call_p (q0) (by kernel_rfl) rfl ?_)) | ((fail_if_success with_reducible first | show LeG _ _ | show Lp _ _ _ _ | show Exists _ | show callX _ _ _ _ _ | show (_ : Int) ≤ _ | show (_ : Int) < _ | show (_ : Nat) ≤ _ | show (_ : Nat) < _); (conv => whnf) <;> (first | exact cl2 | refine Br.dec (fun hc => ?_) (fun hc => absurd hP1 hc) | refine XAlt.l ?_ | refine Sq.pr ?_ | refine Br.dec (fun hc => ?_) (fun hc => ?_) | refine Br.tt ?_ | refine Br.ff ?_ | refine Br.not ?_ | refine Br.mk (fun hc => ?_) (fun hc => ?_) | refine Opt.nn ?_ | refine Opt.ss ?_ | refine AltA.l ?_ | exact PV.leL_nil | refine PV.leL_cons ?_ ?_ | refine And.intro ?_ ?_ | refine ix_map (fun x hx => ?_) | refine exU8 ?_ | refine nilc (fun hn => ?_) ?_ | exact cl3 | refine imp0 (fun hpos => ?_) | refine fits_i64 ?_ ?_ | exact rfl | exact trivial | (with_reducible first | show LeG _ _ | show Lp _ _ _ _ | show Exists _ | show callX _ _ _ _ _)))) <;> (try exact cl5)
end Go.Proofs.Ythlpjjnfcpjgoaa

namespace Go.Proofs.Ythlpjjnfcpjgoaa
open Go Go.Sg
set_option maxRecDepth 100000
set_option maxHeartbeats 8000000
theorem rpartiesU_calls (P : List Int) (hP : P.length < 140737488355328) : PCalls Try.prog 53 [eIs P] (.bool (okP P && decide (P.length ≤ 16))) := by
  refine PCalls.of (N := 35) (res := [.tmp 2]) mixed Try.func53 rfl rfl rfl (by kernel_rfl) (by simp) [0, 2, 3, 7, 31] ?_
  repeat' (first | exact cl1 | ((with_reducible show Exists _); first | exact exHM _ | refine exU8 ?_) | ((fail_if_success with_reducible first | show LeG _ _ | show Lp _ _ _ _ | show Exists _ | show callX _ _ _ _ _ | show (_ : Int) ≤ _ | show (_ : Int) < _ | show (_ : Nat) ≤ _ | show (_ : Nat) < _); (conv => whnf) <;> (first | exact cl2 | refine XAlt.l ?_ | refine Sq.pr ?_ | refine Br.dec (fun hc => ?_) (fun hc => ?_) | refine Br.tt ?_ | refine Br.ff ?_ | refine Br.not ?_ | refine Br.mk (fun hc => ?_) (fun hc => ?_) | refine Opt.nn ?_ | refine Opt.ss ?_ | refine AltA.l ?_ | exact PV.leL_nil | refine PV.leL_cons ?_ ?_ | refine And.intro ?_ ?_ | refine ix_map (fun x hx => ?_) | refine exU8 ?_ | refine nilc (fun hn => ?_) ?_ | exact cl3 | refine imp0 (fun hpos => ?_) | refine fits_i64 ?_ ?_ | exact rfl | exact trivial | (with_reducible first | show LeG _ _ | show Lp _ _ _ _ | show Exists _ | show callX _ _ _ _ _)))) <;> (try exact cl5)
  refine Wpc.loopB (α := {i : Nat // i ≤ P.length ∧ okFrom (wiB 1048577) id (lastNo id P i) (P.drop i) = okP P}) mixed [0, 2, 3, 7, 31] (fun i => [(3, .p (eI i.1))]) (fun i => P.length - i.1) ⟨0, by omega, rfl⟩ ?_ ?_
  · (first | refine Ent.ofA [] ?_ | refine Ent.ofC [] ?_) <;> (repeat' (first | exact trivial | refine HpLe.dd ?_ | refine HpLe.mk rfl (by simp) rfl (fun h => AObj.noConfusion h) ?_ ?_ | refine And.intro ?_ ?_ | exact cl9 | refine VLe.pe ?_ | refine VLe.agg ?_ | refine VLe.tup ?_ | refine VLe.fn ?_ ?_ | refine VLeL.cons ?_ ?_ | exact VLeL.nil | exact OLe.row _ _ | rfl | refine VLe.rsle rfl ?_ ?_ ?_ | refine OLe.rowe2 ?_ ?_ | refine OLe.mape ?_ ?_ | refine OLe.iter0 ?_ | refine OLe.itere ?_ ?_ | refine OLe.chane ?_ ?_ | refine OLe.mapSe ?_ ?_ ?_ | exact OLe.mapS0 rfl)) <;> try (first | (simp; done) | (congr 1; omega) | (congr 1; (first | (simp; done) | (simp; omega))))
  rintro ⟨i, hi, hq⟩
  have hi : i ≤ P.length := hi
  have hq : okFrom (wiB 1048577) id (lastNo id P i) (P.drop i) = okP P := hq
  repeat' (first | exact cl1 | ((with_reducible show Exists _); first | exact exHM _ | refine exU8 ?_) | ((with_reducible show callX _ _ _ _ _); (first | refine call_p (rparty_calls _) (by kernel_rfl) rfl ?_)) | ((fail_if_success with_reducible first | show LeG _ _ | show Lp _ _ _ _ | show Exists _ | show callX _ _ _ _ _ | show (_ : Int) ≤ _ | show (_ : Int) < _ | show (_ : Nat) ≤ _ | show (_ : Nat) < _); (conv => whnf) <;> (first | exact cl2 | refine XAlt.l ?_ | refine Sq.pr ?_ | refine Br.dec (fun hc => ?_) (fun hc => ?_) | refine Br.tt ?_ | refine Br.ff ?_ | refine Br.not ?_ | refine Br.mk (fun hc => ?_) (fun hc => ?_) | refine Opt.nn ?_ | refine Opt.ss ?_ | refine AltA.l ?_ | exact PV.leL_nil | refine PV.leL_cons ?_ ?_ | refine And.intro ?_ ?_ | refine ix_map (fun x hx => ?_) | refine exU8 ?_ | refine nilc (fun hn => ?_) ?_ | exact cl3 | refine imp0 (fun hpos => ?_) | refine fits_i64 ?_ ?_ | exact rfl | exact trivial | (with_reducible first | show LeG _ _ | show Lp _ _ _ _ | show Exists _ | show callX _ _ _ _ _)))) <;> (try exact cl5)
  · rename_i y h1 h2 z hz
    have h2 : (0 : Int) < (i : Int) := h2
    have hz : P[i]? = some z := hz
    have hx : P[((i : Int) - 1).toNat]? = some x := hx
    rw [show ((i : Int) - 1).toNat = i - 1 by omega] at hx
    have hl0 : lastNo id P i = x := by obtain ⟨j, rfl⟩ : ∃ j, i = j + 1 := ⟨i - 1, by omega⟩; exact lastNo_succ id hx
    have e : okP P = false := okFrom_no (wiB 1048577) id hz hq (by rw [hl0, decide_eq_false (show ¬ x < id z by show ¬ x < z; omega), Bool.and_false])
    rw [e]; exact LeG.refl _
  · rename_i y hy h1 h2 z hz
    have h2 : (0 : Int) < (i : Int) := h2
    have hz : P[i]? = some z := hz
    have hy : P[i]? = some y := hy
    rw [hz] at hy; injection hy with hy; subst hy
    have hx : P[((i : Int) - 1).toNat]? = some x := hx
    rw [show ((i : Int) - 1).toNat = i - 1 by omega] at hx
    have hl0 : lastNo id P i = x := by obtain ⟨j, rfl⟩ : ∃ j, i = j + 1 := ⟨i - 1, by omega⟩; exact lastNo_succ id hx
    have hlt := (List.getElem?_eq_some_iff.1 hz).1
    refine ⟨⟨i + 1, hlt, okFrom_yes (wiB 1048577) id hz hq (by rw [hl0, h1, decide_eq_true (show x < id z by show x < z; omega)]; rfl)⟩, by show P.length - (i + 1) < P.length - i; omega, ?_⟩
    (first | refine Ent.ofA [] ?_ | refine Ent.ofC [] ?_) <;> (repeat' (first | exact trivial | refine HpLe.dd ?_ | refine HpLe.mk rfl (by simp) rfl (fun h => AObj.noConfusion h) ?_ ?_ | refine And.intro ?_ ?_ | exact cl9 | refine VLe.pe ?_ | refine VLe.agg ?_ | refine VLe.tup ?_ | refine VLe.fn ?_ ?_ | refine VLeL.cons ?_ ?_ | exact VLeL.nil | exact OLe.row _ _ | rfl | refine VLe.rsle rfl ?_ ?_ ?_ | refine OLe.rowe2 ?_ ?_ | refine OLe.mape ?_ ?_ | refine OLe.iter0 ?_ | refine OLe.itere ?_ ?_ | refine OLe.chane ?_ ?_ | refine OLe.mapSe ?_ ?_ ?_ | exact OLe.mapS0 rfl)) <;> try (first | (simp; done) | (congr 1; omega) | (congr 1; (first | (simp; done) | (simp; omega))))
  · rename_i h1
    have hx : P[i]? = some x := hx
    have hc : ¬ (0 : Int) < (i : Int) := hc
    have hlt := (List.getElem?_eq_some_iff.1 hx).1
    have h0 : i = 0 := by omega
    subst h0
    have hn : 0 ≤ x := by simp [wiB] at h1; omega
    refine ⟨⟨0 + 1, hlt, okFrom_yes (wiB 1048577) id hx hq (by rw [h1]; show (true && decide ((-1 : Int) < x)) = true; rw [decide_eq_true (by omega)]; rfl)⟩, by show P.length - (0 + 1) < P.length - 0; omega, ?_⟩
    (first | refine Ent.ofA [] ?_ | refine Ent.ofC [] ?_) <;> (repeat' (first | exact trivial | refine HpLe.dd ?_ | refine HpLe.mk rfl (by simp) rfl (fun h => AObj.noConfusion h) ?_ ?_ | refine And.intro ?_ ?_ | exact cl9 | refine VLe.pe ?_ | refine VLe.agg ?_ | refine VLe.tup ?_ | refine VLe.fn ?_ ?_ | refine VLeL.cons ?_ ?_ | exact VLeL.nil | exact OLe.row _ _ | rfl | refine VLe.rsle rfl ?_ ?_ ?_ | refine OLe.rowe2 ?_ ?_ | refine OLe.mape ?_ ?_ | refine OLe.iter0 ?_ | refine OLe.itere ?_ ?_ | refine OLe.chane ?_ ?_ | refine OLe.mapSe ?_ ?_ ?_ | exact OLe.mapS0 rfl)) <;> try (first | (simp; done) | (congr 1; omega) | (congr 1; (first | (simp; done) | (simp; omega))))
  · have hx : P[i]? = some x := hx
    have e : okP P = false := okFrom_no (wiB 1048577) id hx hq (by rw [hc]; rfl)
    rw [e]; exact LeG.refl _
  · have hc : ¬ (i : Int) < ((P.map eI).length : Int) := hc
    rw [List.length_map] at hc
    have e : okP P = true := okFrom_fin (wiB 1048577) id hq (by omega)
    rw [e]
    refine LeG.bool ?_
    rw [List.length_map, Bool.true_and]
    exact decide_eq_decide.2 (by omega)
theorem rErrorU_calls (l : List It) (who : Int) (P : List Int) (t k : Int) (hl : l.length < 1000000) (hP : P.length < 140737488355328) : PCalls Try.prog 37 [eL l, eI who, eIs P, eI t, eI k] (eI (examA l who P t k)) := by
  have q1 := rcheck_calls l hl
  have q2 := rpartiesU_calls P hP
  unfold examA
  by_cases hz : chkA l = 0
  · rw [hz] at q1
    rw [if_pos hz]
    refine PCalls.of (N := 35) (res := [.tmp 10]) mixed Try.func37 rfl rfl rfl (by kernel_rfl) (by simp) [0, 1, 2, 3, 4, 10, 11, 15, 34] ?_
    repeat' (first | exact cl1 | ((with_reducible show Exists _); first | exact exHM _ | refine exU8 ?_) | ((with_reducible show callX _ _ _ _ _); (first | refine call_p (q1) (by kernel_rfl) rfl ?_ | refine call_p (q2) (by kernel_rfl) rfl ?_ | refine call_p (rtime_calls _) (by kernel_rfl) rfl ?_ | refine call_p (rperson_calls _) (by kernel_rfl) rfl ?_)) | ((fail_if_success with_reducible first | show LeG _ _ | show Lp _ _ _ _ | show Exists _ | show callX _ _ _ _ _ | show (_ : Int) ≤ _ | show (_ : Int) < _ | show (_ : Nat) ≤ _ | show (_ : Nat) < _); (conv => whnf) <;> (first | exact cl2 | refine XAlt.l ?_ | refine Sq.pr ?_ | refine Br.dec (fun hc => ?_) (fun hc => ?_) | refine Br.tt ?_ | refine Br.ff ?_ | refine Br.not ?_ | refine Br.mk (fun hc => ?_) (fun hc => ?_) | refine Opt.nn ?_ | refine Opt.ss ?_ | refine AltA.l ?_ | exact PV.leL_nil | refine PV.leL_cons ?_ ?_ | refine And.intro ?_ ?_ | refine ix_map (fun x hx => ?_) | refine exU8 ?_ | refine nilc (fun hn => ?_) ?_ | exact cl3 | refine imp0 (fun hpos => ?_) | refine fits_i64 ?_ ?_ | exact rfl | exact trivial | (with_reducible first | show LeG _ _ | show Lp _ _ _ _ | show Exists _ | show callX _ _ _ _ _)))) <;> (try exact cl5)
    all_goals first
    | (rw [if_pos (show argB who P t k = true by simp only [argB, *, Bool.and_self])]; exact LeG.refl _)
    | (rw [if_neg (show ¬ argB who P t k = true by simp only [argB, *, Bool.false_and, Bool.and_false, Bool.true_and]; simp)]; exact LeG.refl _)
  · rw [if_neg hz]
    refine PCalls.of (N := 35) (res := [.tmp 10]) mixed Try.func37 rfl rfl rfl (by kernel_rfl) (by simp) [0, 1, 2, 3, 4, 10, 11, 15, 34] ?_
    repeat' (first | exact cl1 | ((with_reducible show Exists _); first | exact exHM _ | refine exU8 ?_) | ((with_reducible show callX _ _ _ _ _); (first | refine call_p (q1) (by kernel_rfl) rfl ?_)) | ((fail_if_success with_reducible first | show LeG _ _ | show Lp _ _ _ _ | show Exists _ | show callX _ _ _ _ _ | show (_ : Int) ≤ _ | show (_ : Int) < _ | show (_ : Nat) ≤ _ | show (_ : Nat) < _); (conv => whnf) <;> (first | exact cl2 | refine XAlt.l ?_ | refine Sq.pr ?_ | refine Br.dec (fun hc => ?_) (fun hc => ?_) | refine Br.tt ?_ | refine Br.ff ?_ | refine Br.not ?_ | refine Br.mk (fun hc => ?_) (fun hc => ?_) | refine Opt.nn ?_ | refine Opt.ss ?_ | refine AltA.l ?_ | exact PV.leL_nil | refine PV.leL_cons ?_ ?_ | refine And.intro ?_ ?_ | refine ix_map (fun x hx => ?_) | refine exU8 ?_ | refine nilc (fun hn => ?_) ?_ | exact cl3 | refine imp0 (fun hpos => ?_) | refine fits_i64 ?_ ?_ | exact rfl | exact trivial | (with_reducible first | show LeG _ _ | show Lp _ _ _ _ | show Exists _ | show callX _ _ _ _ _)))) <;> (try exact cl5)
def rightL (l : List It) (who : Int) (P : List Int) (t k : Int) : Bool := decide (l.length ≤ 40) && decide (examA l who P t k = 0)
theorem lright_calls (l : List It) (who : Int) (P : List Int) (t k : Int) (hP : P.length < 140737488355328) : PCalls Try.prog 21 [eL l, eI who, eIs P, eI t, eI k] (.bool (rightL l who P t k)) := by
  by_cases h : l.length ≤ 40
  · have q := rErrorU_calls l who P t k (by omega) hP
    have h' : ((l.map eA).length : Int) ≤ 40 := by rw [List.length_map]; omega
    refine PCalls.of (N := 23) (res := [.tmp 10]) mixed Try.func21 rfl rfl rfl (by kernel_rfl) (by simp) [0, 1, 2, 3, 4, 10] ?_
    repeat' (first | exact cl1 | ((with_reducible show Exists _); first | exact exHM _ | refine exU8 ?_) | ((with_reducible show callX _ _ _ _ _); (first | refine call_p (q) (by kernel_rfl) rfl ?_)) | ((fail_if_success with_reducible first | show LeG _ _ | show Lp _ _ _ _ | show Exists _ | show callX _ _ _ _ _ | show (_ : Int) ≤ _ | show (_ : Int) < _ | show (_ : Nat) ≤ _ | show (_ : Nat) < _); (conv => whnf) <;> (first | exact cl2 | refine Br.dec (fun hc => ?_) (fun hc => absurd h' hc) | refine XAlt.l ?_ | refine Sq.pr ?_ | refine Br.dec (fun hc => ?_) (fun hc => ?_) | refine Br.tt ?_ | refine Br.ff ?_ | refine Br.not ?_ | refine Br.mk (fun hc => ?_) (fun hc => ?_) | refine Opt.nn ?_ | refine Opt.ss ?_ | refine AltA.l ?_ | exact PV.leL_nil | refine PV.leL_cons ?_ ?_ | refine And.intro ?_ ?_ | refine ix_map (fun x hx => ?_) | refine exU8 ?_ | refine nilc (fun hn => ?_) ?_ | exact cl3 | refine imp0 (fun hpos => ?_) | refine fits_i64 ?_ ?_ | exact rfl | exact trivial | (with_reducible first | show LeG _ _ | show Lp _ _ _ _ | show Exists _ | show callX _ _ _ _ _)))) <;> (try exact cl5)
    all_goals (refine LeG.bool ?_; simp [rightL, h])
  · have h' : ¬ ((l.map eA).length : Int) ≤ 40 := by rw [List.length_map]; omega
    refine PCalls.of (N := 23) (res := [.tmp 10]) mixed Try.func21 rfl rfl rfl (by kernel_rfl) (by simp) [0, 1, 2, 3, 4, 10] ?_
    repeat' (first | exact cl1 | ((with_reducible show Exists _); first | exact exHM _ | refine exU8 ?_) | ((fail_if_success with_reducible first | show LeG _ _ | show Lp _ _ _ _ | show Exists _ | show callX _ _ _ _ _ | show (_ : Int) ≤ _ | show (_ : Int) < _ | show (_ : Nat) ≤ _ | show (_ : Nat) < _); (conv => whnf) <;> (first | exact cl2 | refine Br.dec (fun hc => absurd hc h') (fun hc => ?_) | refine XAlt.l ?_ | refine Sq.pr ?_ | refine Br.dec (fun hc => ?_) (fun hc => ?_) | refine Br.tt ?_ | refine Br.ff ?_ | refine Br.not ?_ | refine Br.mk (fun hc => ?_) (fun hc => ?_) | refine Opt.nn ?_ | refine Opt.ss ?_ | refine AltA.l ?_ | exact PV.leL_nil | refine PV.leL_cons ?_ ?_ | refine And.intro ?_ ?_ | refine ix_map (fun x hx => ?_) | refine exU8 ?_ | refine nilc (fun hn => ?_) ?_ | exact cl3 | refine imp0 (fun hpos => ?_) | refine fits_i64 ?_ ?_ | exact rfl | exact trivial | (with_reducible first | show LeG _ _ | show Lp _ _ _ _ | show Exists _ | show callX _ _ _ _ _)))) <;> (try exact cl5)
    all_goals (refine LeG.bool ?_; simp [rightL, h])
theorem rightL_ok {l : List It} {who : Int} {P : List Int} {t k : Int} (h : rightL l who P t k = true) : l.length ≤ 40 ∧ examA l who P t k = 0 ∧ P.length ≤ 16 := by
  unfold rightL at h
  simp only [Bool.and_eq_true, decide_eq_true_eq] at h
  exact ⟨h.1, h.2, (argB_ok (examA_ok h.2).2).2⟩
end Go.Proofs.Ythlpjjnfcpjgoaa

namespace Go.Proofs.Ythlpjjnfcpjgoaa
open Go Go.Sg
set_option maxRecDepth 100000
set_option maxHeartbeats 4000000
/-! ### The order of paths: shorter, then by number -/
theorem lexB_irr : ∀ a : List Int, lexB a a = false
  | [] => rfl
  | a :: x => by unfold lexB; rw [if_pos rfl]; exact lexB_irr x
theorem lexB_trans : ∀ a b c : List Int, lexB a b = true → lexB b c = true → lexB a c = true
  | [], b, c, h, _ => by cases b <;> simp [lexB] at h
  | a :: x, [], c, h, _ => by simp [lexB] at h
  | a :: x, b :: y, [], _, h => by simp [lexB] at h
  | a :: x, b :: y, c :: z, h, g => by
    unfold lexB at h g ⊢
    by_cases h1 : a = b
    · rw [if_pos h1] at h
      by_cases g1 : b = c
      · rw [if_pos g1] at g; rw [if_pos (h1.trans g1)]; exact lexB_trans x y z h g
      · rw [if_neg g1] at g; rw [if_neg (h1 ▸ g1)]; rw [h1]; exact g
    · rw [if_neg h1] at h
      have h2 := of_decide_eq_true h
      by_cases g1 : b = c
      · rw [if_neg (g1 ▸ h1)]; rw [← g1]; exact h
      · rw [if_neg g1] at g
        have g2 := of_decide_eq_true g
        rw [if_neg (by omega)]; exact decide_eq_true (by omega)
theorem lexB_pre : ∀ (π : List Int) (a b : List Int), lexB (π ++ a) (π ++ b) = lexB a b
  | [], _, _ => rfl
  | p :: π, a, b => by rw [List.cons_append, List.cons_append]; show (if p = p then lexB (π ++ a) (π ++ b) else decide (p < p)) = lexB a b; rw [if_pos rfl]; exact lexB_pre π a b
theorem lexB_app : ∀ (a b x y : List Int), a.length = b.length → lexB a b = true → lexB (a ++ x) (b ++ y) = true
  | [], b, x, y, _, h => by cases b <;> simp [lexB] at h
  | a :: s, [], x, y, _, h => by simp [lexB] at h
  | a :: s, b :: t, x, y, hl, h => by
    rw [List.cons_append, List.cons_append]
    unfold lexB at h ⊢
    by_cases h1 : a = b
    · rw [if_pos h1] at h ⊢; exact lexB_app s t x y (by simpa using hl) h
    · rw [if_neg h1] at h ⊢; exact h
theorem bef_irr (a : List Int) : befB a a = false := by unfold befB; rw [if_pos rfl]; exact lexB_irr a
theorem bef_len {a b : List Int} (h : befB a b = true) : a.length ≤ b.length := by
  unfold befB at h
  split at h
  · omega
  · exact Nat.le_of_lt (of_decide_eq_true h)
theorem bef_short {a b : List Int} (h : a.length < b.length) : befB a b = true := by
  unfold befB; rw [if_neg (by omega)]; exact decide_eq_true h
theorem bef_trans {a b c : List Int} (h : befB a b = true) (g : befB b c = true) : befB a c = true := by
  have h1 := bef_len h
  have g1 := bef_len g
  by_cases e : a.length = c.length
  · unfold befB at h g ⊢
    rw [if_pos (by omega)] at h g
    rw [if_pos e]; exact lexB_trans a b c h g
  · exact bef_short (by omega)
theorem bef_app {a b : List Int} (h : befB a b = true) (x y : Int) : befB (a ++ [x]) (b ++ [y]) = true := by
  by_cases e : a.length = b.length
  · unfold befB at h ⊢
    rw [if_pos e] at h
    rw [if_pos (by simp [e])]; exact lexB_app a b [x] [y] e h
  · exact bef_short (by have := bef_len h; simp; omega)
theorem bef_last {a : List Int} {x y : Int} (h : x < y) : befB (a ++ [x]) (a ++ [y]) = true := by
  unfold befB
  rw [if_pos (by simp), lexB_pre]
  unfold lexB
  rw [if_neg (by omega)]; exact decide_eq_true h
def leP (a b : List Int) : Prop := a = b ∨ befB a b = true
theorem leP.refl (a : List Int) : leP a a := .inl rfl
theorem leP.trans {a b c : List Int} (h : leP a b) (g : leP b c) : leP a c := by
  rcases h with rfl | h
  · exact g
  · rcases g with rfl | g
    · exact .inr h
    · exact .inr (bef_trans h g)
theorem leP.app {a b : List Int} (h : leP a b) (x : Int) : leP (a ++ [x]) (b ++ [x]) := by
  rcases h with rfl | h
  · exact .inl rfl
  · exact .inr (bef_app h x x)
theorem leP.len {a b : List Int} (h : leP a b) : a.length ≤ b.length := by
  rcases h with rfl | h
  · exact Nat.le_refl _
  · exact bef_len h
theorem leP.lt {a b c : List Int} (h : leP a b) (g : befB b c = true) : befB a c = true := by
  rcases h with rfl | h
  · exact g
  · exact bef_trans h g
/-! ### Where a path leads -/
def stp (B : ByM) (b : Bool) (no p : Int) : Option Int := match aget no B with
  | none => none
  | some x => if x.of_ = b then (if x.person = p then some x.party else none) else none
theorem stp_some {S : List It} (hs : S.Pairwise (fun a b => a.no < b.no)) {b : Bool} {no p r : Int} : stp (byF S) b no p = some r ↔ ∃ x ∈ S, x.no = no ∧ x.of_ = b ∧ x.person = p ∧ x.party = r := by
  unfold stp
  constructor
  · intro h
    cases hg : aget no (byF S) with
    | none => rw [hg] at h; cases h
    | some x =>
      rw [hg] at h
      obtain ⟨h1, h2⟩ := (byF_get hs).1 hg
      have h : (if x.of_ = b then (if x.person = p then some x.party else none) else none) = some r := h
      split at h
      · rename_i h3
        split at h
        · rename_i h4; injection h with h; exact ⟨x, h1, h2, h3, h4, h⟩
        · cases h
      · cases h
  · rintro ⟨x, h1, h2, h3, h4, h5⟩
    rw [(byF_get hs).2 ⟨h1, h2⟩]
    show (if x.of_ = b then (if x.person = p then some x.party else none) else none) = some r
    rw [if_pos h3, if_pos h4, h5]
theorem provF_cons (B : ByM) (b : Bool) (no : Int) (r : List Int) (p : Int) : provF B b (no :: r) p = (stp B b no p).bind (provF B true r) := by
  unfold stp
  show (match aget no B with | none => none | some x => if x.of_ = b then (if x.person = p then provF B true r x.party else none) else none) = _
  cases aget no B with
  | none => rfl
  | some x =>
    show (if x.of_ = b then (if x.person = p then provF B true r x.party else none) else none) = Option.bind (if x.of_ = b then (if x.person = p then some x.party else none) else none) _
    split
    · split <;> rfl
    · rfl
theorem provF_snoc (B : ByM) (no : Int) : ∀ (q : List Int) (b : Bool) (p : Int), provF B b (q ++ [no]) p = (provF B b q p).bind (fun r => stp B (b || !q.isEmpty) no r)
  | [], b, p => by
    rw [List.nil_append, provF_cons]
    show _ = stp B (b || !true) no p
    rw [show (b || !true) = b by cases b <;> rfl]
    cases stp B b no p <;> rfl
  | a :: q, b, p => by
    rw [List.cons_append, provF_cons, provF_cons]
    cases stp B b a p with
    | none => rfl
    | some r =>
      show provF B true (q ++ [no]) r = (provF B true q r).bind (fun r => stp B (b || !false) no r)
      rw [provF_snoc B no q true r]
      congr 1
      funext r
      rw [Bool.true_or, show (b || !false) = true by cases b <;> rfl]
/-! ### One round of the search -/
theorem putW_or (ws : List Wy) (w : Wy) : (putW ws w = ws ∧ ∃ v ∈ ws, v.to = w.to) ∨ putW ws w = ws ++ [w] := by
  unfold putW
  cases h : hasW ws w.to with
  | true =>
    refine .inl ⟨rfl, ?_⟩
    unfold hasW at h
    obtain ⟨v, hv, e⟩ := List.any_eq_true.1 h
    exact ⟨v, hv, of_decide_eq_true e⟩
  | false => exact .inr rfl
structure Fold (π : List Int) (L : List It) (ws0 ws : List Wy) : Prop where
  srt : ws.Pairwise (fun a b => befB a.path b.path = true)
  pre : ∃ z, ws = ws0 ++ z
  from_ : ∀ v ∈ ws, v ∈ ws0 ∨ ∃ x ∈ L, v = ⟨π ++ [x.no], x.party⟩
  all : ∀ x ∈ L, ∃ v ∈ ws, v.to = x.party ∧ leP v.path (π ++ [x.no])
theorem fold_put (w : Wy) : ∀ (L : List It) (ws0 : List Wy), L.Pairwise (fun a b => a.no < b.no) → (∀ v ∈ ws0, ∀ x ∈ L, befB v.path (w.path ++ [x.no]) = true) → ws0.Pairwise (fun a b => befB a.path b.path = true) → Fold w.path L ws0 (expW w L ws0)
  | [], ws0, _, _, hs => ⟨hs, ⟨[], by simp [expW]⟩, fun v hv => .inl hv, fun x hx => by cases hx⟩
  | x :: L, ws0, hL, hlt, hs => by
    obtain ⟨hx, hL⟩ := List.pairwise_cons.1 hL
    show Fold w.path (x :: L) ws0 (expW w L (putW ws0 ⟨w.path ++ [x.no], x.party⟩))
    rcases putW_or ws0 ⟨w.path ++ [x.no], x.party⟩ with ⟨e, v0, hv0, ht⟩ | e
    · rw [e]
      have ih := fold_put w L ws0 hL (fun v hv y hy => hlt v hv y (List.mem_cons_of_mem _ hy)) hs
      refine ⟨ih.srt, ih.pre, fun v hv => (ih.from_ v hv).imp id fun ⟨y, hy, e⟩ => ⟨y, List.mem_cons_of_mem _ hy, e⟩, fun y hy => ?_⟩
      rcases List.mem_cons.1 hy with rfl | hy
      · obtain ⟨z, hz⟩ := ih.pre
        exact ⟨v0, by rw [hz]; exact List.mem_append_left _ hv0, ht, .inr (hlt v0 hv0 y (by simp))⟩
      · exact ih.all y hy
    · rw [e]
      have ih := fold_put w L (ws0 ++ [⟨w.path ++ [x.no], x.party⟩]) hL (fun v hv y hy => by
        rcases List.mem_append.1 hv with hv | hv
        · exact hlt v hv y (List.mem_cons_of_mem _ hy)
        · simp at hv; subst hv; exact bef_last (hx y hy)) (by
        rw [List.pairwise_append]
        refine ⟨hs, by simp, fun a ha b hb => ?_⟩
        simp at hb; subst hb; exact hlt a ha x (by simp))
      obtain ⟨z, hz⟩ := ih.pre
      refine ⟨ih.srt, ⟨⟨w.path ++ [x.no], x.party⟩ :: z, by rw [hz]; simp⟩, fun v hv => ?_, fun y hy => ?_⟩
      · rcases ih.from_ v hv with h | ⟨y, hy, e⟩
        · rcases List.mem_append.1 h with h | h
          · exact .inl h
          · simp at h; exact .inr ⟨x, by simp, h⟩
        · exact .inr ⟨y, List.mem_cons_of_mem _ hy, e⟩
      · rcases List.mem_cons.1 hy with rfl | hy
        · exact ⟨⟨w.path ++ [y.no], y.party⟩, by rw [hz]; simp, rfl, leP.refl _⟩
        · exact ih.all y hy
theorem iniW_exp (who : Int) (S : List It) : iniW who S = expW ⟨[], 0⟩ (S.filter fun x => !x.of_ && decide (x.person = who)) [] := by
  unfold iniW expW
  rw [List.foldl_filter]
  congr 1
end Go.Proofs.Ythlpjjnfcpjgoaa

namespace Go.Proofs.Ythlpjjnfcpjgoaa
open Go Go.Sg
set_option maxRecDepth 100000
set_option maxHeartbeats 4000000
theorem pw_get {α : Type} {R : α → α → Prop} {l : List α} (h : l.Pairwise R) {i j : Nat} {a b : α} (hij : i < j) (ha : l[i]? = some a) (hb : l[j]? = some b) : R a b := by
  obtain ⟨h1, h2⟩ := List.getElem?_eq_some_iff.1 ha
  obtain ⟨h3, h4⟩ := List.getElem?_eq_some_iff.1 hb
  rw [← h2, ← h4]
  exact List.pairwise_iff_getElem.1 h i j h1 h3 hij
/-- What holds when the ways up to `k` have been gone on from. -/
structure Inv (S : List It) (who : Int) (P : List Int) (ways : List Wy) (k : Nat) : Prop where
  srt : ways.Pairwise (fun a b => befB a.path b.path = true)
  val : ∀ w ∈ ways, provF (byF S) false w.path who = some w.to ∧ 1 ≤ w.path.length ∧ w.path.length ≤ 8
  ini : ∀ no p, stp (byF S) false no who = some p → ∃ v ∈ ways, v.to = p ∧ leP v.path [no]
  cls : ∀ (j : Nat) w, j < k → ways[j]? = some w → w.path.length < 8 → ∀ no r, stp (byF S) true no w.to = some r → ∃ v ∈ ways, v.to = r ∧ leP v.path (w.path ++ [no])
  notP : ∀ (j : Nat) w, j < k → ways[j]? = some w → hasB P w.to = false
  gen : ∀ v ∈ ways, v.path.length = 1 ∨ ∃ (j : Nat) (w : Wy) (n : Int), j < k ∧ ways[j]? = some w ∧ v.path = w.path ++ [n]
theorem inv_ini {S : List It} (hs : S.Pairwise (fun a b => a.no < b.no)) (who : Int) (P : List Int) : Inv S who P (iniW who S) 0 := by
  have F := fold_put ⟨[], 0⟩ (S.filter fun x => !x.of_ && decide (x.person = who)) [] (List.Pairwise.sublist List.filter_sublist hs) (fun v hv => by cases hv) List.Pairwise.nil
  rw [← iniW_exp] at F
  have hm : ∀ x, x ∈ (S.filter fun x => !x.of_ && decide (x.person = who)) ↔ x ∈ S ∧ x.of_ = false ∧ x.person = who := fun x => by
    rw [List.mem_filter]; simp
  refine ⟨F.srt, fun v hv => ?_, fun no p h => ?_, fun j w h => absurd h (by omega), fun j w h => absurd h (by omega), fun v hv => ?_⟩
  · rcases F.from_ v hv with h | ⟨x, hx, e⟩
    · cases h
    · subst e
      obtain ⟨h1, h2, h3⟩ := (hm x).1 hx
      refine ⟨?_, by simp, by simp⟩
      show provF (byF S) false [x.no] who = some x.party
      rw [provF_cons, (stp_some hs).2 ⟨x, h1, rfl, h2, h3, rfl⟩]; rfl
  · obtain ⟨x, h1, h2, h3, h4, h5⟩ := (stp_some hs).1 h
    obtain ⟨v, hv, e1, e2⟩ := F.all x ((hm x).2 ⟨h1, h3, h4⟩)
    exact ⟨v, hv, e1.trans h5, by rw [← h2]; exact e2⟩
  · rcases F.from_ v hv with h | ⟨x, hx, e⟩
    · cases h
    · subst e; exact .inl (by simp)
section
variable {S : List It} {who : Int} {P : List Int} {ways : List Wy} {k : Nat} {w : Wy}
theorem inv_skip (I : Inv S who P ways k) (hw : ways[k]? = some w) (hp : hasB P w.to = false) (h8 : w.path.length = 8) : Inv S who P ways (k + 1) := by
  refine ⟨I.srt, I.val, I.ini, fun j v hj hv hl => ?_, fun j v hj hv => ?_, fun v hv => ?_⟩
  · rcases Nat.lt_succ_iff_lt_or_eq.1 hj with h | h
    · exact I.cls j v h hv hl
    · rw [h, hw] at hv; injection hv with hv; subst hv; omega
  · rcases Nat.lt_succ_iff_lt_or_eq.1 hj with h | h
    · exact I.notP j v h hv
    · rw [h, hw] at hv; injection hv with hv; subst hv; exact hp
  · exact (I.gen v hv).imp id fun ⟨j, u, n, h1, h2, h3⟩ => ⟨j, u, n, by omega, h2, h3⟩
theorem inv_step (hs : S.Pairwise (fun a b => a.no < b.no)) (I : Inv S who P ways k) (hw : ways[k]? = some w) (hp : hasB P w.to = false) : Inv S who P (expW w (frm S w.to) ways) (k + 1) ∨ w.path.length = 8 := by
  by_cases h8 : w.path.length = 8
  · exact .inr h8
  have hwm := I.val w (List.mem_of_getElem? hw)
  have hk : k < ways.length := (List.getElem?_eq_some_iff.1 hw).1
  have hm : ∀ x, x ∈ frm S w.to ↔ x ∈ S ∧ x.of_ = true ∧ x.person = w.to := fun x => by
    unfold frm; rw [List.mem_filter]; simp
  have F := fold_put w (frm S w.to) ways (List.Pairwise.sublist List.filter_sublist hs) (fun v hv x hx => by
    rcases I.gen v hv with h | ⟨j, u, n, h1, h2, h3⟩
    · exact bef_short (by simp; omega)
    · rw [h3]; exact bef_app (pw_get I.srt h1 h2 hw) _ _) I.srt
  obtain ⟨z, hz⟩ := F.pre
  have hin : ∀ v, v ∈ ways → v ∈ expW w (frm S w.to) ways := fun v hv => by rw [hz]; exact List.mem_append_left _ hv
  have hget : ∀ j, j < ways.length → (expW w (frm S w.to) ways)[j]? = ways[j]? := fun j hj => by rw [hz, List.getElem?_append_left hj]
  refine .inl ⟨F.srt, fun v hv => ?_, fun no p h => ?_, fun j v hj hv hl no r h => ?_, fun j v hj hv => ?_, fun v hv => ?_⟩
  · rcases F.from_ v hv with h | ⟨x, hx, e⟩
    · exact I.val v h
    · subst e
      obtain ⟨h1, h2, h3⟩ := (hm x).1 hx
      refine ⟨?_, by simp, by simp; omega⟩
      show provF (byF S) false (w.path ++ [x.no]) who = some x.party
      rw [provF_snoc, hwm.1]
      show stp (byF S) (false || !w.path.isEmpty) x.no w.to = some x.party
      have he : (false || !w.path.isEmpty) = true := by
        cases hpp : w.path with
        | nil => rw [hpp] at hwm; simp at hwm
        | cons a b => rfl
      rw [he]; exact (stp_some hs).2 ⟨x, h1, rfl, h2, h3, rfl⟩
  · obtain ⟨v, hv, e1, e2⟩ := I.ini no p h
    exact ⟨v, hin v hv, e1, e2⟩
  · rcases Nat.lt_succ_iff_lt_or_eq.1 hj with hj | hj
    · rw [hget j (by omega)] at hv
      obtain ⟨u, hu, e1, e2⟩ := I.cls j v hj hv hl no r h
      exact ⟨u, hin u hu, e1, e2⟩
    · rw [hj, hget k hk, hw] at hv; injection hv with hv; subst hv
      obtain ⟨x, h1, h2, h3, h4, h5⟩ := (stp_some hs).1 h
      obtain ⟨u, hu, e1, e2⟩ := F.all x ((hm x).2 ⟨h1, h3, h4⟩)
      exact ⟨u, hu, e1.trans h5, by rw [← h2]; exact e2⟩
  · rcases Nat.lt_succ_iff_lt_or_eq.1 hj with hj | hj
    · rw [hget j (by omega)] at hv; exact I.notP j v hj hv
    · rw [hj, hget k hk, hw] at hv; injection hv with hv; subst hv; exact hp
  · rcases F.from_ v hv with h | ⟨x, hx, e⟩
    · exact (I.gen v h).imp id fun ⟨j, u, n, h1, h2, h3⟩ => ⟨j, u, n, by omega, by rw [hget j (by have := (List.getElem?_eq_some_iff.1 h2).1; omega)]; exact h2, h3⟩
    · subst e; exact .inr ⟨k, w, x.no, by omega, by rw [hget k hk]; exact hw, rfl⟩
theorem reach (I : Inv S who P ways k) (bd : List Int → Prop) (hbd : ∀ (j : Nat) v, ways[j]? = some v → bd v.path → j < k) (hdn : ∀ a b, leP a b → bd b → bd a) :
    ∀ (n : Nat) (q : List Int) (p : Int), q.length = n → provF (byF S) false q who = some p → 1 ≤ n → n ≤ 8 → bd q → ∃ v ∈ ways, v.to = p ∧ leP v.path q
  | 0, _, _, _, _, h, _, _ => absurd h (by omega)
  | n + 1, q, p, hl, hp, _, h8, hb => by
    have hne : q ≠ [] := fun e => by rw [e] at hl; simp at hl
    obtain ⟨q', no, hq⟩ : ∃ q' no, q = q' ++ [no] := ⟨q.dropLast, q.getLast hne, (List.dropLast_concat_getLast hne).symm⟩
    subst hq
    have hl' : q'.length = n := by simpa using hl
    cases q' with
    | nil =>
      rw [List.nil_append, provF_cons] at hp
      cases hst : stp (byF S) false no who with
      | none => rw [hst] at hp; cases hp
      | some r =>
        rw [hst] at hp
        have hp : some r = some p := hp
        injection hp with hp; subst hp
        exact I.ini no r hst
    | cons a q' =>
      rw [provF_snoc] at hp
      cases hpr : provF (byF S) false (a :: q') who with
      | none => rw [hpr] at hp; cases hp
      | some r =>
        rw [hpr] at hp
        have hp : stp (byF S) true no r = some p := hp
        have hn1 : 1 ≤ n := by rw [← hl']; simp
        obtain ⟨v, hv, e1, e2⟩ := reach I bd hbd hdn n (a :: q') r hl' hpr hn1 (by omega) (hdn _ _ (.inr (bef_short (by simp))) hb)
        obtain ⟨j, hj⟩ := List.getElem?_of_mem hv
        have hjk := hbd j v hj (hdn _ _ e2 (hdn _ _ (.inr (bef_short (by simp))) hb))
        obtain ⟨u, hu, f1, f2⟩ := I.cls j v hjk hj (by have := e2.len; omega) no p (by rw [e1]; exact hp)
        exact ⟨u, hu, f1, f2.trans (e2.app no)⟩
end
structure Res (S : List It) (who : Int) (P : List Int) (r : List Int × Bool) : Prop where
  no : r.2 = false → r.1 = [] ∧ ∀ q p, provF (byF S) false q who = some p → 1 ≤ q.length → q.length ≤ 8 → hasB P p = false
  yes : r.2 = true → (∃ p, provF (byF S) false r.1 who = some p ∧ hasB P p = true) ∧ 1 ≤ r.1.length ∧ r.1.length ≤ 8 ∧ ∀ q p, provF (byF S) false q who = some p → 1 ≤ q.length → q.length ≤ 8 → hasB P p = true → befB q r.1 = false
theorem srch_res {S : List It} (hs : S.Pairwise (fun a b => a.no < b.no)) (who : Int) (P : List Int) : ∀ (n : Nat) (ways : List Wy) (k : Nat), n = S.length + 1 - k → OkW S ways → k ≤ ways.length → Inv S who P ways k → Res S who P (srch P S n ways k)
  | 0, ways, k, hn, ho, hk, I => by have := ho.len; omega
  | n + 1, ways, k, hn, ho, hk, I => by
    cases hw : ways[k]? with
    | none =>
      rw [srch_none hw]
      have hge : ways.length ≤ k := List.getElem?_eq_none_iff.1 hw
      refine ⟨fun _ => ⟨rfl, fun q p h h1 h8 => ?_⟩, fun h => absurd h Bool.noConfusion⟩
      obtain ⟨v, hv, e1, _⟩ := reach I (fun _ => True) (fun j v hj _ => by have := (List.getElem?_eq_some_iff.1 hj).1; omega) (fun _ _ _ _ => trivial) q.length q p rfl h h1 h8 trivial
      obtain ⟨j, hj⟩ := List.getElem?_of_mem hv
      rw [← e1]; exact I.notP j v (by have := (List.getElem?_eq_some_iff.1 hj).1; omega) hj
    | some w =>
      have hlt : k < ways.length := (List.getElem?_eq_some_iff.1 hw).1
      have hwm := I.val w (List.mem_of_getElem? hw)
      rw [srch_some hw]
      cases hb : hasB P w.to with
      | true =>
        rw [if_pos rfl]
        refine ⟨fun h => absurd h Bool.noConfusion, fun _ => ⟨⟨w.to, hwm.1, hb⟩, hwm.2.1, hwm.2.2, fun q p h h1 h8 hp => ?_⟩⟩
        cases hbq : befB q w.path with
        | false => rfl
        | true =>
          exfalso
          have hbd : ∀ (j : Nat) v, ways[j]? = some v → befB v.path w.path = true → j < k := fun j v hj hbv => by
            rcases Nat.lt_trichotomy j k with h | h | h
            · exact h
            · rw [h, hw] at hj; injection hj with hj; subst hj; rw [bef_irr] at hbv; cases hbv
            · have := bef_trans (pw_get I.srt h hw hj) hbv; rw [bef_irr] at this; cases this
          obtain ⟨v, hv, e1, e2⟩ := reach I (fun a => befB a w.path = true) hbd (fun a b h g => h.lt g) q.length q p rfl h h1 h8 hbq
          obtain ⟨j, hj⟩ := List.getElem?_of_mem hv
          have := I.notP j v (hbd j v hj (e2.lt hbq)) hj
          rw [e1, hp] at this; cases this
      | false =>
        rw [if_neg Bool.false_ne_true]
        by_cases h8 : w.path.length = 8
        · rw [if_pos h8]
          exact srch_res hs who P n ways (k + 1) (by omega) ho hlt (inv_skip I hw hb h8)
        · rw [if_neg h8]
          have ho2 : OkW S (expW w (frm S w.to) ways) := by
            have := exp_ok (L := frm S w.to) (w := w) ho (fun x hx => frm_mem hx) (by have := hwm.2.2; omega) (frm S w.to).length
            rwa [List.take_length] at this
          have hle : k + 1 ≤ (expW w (frm S w.to) ways).length := by
            obtain ⟨z, hz⟩ := exp_pre (L := frm S w.to) (w := w) (ways := ways) (frm S w.to).length
            rw [List.take_length] at hz
            rw [hz, List.length_append]; omega
          rcases inv_step hs I hw hb with I2 | e
          · exact srch_res hs who P n _ (k + 1) (by omega) ho2 hle I2
          · exact absurd e h8
theorem conF_res {S : List It} (hs : S.Pairwise (fun a b => a.no < b.no)) (who : Int) (P : List Int) : Res S who P (conF S P who) := by
  have h := ini_ok (S := S) who S.length
  rw [List.take_length] at h
  exact srch_res hs who P (S.length + 1) (iniW who S) 0 (by omega) h (Nat.zero_le _) (inv_ini hs who P)
theorem stL_srt {t k : Int} {l : List It} (hz : chkA l = 0) : (stL t k l).Pairwise (fun a b => a.no < b.no) := List.Pairwise.sublist List.filter_sublist (chkA_srt hz).2.2
end Go.Proofs.Ythlpjjnfcpjgoaa

namespace Go.Proofs.Ythlpjjnfcpjgoaa
open Go Go.Sg
set_option maxRecDepth 100000
set_option maxHeartbeats 20000000
theorem provG_iff {B : ByM} {P path : List Int} {who : Int} : provG B P path who = true ↔ ∃ p, provF B false path who = some p ∧ hasB P p = true := by
  unfold provG
  constructor
  · intro h
    cases hp : provF B false path who with
    | none => rw [hp] at h; cases h
    | some p => rw [hp] at h; exact ⟨p, rfl, h⟩
  · rintro ⟨p, h, hp⟩; rw [h]; exact hp
theorem path_calls (l : List It) (who : Int) (P : List Int) (t k : Int) (p : List Int) (hPU : P.length < 140737488355328) : PCalls Try.prog 5 [eL l, eI who, eIs P, eI t, eI k, eIs p] (.bool true) := by
  have q0 := lright_calls l who P t k hPU
  cases hr : rightL l who P t k with
  | false =>
    rw [hr] at q0
    refine PCalls.of (N := 94) (res := [.tmp 12]) mixed Try.func5 rfl rfl rfl (by kernel_rfl) (by simp) [0, 1, 2, 3, 4, 5, 12, 13, 14, 15, 16, 17, 18, 19, 21, 33, 59, 61] ?_
    repeat' (first | exact cl1 | ((with_reducible show Exists _); first | exact exHM _ | refine exU8 ?_) | ((with_reducible show callX _ _ _ _ _); (first | refine call_p (sane_calls) (by kernel_rfl) rfl ?_ | refine call_p (q0) (by kernel_rfl) rfl ?_)) | ((fail_if_success with_reducible first | show LeG _ _ | show Lp _ _ _ _ | show Exists _ | show callX _ _ _ _ _ | show (_ : Int) ≤ _ | show (_ : Int) < _ | show (_ : Nat) ≤ _ | show (_ : Nat) < _); (conv => whnf) <;> (first | exact cl2 | refine XAlt.l ?_ | refine Sq.pr ?_ | refine Br.dec (fun hc => ?_) (fun hc => ?_) | refine Br.tt ?_ | refine Br.ff ?_ | refine Br.not ?_ | refine Br.mk (fun hc => ?_) (fun hc => ?_) | refine Opt.nn ?_ | refine Opt.ss ?_ | refine AltA.l ?_ | exact PV.leL_nil | refine PV.leL_cons ?_ ?_ | refine And.intro ?_ ?_ | refine ix_map (fun x hx => ?_) | refine exU8 ?_ | refine nilc (fun hn => ?_) ?_ | exact cl3 | refine imp0 (fun hpos => ?_) | refine fits_i64 ?_ ?_ | exact rfl | exact trivial | (with_reducible first | show LeG _ _ | show Lp _ _ _ _ | show Exists _ | show callX _ _ _ _ _)))) <;> (try exact cl5)
  | true =>
    rw [hr] at q0
    obtain ⟨hl40, hz, hP16⟩ := rightL_ok hr
    have hl : l.length < 1000000 := by omega
    have hP : P.length < 1000000 := by omega
    by_cases hp : p.length ≤ 100
    · have hp1 : ¬ (100 : Int) < ((p.map eI).length : Int) := by rw [List.length_map]; omega
      have R := conF_res (stL_srt (t := t) (k := k) (examA_ok hz).1) who P
      have q1 := conflict_calls l who P t k hl hP
      have q2 : ∀ r : List Int, PCalls Try.prog 18 [eL l, eI who, eIs P, eI t, eI k, eIs r] (eP (if 1 ≤ r.length ∧ r.length ≤ 8 then provG (byF (stL t k l)) P r who else false, 0)) := fun r => by
        have := proves_calls l who P t k r hl hP
        unfold provA at this
        rw [if_pos hz] at this
        by_cases h : 1 ≤ r.length ∧ r.length ≤ 8
        · rw [if_pos h] at this ⊢; exact this
        · rw [if_neg h] at this ⊢; exact this
      have hlen := conF_len (stL t k l) P who
      unfold conA at q1
      rw [if_pos hz] at q1
      generalize hS : stL t k l = S at *
      generalize hc : conF S P who = c at *
      obtain ⟨own, ok⟩ := c
      have q3 := q2 p
      have hacc : ∀ r : List Int, (if 1 ≤ r.length ∧ r.length ≤ 8 then provG (byF S) P r who else false) = true → 1 ≤ r.length ∧ r.length ≤ 8 ∧ ∃ x, provF (byF S) false r who = some x ∧ hasB P x = true := fun r h => by
        by_cases h1 : 1 ≤ r.length ∧ r.length ≤ 8
        · rw [if_pos h1] at h; exact ⟨h1.1, h1.2, provG_iff.1 h⟩
        · rw [if_neg h1] at h; cases h
      cases ok with
      | false =>
        obtain ⟨ho, hno⟩ := R.no rfl
        have ho : own = [] := ho
        subst ho
        have hpf : (if 1 ≤ p.length ∧ p.length ≤ 8 then provG (byF S) P p who else false) = false := by
          cases h : (if 1 ≤ p.length ∧ p.length ≤ 8 then provG (byF S) P p who else false) with
          | false => rfl
          | true =>
            obtain ⟨h1, h2, x, h3, h4⟩ := hacc p h
            rw [hno p x h3 h1 h2] at h4; cases h4
        rw [hpf] at q3
        refine PCalls.of (N := 94) (res := [.tmp 12]) mixed Try.func5 rfl rfl rfl (by kernel_rfl) (by simp) [0, 1, 2, 3, 4, 5, 12, 13, 14, 15, 16, 17, 18, 19, 21, 33, 59, 61] ?_
        repeat' (first | exact cl1 | ((with_reducible show Exists _); first | exact exHM _ | refine exU8 ?_) | ((with_reducible show callX _ _ _ _ _); (first | refine call_p (sane_calls) (by kernel_rfl) rfl ?_ | refine call_p (q0) (by kernel_rfl) rfl ?_ | refine call_p (q1) (by kernel_rfl) rfl ?_ | refine call_p (q3) (by kernel_rfl) rfl ?_)) | ((fail_if_success with_reducible first | show LeG _ _ | show Lp _ _ _ _ | show Exists _ | show callX _ _ _ _ _ | show (_ : Int) ≤ _ | show (_ : Int) < _ | show (_ : Nat) ≤ _ | show (_ : Nat) < _); (conv => whnf) <;> (first | exact cl2 | refine Br.dec (fun hc => absurd hc hp1) (fun hc => ?_) | refine XAlt.l ?_ | refine Sq.pr ?_ | refine Br.dec (fun hc => ?_) (fun hc => ?_) | refine Br.tt ?_ | refine Br.ff ?_ | refine Br.not ?_ | refine Br.mk (fun hc => ?_) (fun hc => ?_) | refine Opt.nn ?_ | refine Opt.ss ?_ | refine AltA.l ?_ | exact PV.leL_nil | refine PV.leL_cons ?_ ?_ | refine And.intro ?_ ?_ | refine ix_map (fun x hx => ?_) | refine exU8 ?_ | refine nilc (fun hn => ?_) ?_ | exact cl3 | refine imp0 (fun hpos => ?_) | refine fits_i64 ?_ ?_ | exact rfl | exact trivial | (with_reducible first | show LeG _ _ | show Lp _ _ _ _ | show Exists _ | show callX _ _ _ _ _)))) <;> (try exact cl5)
        all_goals exact absurd rfl hc
      | true =>
        obtain ⟨hx, h1, h8, hmin⟩ := R.yes rfl
        have h1 : 1 ≤ own.length := h1
        have h8 : own.length ≤ 8 := h8
        have q4 := q2 own
        rw [if_pos ⟨h1, h8⟩, provG_iff.2 hx] at q4
        have q5 := before_calls p own (by omega)
        cases hpf : (if 1 ≤ p.length ∧ p.length ≤ 8 then provG (byF S) P p who else false) with
        | false =>
          rw [hpf] at q3
          refine PCalls.of (N := 94) (res := [.tmp 12]) mixed Try.func5 rfl rfl rfl (by kernel_rfl) (by simp) [0, 1, 2, 3, 4, 5, 12, 13, 14, 15, 16, 17, 18, 19, 21, 33, 59, 61] ?_
          repeat' (first | exact cl1 | ((with_reducible show Exists _); first | exact exHM _ | refine exU8 ?_) | ((with_reducible show callX _ _ _ _ _); (first | refine call_p (sane_calls) (by kernel_rfl) rfl ?_ | refine call_p (q0) (by kernel_rfl) rfl ?_ | refine call_p (q1) (by kernel_rfl) rfl ?_ | refine call_p (q3) (by kernel_rfl) rfl ?_ | refine call_p (q4) (by kernel_rfl) rfl ?_ | refine call_p (q5) (by kernel_rfl) rfl ?_)) | ((fail_if_success with_reducible first | show LeG _ _ | show Lp _ _ _ _ | show Exists _ | show callX _ _ _ _ _ | show (_ : Int) ≤ _ | show (_ : Int) < _ | show (_ : Nat) ≤ _ | show (_ : Nat) < _); (conv => whnf) <;> (first | exact cl2 | refine Br.dec (fun hc => absurd hc hp1) (fun hc => ?_) | refine XAlt.l ?_ | refine Sq.pr ?_ | refine Br.dec (fun hc => ?_) (fun hc => ?_) | refine Br.tt ?_ | refine Br.ff ?_ | refine Br.not ?_ | refine Br.mk (fun hc => ?_) (fun hc => ?_) | refine Opt.nn ?_ | refine Opt.ss ?_ | refine AltA.l ?_ | exact PV.leL_nil | refine PV.leL_cons ?_ ?_ | refine And.intro ?_ ?_ | refine ix_map (fun x hx => ?_) | refine exU8 ?_ | refine nilc (fun hn => ?_) ?_ | exact cl3 | refine imp0 (fun hpos => ?_) | refine fits_i64 ?_ ?_ | exact rfl | exact trivial | (with_reducible first | show LeG _ _ | show Lp _ _ _ _ | show Exists _ | show callX _ _ _ _ _)))) <;> (try exact cl5)
          all_goals exact absurd rfl hc
        | true =>
          rw [hpf] at q3
          obtain ⟨g1, g2, x, g3, g4⟩ := hacc p hpf
          have hb : befB p own = false := hmin p x g3 g1 g2 g4
          rw [hb] at q5
          refine PCalls.of (N := 94) (res := [.tmp 12]) mixed Try.func5 rfl rfl rfl (by kernel_rfl) (by simp) [0, 1, 2, 3, 4, 5, 12, 13, 14, 15, 16, 17, 18, 19, 21, 33, 59, 61] ?_
          repeat' (first | exact cl1 | ((with_reducible show Exists _); first | exact exHM _ | refine exU8 ?_) | ((with_reducible show callX _ _ _ _ _); (first | refine call_p (sane_calls) (by kernel_rfl) rfl ?_ | refine call_p (q0) (by kernel_rfl) rfl ?_ | refine call_p (q1) (by kernel_rfl) rfl ?_ | refine call_p (q3) (by kernel_rfl) rfl ?_ | refine call_p (q4) (by kernel_rfl) rfl ?_ | refine call_p (q5) (by kernel_rfl) rfl ?_)) | ((fail_if_success with_reducible first | show LeG _ _ | show Lp _ _ _ _ | show Exists _ | show callX _ _ _ _ _ | show (_ : Int) ≤ _ | show (_ : Int) < _ | show (_ : Nat) ≤ _ | show (_ : Nat) < _); (conv => whnf) <;> (first | exact cl2 | refine Br.dec (fun hc => absurd hc hp1) (fun hc => ?_) | refine XAlt.l ?_ | refine Sq.pr ?_ | refine Br.dec (fun hc => ?_) (fun hc => ?_) | refine Br.tt ?_ | refine Br.ff ?_ | refine Br.not ?_ | refine Br.mk (fun hc => ?_) (fun hc => ?_) | refine Opt.nn ?_ | refine Opt.ss ?_ | refine AltA.l ?_ | exact PV.leL_nil | refine PV.leL_cons ?_ ?_ | refine And.intro ?_ ?_ | refine ix_map (fun x hx => ?_) | refine exU8 ?_ | refine nilc (fun hn => ?_) ?_ | exact cl3 | refine imp0 (fun hpos => ?_) | refine fits_i64 ?_ ?_ | exact rfl | exact trivial | (with_reducible first | show LeG _ _ | show Lp _ _ _ _ | show Exists _ | show callX _ _ _ _ _)))) <;> (try exact cl5)
          all_goals exact absurd rfl hc
    · have hp1 : (100 : Int) < ((p.map eI).length : Int) := by rw [List.length_map]; omega
      refine PCalls.of (N := 94) (res := [.tmp 12]) mixed Try.func5 rfl rfl rfl (by kernel_rfl) (by simp) [0, 1, 2, 3, 4, 5, 12, 13, 14, 15, 16, 17, 18, 19, 21, 33, 59, 61] ?_
      repeat' (first | exact cl1 | ((with_reducible show Exists _); first | exact exHM _ | refine exU8 ?_) | ((with_reducible show callX _ _ _ _ _); (first | refine call_p (sane_calls) (by kernel_rfl) rfl ?_ | refine call_p (q0) (by kernel_rfl) rfl ?_)) | ((fail_if_success with_reducible first | show LeG _ _ | show Lp _ _ _ _ | show Exists _ | show callX _ _ _ _ _ | show (_ : Int) ≤ _ | show (_ : Int) < _ | show (_ : Nat) ≤ _ | show (_ : Nat) < _); (conv => whnf) <;> (first | exact cl2 | refine Br.dec (fun hc => ?_) (fun hc => absurd hp1 hc) | refine XAlt.l ?_ | refine Sq.pr ?_ | refine Br.dec (fun hc => ?_) (fun hc => ?_) | refine Br.tt ?_ | refine Br.ff ?_ | refine Br.not ?_ | refine Br.mk (fun hc => ?_) (fun hc => ?_) | refine Opt.nn ?_ | refine Opt.ss ?_ | refine AltA.l ?_ | exact PV.leL_nil | refine PV.leL_cons ?_ ?_ | refine And.intro ?_ ?_ | refine ix_map (fun x hx => ?_) | refine exU8 ?_ | refine nilc (fun hn => ?_) ?_ | exact cl3 | refine imp0 (fun hpos => ?_) | refine fits_i64 ?_ ?_ | exact rfl | exact trivial | (with_reducible first | show LeG _ _ | show Lp _ _ _ _ | show Exists _ | show callX _ _ _ _ _)))) <;> (try exact cl5)
end Go.Proofs.Ythlpjjnfcpjgoaa

namespace Go.Proofs.Ythlpjjnfcpjgoaa
open Go Go.Sg
set_option maxRecDepth 100000
theorem rI : Rdc Try.prog 3 Int (fun n => [eI n]) (fun n => (Lit.int .i64 n).wf = true) := Rdc.int (by kernel_rfl) (by kernel_rfl)
theorem rBool : Rdc Try.prog 4 Bool (fun n => [.bool n]) (fun _ => True) := Rdc.bool (by kernel_rfl) (by kernel_rfl)
def okIt (x : It) : Prop := (Lit.int .i64 x.no).wf = true ∧ (Lit.int .i64 x.tm).wf = true ∧ (Lit.int .i64 x.known).wf = true ∧ (Lit.int .i64 x.person).wf = true ∧ (Lit.int .i64 x.party).wf = true
theorem rIt : Rdc Try.prog 24 It (fun x => [eI x.no, eI x.tm, eI x.known, eI x.person, eI x.party, .bool x.of_, .bool x.gone]) okIt := by
  have h := Rdc.struct (P := Try.prog) (t := 24) Try.underlying24 (Rdf.cons rI (Rdf.cons rI (Rdf.cons rI (Rdf.cons rI (Rdf.cons rI (Rdf.cons rBool (Rdf.cons rBool Rdf.nil (by kernel_rfl) rfl) (by kernel_rfl) rfl) (by kernel_rfl) rfl) (by kernel_rfl) rfl) (by kernel_rfl) rfl) (by kernel_rfl) rfl) (by kernel_rfl) rfl) (by kernel_rfl)
  exact h.map (fun x => (⟨x.1, x.2.1, x.2.2.1, x.2.2.2.1, x.2.2.2.2.1, x.2.2.2.2.2.1, x.2.2.2.2.2.2.1⟩ : It)) (fun w => (w.no, w.tm, w.known, w.person, w.party, w.of_, w.gone, ())) (fun _ => rfl) (fun _ _ => rfl)
    (fun x h => ⟨h.1, h.2.1, h.2.2.1, h.2.2.2.1, h.2.2.2.2.1⟩) (fun y h => ⟨h.1, h.2.1, h.2.2.1, h.2.2.2.1, h.2.2.2.2, trivial, trivial, trivial⟩)
def okL (l : List It) : Prop := l.length ≤ reachBytes ∧ ∀ b ∈ l, okIt b
theorem rL : Rdc Try.prog 22 (List It) (fun b => [eL b]) okL :=
  Rdc.slice (e := 24) (sz := 7) (by kernel_rfl) (by kernel_rfl) rIt (by kernel_rfl) (by decide) (of_decide_eq_true (by kernel_rfl)) (fun _ _ => rfl)
def okIs (l : List Int) : Prop := l.length ≤ reachBytes ∧ ∀ b ∈ l, (Lit.int .i64 b).wf = true
theorem rIs : Rdc Try.prog 33 (List Int) (fun b => [eIs b]) okIs :=
  Rdc.slice (e := 3) (sz := 1) (by kernel_rfl) (by kernel_rfl) rI (by kernel_rfl) (by decide) (of_decide_eq_true (by kernel_rfl)) (fun _ _ => rfl)
theorem rU8 : Rdc Try.prog 5 Int (fun n => [.int .u8 n]) (fun n => (Lit.int .u8 n).wf = true) := Rdc.int (by kernel_rfl) (by kernel_rfl)
theorem aU8 : Rda Try.prog 5 Int (fun n => .int .u8 n) (fun n => (Lit.int .u8 n).wf = true) := Rda.one rU8 (by kernel_rfl)
theorem wf_u8 {n : Int} (h : (Lit.int .u8 n).wf = true) : 0 ≤ n ∧ n ≤ 255 := by
  simp [Lit.wf, IntKind.min, IntKind.max, IntKind.signed, IntKind.bits] at h; omega
theorem aIt : Rda Try.prog 24 It eA okIt := Rda.agg rIt (by kernel_rfl)
theorem aI : Rda Try.prog 3 Int eI (fun n => (Lit.int .i64 n).wf = true) := Rda.one rI (by kernel_rfl)
theorem aL : Rda Try.prog 22 (List It) eL okL := Rda.one rL (by kernel_rfl)
theorem aIs : Rda Try.prog 33 (List Int) eIs okIs := Rda.one rIs (by kernel_rfl)
theorem okL.len {l : List It} (h : okL l) : l.length < 140737488355328 := Nat.lt_of_le_of_lt h.1 reachBytes_lt
theorem okIs.len {l : List Int} (h : okIs l) : l.length < 140737488355328 := Nat.lt_of_le_of_lt h.1 reachBytes_lt
theorem own : ownKnob Try.prog.godebug = none := by kernel_rfl
end Go.Proofs.Ythlpjjnfcpjgoaa
