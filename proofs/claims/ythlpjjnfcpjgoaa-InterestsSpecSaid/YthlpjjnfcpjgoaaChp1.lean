/- A part of the proof: contracts of the functions that the statement reaches. -/
import Derived.Test.YthlpjjnfcpjgoaaChp0
import Derived.Test.YthlpjjnfcpjgoaaRows
set_option linter.unusedSimpArgs false
set_option linter.unusedVariables false
set_option linter.unnecessarySimpa false
namespace Go.Proofs.Ythlpjjnfcpjgoaa
open Go Go.Sg
set_option maxRecDepth 100000
set_option maxHeartbeats 20000000
def i1 : It := ⟨1, 5, 6, 3, 7, false, false⟩
def i2 : It := ⟨2, 5, 5, 7, 9, true, false⟩
def i4 : It := ⟨4, 8, 8, 3, 8, false, false⟩
def i6 : It := ⟨6, 9, 9, 8, 9, true, false⟩
def i9 : It := ⟨9, 20, 20, 3, 7, false, true⟩
def i3 : It := ⟨3, 0, 0, 70, 0, false, false⟩
def i0 : It := ⟨0, 0, 0, 2, 2, true, false⟩
def L5 : List It := [i1, i2, i4, i6, i9]
theorem c1 : PCalls Try.prog 16 [eL [i1, i2, i4, i6, i9], eI 3, eIs [9], eI 10, eI 10] (eC ([1, 2], true, 0)) := by have h := conflict_calls [i1, i2, i4, i6, i9] 3 [9] 10 10 (by decide) (by decide); rwa [show conA [i1, i2, i4, i6, i9] 3 [9] 10 10 = ([1, 2], true, 0) from by kernel_rfl] at h
theorem c2 : PCalls Try.prog 16 [eL [i1, i2, i4, i6, i9], eI 3, eIs [7, 9], eI 10, eI 10] (eC ([1], true, 0)) := by have h := conflict_calls [i1, i2, i4, i6, i9] 3 [7, 9] 10 10 (by decide) (by decide); rwa [show conA [i1, i2, i4, i6, i9] 3 [7, 9] 10 10 = ([1], true, 0) from by kernel_rfl] at h
theorem c3 : PCalls Try.prog 16 [eL [i1, i2, i4, i6, i9], eI 3, eIs [9], eI 10, eI 5] (eC ([], false, 0)) := by have h := conflict_calls [i1, i2, i4, i6, i9] 3 [9] 10 5 (by decide) (by decide); rwa [show conA [i1, i2, i4, i6, i9] 3 [9] 10 5 = ([], false, 0) from by kernel_rfl] at h
theorem c4 : PCalls Try.prog 16 [eL [i1, i2, i4, i6, i9], eI 3, eIs [9], eI 20, eI 20] (eC ([4, 6], true, 0)) := by have h := conflict_calls [i1, i2, i4, i6, i9] 3 [9] 20 20 (by decide) (by decide); rwa [show conA [i1, i2, i4, i6, i9] 3 [9] 20 20 = ([4, 6], true, 0) from by kernel_rfl] at h
theorem c5 : PCalls Try.prog 16 [eL [], eI 0, eIs [5], eI 0, eI 0] (eC ([], false, 0)) := by have h := conflict_calls [] 0 [5] 0 0 (by decide) (by decide); rwa [show conA [] 0 [5] 0 0 = ([], false, 0) from by kernel_rfl] at h
theorem c6 : PCalls Try.prog 16 [eL [], eI 64, eIs [], eI 0, eI 0] (eC ([], false, 1)) := by have h := conflict_calls [] 64 [] 0 0 (by decide) (by decide); rwa [show conA [] 64 [] 0 0 = ([], false, 1) from by kernel_rfl] at h
theorem p1 : PCalls Try.prog 18 [eL [i1, i2, i4, i6, i9], eI 3, eIs [9], eI 10, eI 10, eIs [4, 6]] (eP (true, 0)) := by have h := proves_calls [i1, i2, i4, i6, i9] 3 [9] 10 10 [4, 6] (by decide) (by decide); rwa [show provA [i1, i2, i4, i6, i9] 3 [9] 10 10 [4, 6] = (true, 0) from by kernel_rfl] at h
theorem p2 : PCalls Try.prog 18 [eL [i1, i2, i4, i6, i9], eI 3, eIs [9], eI 10, eI 10, eIs [1, 6]] (eP (false, 0)) := by have h := proves_calls [i1, i2, i4, i6, i9] 3 [9] 10 10 [1, 6] (by decide) (by decide); rwa [show provA [i1, i2, i4, i6, i9] 3 [9] 10 10 [1, 6] = (false, 0) from by kernel_rfl] at h
theorem p3 : PCalls Try.prog 18 [eL [], eI 0, eIs [5], eI 0, eI 0, eIs []] (eP (false, 0)) := by have h := proves_calls [] 0 [5] 0 0 [] (by decide) (by decide); rwa [show provA [] 0 [5] 0 0 [] = (false, 0) from by kernel_rfl] at h
theorem p4 : PCalls Try.prog 18 [eL [i1, i2, i4, i6, i9], eI 3, eIs [9, 9], eI 10, eI 10, eIs [1, 2]] (eP (false, 1)) := by have h := proves_calls [i1, i2, i4, i6, i9] 3 [9, 9] 10 10 [1, 2] (by decide) (by decide); rwa [show provA [i1, i2, i4, i6, i9] 3 [9, 9] 10 10 [1, 2] = (false, 1) from by kernel_rfl] at h
theorem a1 : PCalls Try.prog 11 [eL [i1], eA i2] (eR ([i1, i2], 0)) := by have h := add_calls [i1] i2 (by decide); rwa [show addA [i1] i2 = ([i1, i2], 0) from by kernel_rfl] at h
theorem a2 : PCalls Try.prog 11 [eL [i1, i2, i4, i6, i9], eA i1] (eR ([], 151)) := by have h := add_calls [i1, i2, i4, i6, i9] i1 (by decide); rwa [show addA [i1, i2, i4, i6, i9] i1 = ([], 151) from by kernel_rfl] at h
theorem a3 : PCalls Try.prog 11 [eL [i1, i2, i4, i6, i9], eA i3] (eR ([], 290)) := by have h := add_calls [i1, i2, i4, i6, i9] i3 (by decide); rwa [show addA [i1, i2, i4, i6, i9] i3 = ([], 290) from by kernel_rfl] at h
theorem k0 : PCalls Try.prog 13 [eL []] (eI 0) := by have h := check_calls [] (by decide); rwa [show chkA [] = 0 from by kernel_rfl] at h
theorem k1 : PCalls Try.prog 13 [eL [i1, i2, i4, i6, i9]] (eI 0) := by have h := check_calls [i1, i2, i4, i6, i9] (by decide); rwa [show chkA [i1, i2, i4, i6, i9] = 0 from by kernel_rfl] at h
theorem k2 : PCalls Try.prog 13 [eL [i0]] (eI 290) := by have h := check_calls [i0] (by decide); rwa [show chkA [i0] = 290 from by kernel_rfl] at h
theorem k3 : PCalls Try.prog 13 [.sl 7 false (List.replicate 4097 (eA zIt))] (eI 2) := by
  have h := check_calls (List.replicate 4097 zIt) (by rw [List.length_replicate]; decide)
  have hz : chkA (List.replicate 4097 zIt) = 2 := by unfold chkA chkL; rw [if_pos (by rw [List.length_replicate]; decide)]
  rw [hz] at h
  rwa [show eL (List.replicate 4097 zIt) = .sl 7 false (List.replicate 4097 (eA zIt)) from by unfold eL; rw [List.map_replicate]] at h
theorem k3' : PCalls Try.prog 13 [.sl 7 false (List.take (Int.toNat 4097) (List.drop 0 (List.replicate (Int.toNat 4097) (eA zIt))))] (eI 2) := by
  rw [List.drop_zero, List.take_of_length_le (by rw [List.length_replicate]; exact Nat.le_refl _)]; exact k3
theorem e1 : PCalls Try.prog 20 [eIs [1, 2], eIs [1, 2]] (.bool true) := by have h := sameI_calls [1, 2] [1, 2] (by decide); rwa [show decide (([1, 2] : List Int) = [1, 2]) = true from by kernel_rfl] at h
theorem e2 : PCalls Try.prog 20 [eIs [1], eIs [1]] (.bool true) := by have h := sameI_calls [1] [1] (by decide); rwa [show decide (([1] : List Int) = [1]) = true from by kernel_rfl] at h
theorem e3 : PCalls Try.prog 20 [eIs [4, 6], eIs [4, 6]] (.bool true) := by have h := sameI_calls [4, 6] [4, 6] (by decide); rwa [show decide (([4, 6] : List Int) = [4, 6]) = true from by kernel_rfl] at h
theorem f1 : PCalls Try.prog 15 [eL [i1, i2], eL [i1, i2]] (.bool true) := by have h := same_calls [i1, i2] [i1, i2] (by decide); rwa [show decide ([i1, i2] = [i1, i2]) = true from by kernel_rfl] at h
theorem sane_calls : PCalls Try.prog 9 [] (.bool true) := by
  refine PCalls.of (N := 246) (res := [.tmp 0]) mixed Try.func9 rfl rfl rfl (by kernel_rfl) (by simp) [0, 1, 2, 3, 4, 5, 6, 7, 9, 10, 11, 12, 13, 15, 16, 19, 20, 21, 22, 23, 24, 25, 27, 28, 29, 31, 33, 177, 221] ?_
  repeat' (first | exact cl1 | ((with_reducible show Exists _); first | exact exHM _ | refine exU8 ?_) | ((with_reducible show callX _ _ _ _ _); (first | (refine call_z (c1) (by kernel_rfl) rfl ?_; (repeat' (first | exact PV.leL_nil | refine PV.leL_cons ?_ ?_ | refine And.intro ?_ ?_ | exact Nat.zero_lt_succ _ | exact Nat.le_of_ble_eq_true rfl | exact PV.le_refl _ | exact PV.le_nil _ _ _ | exact PV.le_clip _ _ _ | refine PV.le_agg ?_ | refine PV.le_tup ?_ | rfl)); fail_if_success (any_goals (refine PV.le_of ?_))) | (refine call_z (c2) (by kernel_rfl) rfl ?_; (repeat' (first | exact PV.leL_nil | refine PV.leL_cons ?_ ?_ | refine And.intro ?_ ?_ | exact Nat.zero_lt_succ _ | exact Nat.le_of_ble_eq_true rfl | exact PV.le_refl _ | exact PV.le_nil _ _ _ | exact PV.le_clip _ _ _ | refine PV.le_agg ?_ | refine PV.le_tup ?_ | rfl)); fail_if_success (any_goals (refine PV.le_of ?_))) | (refine call_z (c3) (by kernel_rfl) rfl ?_; (repeat' (first | exact PV.leL_nil | refine PV.leL_cons ?_ ?_ | refine And.intro ?_ ?_ | exact Nat.zero_lt_succ _ | exact Nat.le_of_ble_eq_true rfl | exact PV.le_refl _ | exact PV.le_nil _ _ _ | exact PV.le_clip _ _ _ | refine PV.le_agg ?_ | refine PV.le_tup ?_ | rfl)); fail_if_success (any_goals (refine PV.le_of ?_))) | (refine call_z (c4) (by kernel_rfl) rfl ?_; (repeat' (first | exact PV.leL_nil | refine PV.leL_cons ?_ ?_ | refine And.intro ?_ ?_ | exact Nat.zero_lt_succ _ | exact Nat.le_of_ble_eq_true rfl | exact PV.le_refl _ | exact PV.le_nil _ _ _ | exact PV.le_clip _ _ _ | refine PV.le_agg ?_ | refine PV.le_tup ?_ | rfl)); fail_if_success (any_goals (refine PV.le_of ?_))) | (refine call_z (c5) (by kernel_rfl) rfl ?_; (repeat' (first | exact PV.leL_nil | refine PV.leL_cons ?_ ?_ | refine And.intro ?_ ?_ | exact Nat.zero_lt_succ _ | exact Nat.le_of_ble_eq_true rfl | exact PV.le_refl _ | exact PV.le_nil _ _ _ | exact PV.le_clip _ _ _ | refine PV.le_agg ?_ | refine PV.le_tup ?_ | rfl)); fail_if_success (any_goals (refine PV.le_of ?_))) | (refine call_z (c6) (by kernel_rfl) rfl ?_; (repeat' (first | exact PV.leL_nil | refine PV.leL_cons ?_ ?_ | refine And.intro ?_ ?_ | exact Nat.zero_lt_succ _ | exact Nat.le_of_ble_eq_true rfl | exact PV.le_refl _ | exact PV.le_nil _ _ _ | exact PV.le_clip _ _ _ | refine PV.le_agg ?_ | refine PV.le_tup ?_ | rfl)); fail_if_success (any_goals (refine PV.le_of ?_))) | (refine call_z (p1) (by kernel_rfl) rfl ?_; (repeat' (first | exact PV.leL_nil | refine PV.leL_cons ?_ ?_ | refine And.intro ?_ ?_ | exact Nat.zero_lt_succ _ | exact Nat.le_of_ble_eq_true rfl | exact PV.le_refl _ | exact PV.le_nil _ _ _ | exact PV.le_clip _ _ _ | refine PV.le_agg ?_ | refine PV.le_tup ?_ | rfl)); fail_if_success (any_goals (refine PV.le_of ?_))) | (refine call_z (p2) (by kernel_rfl) rfl ?_; (repeat' (first | exact PV.leL_nil | refine PV.leL_cons ?_ ?_ | refine And.intro ?_ ?_ | exact Nat.zero_lt_succ _ | exact Nat.le_of_ble_eq_true rfl | exact PV.le_refl _ | exact PV.le_nil _ _ _ | exact PV.le_clip _ _ _ | refine PV.le_agg ?_ | refine PV.le_tup ?_ | rfl)); fail_if_success (any_goals (refine PV.le_of ?_))) | (refine call_z (p3) (by kernel_rfl) rfl ?_; (repeat' (first | exact PV.leL_nil | refine PV.leL_cons ?_ ?_ | refine And.intro ?_ ?_ | exact Nat.zero_lt_succ _ | exact Nat.le_of_ble_eq_true rfl | exact PV.le_refl _ | exact PV.le_nil _ _ _ | exact PV.le_clip _ _ _ | refine PV.le_agg ?_ | refine PV.le_tup ?_ | rfl)); fail_if_success (any_goals (refine PV.le_of ?_))) | (refine call_z (p4) (by kernel_rfl) rfl ?_; (repeat' (first | exact PV.leL_nil | refine PV.leL_cons ?_ ?_ | refine And.intro ?_ ?_ | exact Nat.zero_lt_succ _ | exact Nat.le_of_ble_eq_true rfl | exact PV.le_refl _ | exact PV.le_nil _ _ _ | exact PV.le_clip _ _ _ | refine PV.le_agg ?_ | refine PV.le_tup ?_ | rfl)); fail_if_success (any_goals (refine PV.le_of ?_))) | (refine call_z (a1) (by kernel_rfl) rfl ?_; (repeat' (first | exact PV.leL_nil | refine PV.leL_cons ?_ ?_ | refine And.intro ?_ ?_ | exact Nat.zero_lt_succ _ | exact Nat.le_of_ble_eq_true rfl | exact PV.le_refl _ | exact PV.le_nil _ _ _ | exact PV.le_clip _ _ _ | refine PV.le_agg ?_ | refine PV.le_tup ?_ | rfl)); fail_if_success (any_goals (refine PV.le_of ?_))) | (refine call_z (a2) (by kernel_rfl) rfl ?_; (repeat' (first | exact PV.leL_nil | refine PV.leL_cons ?_ ?_ | refine And.intro ?_ ?_ | exact Nat.zero_lt_succ _ | exact Nat.le_of_ble_eq_true rfl | exact PV.le_refl _ | exact PV.le_nil _ _ _ | exact PV.le_clip _ _ _ | refine PV.le_agg ?_ | refine PV.le_tup ?_ | rfl)); fail_if_success (any_goals (refine PV.le_of ?_))) | (refine call_z (a3) (by kernel_rfl) rfl ?_; (repeat' (first | exact PV.leL_nil | refine PV.leL_cons ?_ ?_ | refine And.intro ?_ ?_ | exact Nat.zero_lt_succ _ | exact Nat.le_of_ble_eq_true rfl | exact PV.le_refl _ | exact PV.le_nil _ _ _ | exact PV.le_clip _ _ _ | refine PV.le_agg ?_ | refine PV.le_tup ?_ | rfl)); fail_if_success (any_goals (refine PV.le_of ?_))) | (refine call_z (k0) (by kernel_rfl) rfl ?_; (repeat' (first | exact PV.leL_nil | refine PV.leL_cons ?_ ?_ | refine And.intro ?_ ?_ | exact Nat.zero_lt_succ _ | exact Nat.le_of_ble_eq_true rfl | exact PV.le_refl _ | exact PV.le_nil _ _ _ | exact PV.le_clip _ _ _ | refine PV.le_agg ?_ | refine PV.le_tup ?_ | rfl)); fail_if_success (any_goals (refine PV.le_of ?_))) | (refine call_z (k1) (by kernel_rfl) rfl ?_; (repeat' (first | exact PV.leL_nil | refine PV.leL_cons ?_ ?_ | refine And.intro ?_ ?_ | exact Nat.zero_lt_succ _ | exact Nat.le_of_ble_eq_true rfl | exact PV.le_refl _ | exact PV.le_nil _ _ _ | exact PV.le_clip _ _ _ | refine PV.le_agg ?_ | refine PV.le_tup ?_ | rfl)); fail_if_success (any_goals (refine PV.le_of ?_))) | (refine call_z (k2) (by kernel_rfl) rfl ?_; (repeat' (first | exact PV.leL_nil | refine PV.leL_cons ?_ ?_ | refine And.intro ?_ ?_ | exact Nat.zero_lt_succ _ | exact Nat.le_of_ble_eq_true rfl | exact PV.le_refl _ | exact PV.le_nil _ _ _ | exact PV.le_clip _ _ _ | refine PV.le_agg ?_ | refine PV.le_tup ?_ | rfl)); fail_if_success (any_goals (refine PV.le_of ?_))) | (refine call_z (k3') (by kernel_rfl) rfl ?_; refine And.intro ⟨rfl, Nat.zero_lt_succ _, (by show _ ≤ (List.replicate _ _).length; rw [List.length_replicate]; exact Nat.le_of_eq (Nat.zero_add _))⟩ ?_; refine And.intro (PV.leL_cons (PV.le_refl _) PV.leL_nil) ?_) | (refine call_z (e1) (by kernel_rfl) rfl ?_; (repeat' (first | exact PV.leL_nil | refine PV.leL_cons ?_ ?_ | refine And.intro ?_ ?_ | exact Nat.zero_lt_succ _ | exact Nat.le_of_ble_eq_true rfl | exact PV.le_refl _ | exact PV.le_nil _ _ _ | exact PV.le_clip _ _ _ | refine PV.le_agg ?_ | refine PV.le_tup ?_ | rfl)); fail_if_success (any_goals (refine PV.le_of ?_))) | (refine call_z (e2) (by kernel_rfl) rfl ?_; (repeat' (first | exact PV.leL_nil | refine PV.leL_cons ?_ ?_ | refine And.intro ?_ ?_ | exact Nat.zero_lt_succ _ | exact Nat.le_of_ble_eq_true rfl | exact PV.le_refl _ | exact PV.le_nil _ _ _ | exact PV.le_clip _ _ _ | refine PV.le_agg ?_ | refine PV.le_tup ?_ | rfl)); fail_if_success (any_goals (refine PV.le_of ?_))) | (refine call_z (e3) (by kernel_rfl) rfl ?_; (repeat' (first | exact PV.leL_nil | refine PV.leL_cons ?_ ?_ | refine And.intro ?_ ?_ | exact Nat.zero_lt_succ _ | exact Nat.le_of_ble_eq_true rfl | exact PV.le_refl _ | exact PV.le_nil _ _ _ | exact PV.le_clip _ _ _ | refine PV.le_agg ?_ | refine PV.le_tup ?_ | rfl)); fail_if_success (any_goals (refine PV.le_of ?_))) | (refine call_z (f1) (by kernel_rfl) rfl ?_; (repeat' (first | exact PV.leL_nil | refine PV.leL_cons ?_ ?_ | refine And.intro ?_ ?_ | exact Nat.zero_lt_succ _ | exact Nat.le_of_ble_eq_true rfl | exact PV.le_refl _ | exact PV.le_nil _ _ _ | exact PV.le_clip _ _ _ | refine PV.le_agg ?_ | refine PV.le_tup ?_ | rfl)); fail_if_success (any_goals (refine PV.le_of ?_))) | exact of_decide_eq_true rfl)) | ((fail_if_success with_reducible first | show LeG _ _ | show Lp _ _ _ _ | show Exists _ | show callX _ _ _ _ _ | show (_ : Int) ≤ _ | show (_ : Int) < _ | show (_ : Nat) ≤ _ | show (_ : Nat) < _); (conv => whnf) <;> (first | exact cl2 | refine Br.tt ?_ | refine Br.ff ?_ | refine ix_lit rfl ?_ | refine Sq.fz (id := 2) [(1, false)] ?_ | refine XAlt.l ?_ | refine Sq.pr ?_ | refine Br.dec (fun hc => ?_) (fun hc => ?_) | refine Br.tt ?_ | refine Br.ff ?_ | refine Br.not ?_ | refine Br.mk (fun hc => ?_) (fun hc => ?_) | refine Opt.nn ?_ | refine Opt.ss ?_ | refine AltA.l ?_ | exact PV.leL_nil | refine PV.leL_cons ?_ ?_ | refine And.intro ?_ ?_ | refine ix_map (fun x hx => ?_) | refine exU8 ?_ | refine nilc (fun hn => ?_) ?_ | (refine call_z (k3') (by kernel_rfl) rfl ?_; refine And.intro ⟨rfl, Nat.zero_lt_succ _, (by show _ ≤ (List.replicate _ _).length; rw [List.length_replicate]; exact Nat.le_of_eq (Nat.zero_add _))⟩ ?_; refine And.intro (PV.leL_cons (PV.le_refl _) PV.leL_nil) ?_) | exact of_decide_eq_true rfl | exact cl3 | refine imp0 (fun hpos => ?_) | refine fits_i64 ?_ ?_ | exact rfl | exact trivial | (with_reducible first | show LeG _ _ | show Lp _ _ _ _ | show Exists _ | show callX _ _ _ _ _)))) <;> (try exact cl5)
  all_goals trace_state
end Go.Proofs.Ythlpjjnfcpjgoaa

namespace Go.Proofs.Ythlpjjnfcpjgoaa
open Go Go.Sg
set_option maxRecDepth 100000
set_option maxHeartbeats 4000000
theorem radd_calls (l : List It) (u : It) (hl : l.length < 1000000) : PCalls Try.prog 12 [eL l, eA u] (eR (addA l u)) := by
  have q1 := rcheck_calls l hl
  by_cases hz : chkA l = 0
  · rw [hz] at q1
    rw [addA_ok hz]
    cases hr : rightA u with
    | false =>
      have q2 := rright_calls u
      rw [hr] at q2
      refine PCalls.of (N := 61) (res := [.tmp 4, .tmp 5]) mixed Try.func12 rfl rfl rfl (by kernel_rfl) (by simp) [0, 1, 3, 4, 5, 6, 7, 11, 15, 29, 45, 48] ?_
      repeat' (first | exact cl1 | ((with_reducible show Exists _); first | exact exHM _ | refine exU8 ?_) | ((with_reducible show callX _ _ _ _ _); (first | refine call_p (q1) (by kernel_rfl) rfl ?_ | refine call_p (q2) (by kernel_rfl) rfl ?_)) | ((fail_if_success with_reducible first | show LeG _ _ | show Lp _ _ _ _ | show Exists _ | show callX _ _ _ _ _ | show (_ : Int) ≤ _ | show (_ : Int) < _ | show (_ : Nat) ≤ _ | show (_ : Nat) < _); (conv => whnf) <;> (first | exact cl2 | refine XAlt.l ?_ | refine Sq.pr ?_ | refine Br.dec (fun hc => ?_) (fun hc => ?_) | refine Br.tt ?_ | refine Br.ff ?_ | refine Br.not ?_ | refine Br.mk (fun hc => ?_) (fun hc => ?_) | refine Opt.nn ?_ | refine Opt.ss ?_ | refine AltA.l ?_ | exact PV.leL_nil | refine PV.leL_cons ?_ ?_ | refine And.intro ?_ ?_ | refine ix_map (fun x hx => ?_) | refine exU8 ?_ | refine nilc (fun hn => ?_) ?_ | exact cl3 | refine imp0 (fun hpos => ?_) | refine fits_i64 ?_ ?_ | exact rfl | exact trivial | (with_reducible first | show LeG _ _ | show Lp _ _ _ _ | show Exists _ | show callX _ _ _ _ _)))) <;> (try exact cl5)
      all_goals first
      | (exact LeG.mk (PV.le_tup (PV.leL_cons (PV.le_nil _ _ _) (PV.leL_refl _))))
      | (exfalso; simp at hc)
    | true =>
    have q2 := rright_calls u
    rw [hr] at q2
    rw [if_pos rfl]
    refine PCalls.of (N := 61) (res := [.tmp 4, .tmp 5]) mixed Try.func12 rfl rfl rfl (by kernel_rfl) (by simp) [0, 1, 3, 4, 5, 6, 7, 11, 15, 29, 45, 48] ?_
    repeat' (first | exact cl1 | ((with_reducible show Exists _); first | exact exHM _ | refine exU8 ?_) | ((with_reducible show callX _ _ _ _ _); (first | refine call_p (q1) (by kernel_rfl) rfl ?_ | refine call_p (q2) (by kernel_rfl) rfl ?_)) | ((fail_if_success with_reducible first | show LeG _ _ | show Lp _ _ _ _ | show Exists _ | show callX _ _ _ _ _ | show (_ : Int) ≤ _ | show (_ : Int) < _ | show (_ : Nat) ≤ _ | show (_ : Nat) < _); (conv => whnf) <;> (first | exact cl2 | refine XAlt.l ?_ | refine Sq.pr ?_ | refine Br.dec (fun hc => ?_) (fun hc => ?_) | refine Br.tt ?_ | refine Br.ff ?_ | refine Br.not ?_ | refine Br.mk (fun hc => ?_) (fun hc => ?_) | refine Opt.nn ?_ | refine Opt.ss ?_ | refine AltA.l ?_ | exact PV.leL_nil | refine PV.leL_cons ?_ ?_ | refine And.intro ?_ ?_ | refine ix_map (fun x hx => ?_) | refine exU8 ?_ | refine nilc (fun hn => ?_) ?_ | exact cl3 | refine imp0 (fun hpos => ?_) | refine fits_i64 ?_ ?_ | exact rfl | exact trivial | (with_reducible first | show LeG _ _ | show Lp _ _ _ _ | show Exists _ | show callX _ _ _ _ _)))) <;> (try exact cl5)
    refine Wpc.loopB (α := {i : Nat // i ≤ l.length ∧ ∀ j y, j < i → l[j]? = some y → It.no y < It.no u}) mixed [0, 1, 3, 4, 5, 6, 7, 11, 15, 29, 45, 48] (fun i => [(7, .p (eI i.1))]) (fun i => l.length - i.1) ⟨0, by omega, fun j y h => absurd h (by omega)⟩ ?_ ?_
    · (first | refine Ent.ofA [] ?_ | refine Ent.ofC [] ?_) <;> (repeat' (first | exact trivial | refine HpLe.dd ?_ | refine HpLe.mk rfl (by simp) rfl (fun h => AObj.noConfusion h) ?_ ?_ | refine And.intro ?_ ?_ | exact cl9 | refine VLe.pe ?_ | refine VLe.agg ?_ | refine VLe.tup ?_ | refine VLe.fn ?_ ?_ | refine VLeL.cons ?_ ?_ | exact VLeL.nil | exact OLe.row _ _ | rfl | refine VLe.rsle rfl ?_ ?_ ?_ | refine OLe.rowe2 ?_ ?_ | refine OLe.mape ?_ ?_ | refine OLe.iter0 ?_ | refine OLe.itere ?_ ?_ | refine OLe.chane ?_ ?_ | refine OLe.mapSe ?_ ?_ ?_ | exact OLe.mapS0 rfl)) <;> try (first | (simp; done) | (congr 1; omega) | (congr 1; (first | (simp; done) | (simp; omega))))
    rintro ⟨i, hi, hq⟩
    have hi : i ≤ l.length := hi
    have hq : ∀ j y, j < i → l[j]? = some y → It.no y < It.no u := hq
    have hpos : (∀ y, l[i]? = some y → It.no u ≤ It.no y) → posN It.no (It.no u) l = i := fun h => posN_eq It.no l _ i hi hq h
    have hfin : posN It.no (It.no u) l = i → List.take (0 + (List.drop (Int.toNat 0) (List.take ((i : Int)).toNat (l.map eA))).length + 1 + (List.drop ((i : Int)).toNat (List.take (((l.map eA).length : Int)).toNat (l.map eA))).length) (List.drop 0 ([] ++ List.drop (Int.toNat 0) (List.take ((i : Int)).toNat (l.map eA)) ++ List.take 1 (List.drop 0 [eA u]) ++ List.drop ((i : Int)).toNat (List.take (((l.map eA).length : Int)).toNat (l.map eA)))) = (insN It.no l u).map eA := fun h => by
      unfold insN
      rw [h]
      simp only [Int.toNat_natCast, Int.reduceToNat, List.drop_zero, List.nil_append, List.take_length, List.take_succ_cons, List.take_zero, List.map_append, List.map_cons, List.map_take, List.map_drop, Nat.zero_add]
      rw [List.take_of_length_le (by simp <;> omega)]
      simp
    repeat' (first | exact cl1 | ((with_reducible show Exists _); first | exact exHM _ | refine exU8 ?_) | ((fail_if_success with_reducible first | show LeG _ _ | show Lp _ _ _ _ | show Exists _ | show callX _ _ _ _ _ | show (_ : Int) ≤ _ | show (_ : Int) < _ | show (_ : Nat) ≤ _ | show (_ : Nat) < _); (conv => whnf) <;> (first | exact cl2 | refine XAlt.l ?_ | refine Sq.pr ?_ | refine Br.dec (fun hc => ?_) (fun hc => ?_) | refine Br.tt ?_ | refine Br.ff ?_ | refine Br.not ?_ | refine Br.mk (fun hc => ?_) (fun hc => ?_) | refine Opt.nn ?_ | refine Opt.ss ?_ | refine AltA.l ?_ | exact PV.leL_nil | refine PV.leL_cons ?_ ?_ | refine And.intro ?_ ?_ | refine ix_map (fun x hx => ?_) | refine exU8 ?_ | refine nilc (fun hn => ?_) ?_ | exact cl3 | refine imp0 (fun hpos => ?_) | refine fits_i64 ?_ ?_ | exact rfl | exact trivial | (with_reducible first | show LeG _ _ | show Lp _ _ _ _ | show Exists _ | show callX _ _ _ _ _)))) <;> (try exact cl5)
    · have hx : l[i]? = some x := hx
      have hcc : It.no x < It.no u := hc
      have hlt := (List.getElem?_eq_some_iff.1 hx).1
      refine ⟨⟨i + 1, hlt, fun j y hj hy => ?_⟩, by show l.length - (i + 1) < l.length - i; omega, ?_⟩
      · rcases Nat.lt_succ_iff_lt_or_eq.1 hj with h1 | h1
        · exact hq j y h1 hy
        · subst h1; rw [hx] at hy; injection hy with hy; rw [← hy]; exact hcc
      · (first | refine Ent.ofA [] ?_ | refine Ent.ofC [] ?_) <;> (repeat' (first | exact trivial | refine HpLe.dd ?_ | refine HpLe.mk rfl (by simp) rfl (fun h => AObj.noConfusion h) ?_ ?_ | refine And.intro ?_ ?_ | exact cl9 | refine VLe.pe ?_ | refine VLe.agg ?_ | refine VLe.tup ?_ | refine VLe.fn ?_ ?_ | refine VLeL.cons ?_ ?_ | exact VLeL.nil | exact OLe.row _ _ | rfl | refine VLe.rsle rfl ?_ ?_ ?_ | refine OLe.rowe2 ?_ ?_ | refine OLe.mape ?_ ?_ | refine OLe.iter0 ?_ | refine OLe.itere ?_ ?_ | refine OLe.chane ?_ ?_ | refine OLe.mapSe ?_ ?_ ?_ | exact OLe.mapS0 rfl)) <;> try (first | (simp; done) | (congr 1; omega) | (congr 1; (first | (simp; done) | (simp; omega))))
    · rename_i c1 y hy c2 c3
      have hx : l[i]? = some x := hx
      have hy : l[i]? = some y := hy
      rw [hx] at hy; injection hy with hy; subst hy
      have hp := hpos fun z hz => by rw [hx] at hz; injection hz with hz; subst hz; omega
      rw [if_pos (by unfold hasN; rw [hp, hx]; simpa using hc)]
      exact LeG.mk (PV.le_tup (PV.leL_cons (PV.le_nil _ _ _) (PV.leL_refl _)))
    · rename_i c1 y hy c2 c3 c4
      have hx : l[i]? = some x := hx
      have hy : l[i]? = some y := hy
      rw [hx] at hy; injection hy with hy; subst hy
      have hp := hpos fun z hz => by rw [hx] at hz; injection hz with hz; subst hz; omega
      rw [if_neg (by unfold hasN; rw [hp, hx]; simpa using c4), if_pos (by simpa using hc)]
      exact LeG.mk (PV.le_tup (PV.leL_cons (PV.le_nil _ _ _) (PV.leL_refl _)))
    · rename_i c1 y hy c2 c3 c4
      have hx : l[i]? = some x := hx
      have hy : l[i]? = some y := hy
      rw [hx] at hy; injection hy with hy; subst hy
      have hp := hpos fun z hz => by rw [hx] at hz; injection hz with hz; subst hz; omega
      rw [if_neg (by unfold hasN; rw [hp, hx]; simpa using c4), if_neg (by simpa using hc)]
      exact LeG.of (congrArg (fun q => PV.tup [PV.sl _ false q, eI 0]) (hfin hp))
    · rename_i c1
      have c1 : ¬ (i : Int) < ((l.map eA).length : Int) := by assumption
      rw [List.length_map] at c1
      have hp := hpos fun z hz => by have := (List.getElem?_eq_some_iff.1 hz).1; omega
      rw [if_neg (by unfold hasN; rw [hp, List.getElem?_eq_none (by omega)]; simp), if_pos (by simpa using hc)]
      exact LeG.mk (PV.le_tup (PV.leL_cons (PV.le_nil _ _ _) (PV.leL_refl _)))
    · rename_i c1
      have c1 : ¬ (i : Int) < ((l.map eA).length : Int) := by assumption
      rw [List.length_map] at c1
      have hp := hpos fun z hz => by have := (List.getElem?_eq_some_iff.1 hz).1; omega
      rw [if_neg (by unfold hasN; rw [hp, List.getElem?_eq_none (by omega)]; simp), if_neg (by simpa using hc)]
      exact LeG.of (congrArg (fun q => PV.tup [PV.sl _ false q, eI 0]) (hfin hp))
  · rw [addA_no hz]
    refine PCalls.of (N := 61) (res := [.tmp 4, .tmp 5]) mixed Try.func12 rfl rfl rfl (by kernel_rfl) (by simp) [0, 1, 3, 4, 5, 6, 7, 11, 15, 29, 45, 48] ?_
    repeat' (first | exact cl1 | ((with_reducible show Exists _); first | exact exHM _ | refine exU8 ?_) | ((with_reducible show callX _ _ _ _ _); (first | refine call_p (q1) (by kernel_rfl) rfl ?_)) | ((fail_if_success with_reducible first | show LeG _ _ | show Lp _ _ _ _ | show Exists _ | show callX _ _ _ _ _ | show (_ : Int) ≤ _ | show (_ : Int) < _ | show (_ : Nat) ≤ _ | show (_ : Nat) < _); (conv => whnf) <;> (first | exact cl2 | refine XAlt.l ?_ | refine Sq.pr ?_ | refine Br.dec (fun hc => ?_) (fun hc => ?_) | refine Br.tt ?_ | refine Br.ff ?_ | refine Br.not ?_ | refine Br.mk (fun hc => ?_) (fun hc => ?_) | refine Opt.nn ?_ | refine Opt.ss ?_ | refine AltA.l ?_ | exact PV.leL_nil | refine PV.leL_cons ?_ ?_ | refine And.intro ?_ ?_ | refine ix_map (fun x hx => ?_) | refine exU8 ?_ | refine nilc (fun hn => ?_) ?_ | exact cl3 | refine imp0 (fun hpos => ?_) | refine fits_i64 ?_ ?_ | exact rfl | exact trivial | (with_reducible first | show LeG _ _ | show Lp _ _ _ _ | show Exists _ | show callX _ _ _ _ _)))) <;> (try exact cl5)
    · ((all_goals (try simp only [*, ↓reduceIte, Bool.false_eq_true, Bool.not_true, Bool.not_false, Bool.and_true, Bool.true_and, Bool.and_false, Bool.false_and, List.nil_append, List.drop_zero, Nat.zero_add, List.take_length, Int.toNat_natCast, Int.toNat_zero, List.append_nil]))); ((all_goals (try refine LeG.mk ?_)); (repeat' (first | exact PV.le_refl _ | exact PV.le_nil _ _ _ | exact PV.le_clip _ _ _ | exact PV.le_nilF _ _ _ | refine PV.le_agg ?_ | refine PV.le_tup ?_ | exact PV.leL_nil | refine PV.leL_cons ?_ ?_ | refine PV.le_of ?_ | rfl)))
end Go.Proofs.Ythlpjjnfcpjgoaa

namespace Go.Proofs.Ythlpjjnfcpjgoaa
open Go Go.Sg
set_option maxRecDepth 100000
set_option maxHeartbeats 20000000
def fewL (l : List It) : Bool := decide (l.length ≤ 40) || decide (4096 < l.length) && decide (l.length ≤ 4200)
theorem fewL_len {l : List It} (h : fewL l = true) : l.length < 1000000 := by simp [fewL] at h; omega
theorem few2_calls (l : List It) : PCalls Try.prog 10 [eL l] (.bool (fewL l)) := few_calls l
theorem spec_calls (l : List It) (x : It) : PCalls Try.prog 3 [eL l, eA x] (.bool true) := by
  have q0 := few2_calls l
  cases hf : fewL l with
  | false =>
    rw [hf] at q0
    refine PCalls.of (N := 41) (res := [.tmp 4]) mixed Try.func3 rfl rfl rfl (by kernel_rfl) (by simp) [0, 1, 3, 4, 5, 6, 7, 8, 10, 13] ?_
    repeat' (first | exact cl1 | ((with_reducible show Exists _); first | exact exHM _ | refine exU8 ?_) | ((with_reducible show callX _ _ _ _ _); (first | refine call_p (sane_calls) (by kernel_rfl) rfl ?_ | refine call_p (q0) (by kernel_rfl) rfl ?_)) | ((fail_if_success with_reducible first | show LeG _ _ | show Lp _ _ _ _ | show Exists _ | show callX _ _ _ _ _ | show (_ : Int) ≤ _ | show (_ : Int) < _ | show (_ : Nat) ≤ _ | show (_ : Nat) < _); (conv => whnf) <;> (first | exact cl2 | refine XAlt.l ?_ | refine Sq.pr ?_ | refine Br.dec (fun hc => ?_) (fun hc => ?_) | refine Br.tt ?_ | refine Br.ff ?_ | refine Br.not ?_ | refine Br.mk (fun hc => ?_) (fun hc => ?_) | refine Opt.nn ?_ | refine Opt.ss ?_ | refine AltA.l ?_ | exact PV.leL_nil | refine PV.leL_cons ?_ ?_ | refine And.intro ?_ ?_ | refine ix_map (fun x hx => ?_) | refine exU8 ?_ | refine nilc (fun hn => ?_) ?_ | exact cl3 | refine imp0 (fun hpos => ?_) | refine fits_i64 ?_ ?_ | exact rfl | exact trivial | (with_reducible first | show LeG _ _ | show Lp _ _ _ _ | show Exists _ | show callX _ _ _ _ _)))) <;> (try exact cl5)
  | true =>
    rw [hf] at q0
    have hl := fewL_len hf
    have h2 : (addA l x).1.length < 1000000 := by
      unfold addA addL
      split; split; split; simp; split; simp; rw [length_insN]; simp [fewL] at hf; omega; simp; simp
    have q5 := same_calls (addA l x).1 (addA l x).1 h2
    rw [decide_eq_true rfl] at q5
    refine PCalls.of (N := 41) (res := [.tmp 4]) mixed Try.func3 rfl rfl rfl (by kernel_rfl) (by simp) [0, 1, 3, 4, 5, 6, 7, 8, 10, 13] ?_
    repeat' (first | exact cl1 | ((with_reducible show Exists _); first | exact exHM _ | refine exU8 ?_) | ((with_reducible show callX _ _ _ _ _); (first | refine call_p (sane_calls) (by kernel_rfl) rfl ?_ | refine call_p (q0) (by kernel_rfl) rfl ?_ | refine call_p (add_calls l x hl) (by kernel_rfl) rfl ?_ | refine call_p (radd_calls l x hl) (by kernel_rfl) rfl ?_ | refine call_p (check_calls l hl) (by kernel_rfl) rfl ?_ | refine call_p (rcheck_calls l hl) (by kernel_rfl) rfl ?_ | refine call_p (q5) (by kernel_rfl) rfl ?_)) | ((fail_if_success with_reducible first | show LeG _ _ | show Lp _ _ _ _ | show Exists _ | show callX _ _ _ _ _ | show (_ : Int) ≤ _ | show (_ : Int) < _ | show (_ : Nat) ≤ _ | show (_ : Nat) < _); (conv => whnf) <;> (first | exact cl2 | refine XAlt.l ?_ | refine Sq.pr ?_ | refine Br.dec (fun hc => ?_) (fun hc => ?_) | refine Br.tt ?_ | refine Br.ff ?_ | refine Br.not ?_ | refine Br.mk (fun hc => ?_) (fun hc => ?_) | refine Opt.nn ?_ | refine Opt.ss ?_ | refine AltA.l ?_ | exact PV.leL_nil | refine PV.leL_cons ?_ ?_ | refine And.intro ?_ ?_ | refine ix_map (fun x hx => ?_) | refine exU8 ?_ | refine nilc (fun hn => ?_) ?_ | exact cl3 | refine imp0 (fun hpos => ?_) | refine fits_i64 ?_ ?_ | exact rfl | exact trivial | (with_reducible first | show LeG _ _ | show Lp _ _ _ _ | show Exists _ | show callX _ _ _ _ _)))) <;> (try exact cl5)
    all_goals exact LeG.bool (decide_eq_true rfl)
end Go.Proofs.Ythlpjjnfcpjgoaa

namespace Go.Proofs.Ythlpjjnfcpjgoaa
open Go Go.Sg
set_option maxRecDepth 100000
theorem rI : Rdc Try.prog 3 Int (fun n => [eI n]) (fun n => (Lit.int .i64 n).wf = true) := Rdc.int (by kernel_rfl) (by kernel_rfl)
theorem rBool : Rdc Try.prog 4 Bool (fun n => [.bool n]) (fun _ => True) := Rdc.bool (by kernel_rfl) (by kernel_rfl)
def okIt (x : It) : Prop := (Lit.int .i64 x.no).wf = true ∧ (Lit.int .i64 x.tm).wf = true ∧ (Lit.int .i64 x.known).wf = true ∧ (Lit.int .i64 x.person).wf = true ∧ (Lit.int .i64 x.party).wf = true
theorem rIt : Rdc Try.prog 24 It (fun x => [eI x.no, eI x.tm, eI x.known, eI x.person, eI x.party, .bool x.of_, .bool x.gone]) okIt := by
  have h := Rdc.struct (P := Try.prog) (t := 24) Try.underlying24 (Rdf.cons rI (Rdf.cons rI (Rdf.cons rI (Rdf.cons rI (Rdf.cons rI (Rdf.cons rBool (Rdf.cons rBool Rdf.nil (by kernel_rfl) rfl) (by kernel_rfl) rfl) (by kernel_rfl) rfl) (by kernel_rfl) rfl) (by kernel_rfl) rfl) (by kernel_rfl) rfl) (by kernel_rfl) rfl) (by kernel_rfl)
  exact h.map (fun x => (⟨x.1, x.2.1, x.2.2.1, x.2.2.2.1, x.2.2.2.2.1, x.2.2.2.2.2.1, x.2.2.2.2.2.2.1⟩ : It)) (fun w => (w.no, w.tm, w.known, w.person, w.party, w.of_, w.gone, ())) (fun _ => rfl) (fun _ _ => rfl)
    (fun x h => ⟨h.1, h.2.1, h.2.2.1, h.2.2.2.1, h.2.2.2.2.1⟩) (fun y h => ⟨h.1, h.2.1, h.2.2.1, h.2.2.2.1, h.2.2.2.2, trivial, trivial, trivial⟩)
def okL (l : List It) : Prop := l.length ≤ reachBytes ∧ ∀ b ∈ l, okIt b
theorem rL : Rdc Try.prog 22 (List It) (fun b => [eL b]) okL :=
  Rdc.slice (e := 24) (sz := 7) (by kernel_rfl) (by kernel_rfl) rIt (by kernel_rfl) (by decide) (of_decide_eq_true (by kernel_rfl)) (fun _ _ => rfl)
def okIs (l : List Int) : Prop := l.length ≤ reachBytes ∧ ∀ b ∈ l, (Lit.int .i64 b).wf = true
theorem rIs : Rdc Try.prog 33 (List Int) (fun b => [eIs b]) okIs :=
  Rdc.slice (e := 3) (sz := 1) (by kernel_rfl) (by kernel_rfl) rI (by kernel_rfl) (by decide) (of_decide_eq_true (by kernel_rfl)) (fun _ _ => rfl)
theorem rU8 : Rdc Try.prog 5 Int (fun n => [.int .u8 n]) (fun n => (Lit.int .u8 n).wf = true) := Rdc.int (by kernel_rfl) (by kernel_rfl)
theorem aU8 : Rda Try.prog 5 Int (fun n => .int .u8 n) (fun n => (Lit.int .u8 n).wf = true) := Rda.one rU8 (by kernel_rfl)
theorem wf_u8 {n : Int} (h : (Lit.int .u8 n).wf = true) : 0 ≤ n ∧ n ≤ 255 := by
  simp [Lit.wf, IntKind.min, IntKind.max, IntKind.signed, IntKind.bits] at h; omega
theorem aIt : Rda Try.prog 24 It eA okIt := Rda.agg rIt (by kernel_rfl)
theorem aI : Rda Try.prog 3 Int eI (fun n => (Lit.int .i64 n).wf = true) := Rda.one rI (by kernel_rfl)
theorem aL : Rda Try.prog 22 (List It) eL okL := Rda.one rL (by kernel_rfl)
theorem aIs : Rda Try.prog 33 (List Int) eIs okIs := Rda.one rIs (by kernel_rfl)
theorem okL.len {l : List It} (h : okL l) : l.length < 140737488355328 := Nat.lt_of_le_of_lt h.1 reachBytes_lt
theorem okIs.len {l : List Int} (h : okIs l) : l.length < 140737488355328 := Nat.lt_of_le_of_lt h.1 reachBytes_lt
theorem own : ownKnob Try.prog.godebug = none := by kernel_rfl
end Go.Proofs.Ythlpjjnfcpjgoaa
