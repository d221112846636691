/- A part of the proof: contracts of the functions that the statement reaches. -/
import Derived.Test.YthlpjjnfcpjgoaaEng3
import Derived.Test.YthlpjjnfcpjgoaaProg
set_option linter.unusedSimpArgs false
set_option linter.unusedVariables false
set_option linter.unnecessarySimpa false
namespace Go.Proofs.Ythlpjjnfcpjgoaa
open Go Go.Sg
structure It where
  no : Int
  tm : Int
  known : Int
  person : Int
  party : Int
  of_ : Bool
  gone : Bool
  deriving DecidableEq
def eI (i : Int) : PV := .int .i64 i
def eIs (l : List Int) : PV := .sl 1 false (l.map eI)
def eA (x : It) : PV := .agg [eI x.no, eI x.tm, eI x.known, eI x.person, eI x.party, .bool x.of_, .bool x.gone]
def eL (l : List It) : PV := .sl 7 false (l.map eA)
theorem mixed : Try.prog.follows .mixedOrders = true := by kernel_rfl
set_option maxRecDepth 100000
set_option maxHeartbeats 4000000
theorem isNaN_calls (a : Int) : PCalls Try.prog 43 [eI a] (.bool false) := by
  refine PCalls.of (N := 6) (res := [.tmp 2]) mixed Try.func43 rfl rfl rfl (by kernel_rfl) (by simp) [0, 2] ?_
  repeat' (first | exact cl1 | ((with_reducible show Exists _); first | exact exHM _ | refine exU8 ?_) | ((fail_if_success with_reducible first | show LeG _ _ | show Lp _ _ _ _ | show Exists _ | show callX _ _ _ _ _ | show (_ : Int) ≤ _ | show (_ : Int) < _ | show (_ : Nat) ≤ _ | show (_ : Nat) < _); (conv => whnf) <;> (first | exact cl2 | refine XAlt.l ?_ | refine Sq.pr ?_ | refine Br.dec (fun hc => ?_) (fun hc => ?_) | refine Br.tt ?_ | refine Br.ff ?_ | refine Br.not ?_ | refine Br.mk (fun hc => ?_) (fun hc => ?_) | refine Opt.nn ?_ | refine Opt.ss ?_ | refine AltA.l ?_ | exact PV.leL_nil | refine PV.leL_cons ?_ ?_ | refine And.intro ?_ ?_ | refine ix_map (fun x hx => ?_) | refine exU8 ?_ | refine nilc (fun hn => ?_) ?_ | exact cl3 | refine imp0 (fun hpos => ?_) | refine fits_i64 ?_ ?_ | exact rfl | exact trivial | (with_reducible first | show LeG _ _ | show Lp _ _ _ _ | show Exists _ | show callX _ _ _ _ _)))) <;> (try exact cl5)
  exact LeG.bool (by simp)
theorem isNaN2_calls (a : Int) : PCalls Try.prog 52 [eI a] (.bool false) := by
  refine PCalls.of (N := 6) (res := [.tmp 2]) mixed Try.func52 rfl rfl rfl (by kernel_rfl) (by simp) [0, 2] ?_
  repeat' (first | exact cl1 | ((with_reducible show Exists _); first | exact exHM _ | refine exU8 ?_) | ((fail_if_success with_reducible first | show LeG _ _ | show Lp _ _ _ _ | show Exists _ | show callX _ _ _ _ _ | show (_ : Int) ≤ _ | show (_ : Int) < _ | show (_ : Nat) ≤ _ | show (_ : Nat) < _); (conv => whnf) <;> (first | exact cl2 | refine XAlt.l ?_ | refine Sq.pr ?_ | refine Br.dec (fun hc => ?_) (fun hc => ?_) | refine Br.tt ?_ | refine Br.ff ?_ | refine Br.not ?_ | refine Br.mk (fun hc => ?_) (fun hc => ?_) | refine Opt.nn ?_ | refine Opt.ss ?_ | refine AltA.l ?_ | exact PV.leL_nil | refine PV.leL_cons ?_ ?_ | refine And.intro ?_ ?_ | refine ix_map (fun x hx => ?_) | refine exU8 ?_ | refine nilc (fun hn => ?_) ?_ | exact cl3 | refine imp0 (fun hpos => ?_) | refine fits_i64 ?_ ?_ | exact rfl | exact trivial | (with_reducible first | show LeG _ _ | show Lp _ _ _ _ | show Exists _ | show callX _ _ _ _ _)))) <;> (try exact cl5)
  exact LeG.bool (by simp)
theorem cmp_calls (a b : Int) : PCalls Try.prog 27 [eI a, eI b] (eI (cmpI a b)) := by
  refine PCalls.of (N := 20) (res := [.tmp 4]) mixed Try.func27 rfl rfl rfl (by kernel_rfl) (by simp) [0, 1, 4, 5, 6, 11, 12, 13, 16, 19] ?_
  repeat' (first | exact cl1 | ((with_reducible show Exists _); first | exact exHM _ | refine exU8 ?_) | ((with_reducible show callX _ _ _ _ _); (first | refine call_p (isNaN_calls _) (by kernel_rfl) rfl ?_)) | ((fail_if_success with_reducible first | show LeG _ _ | show Lp _ _ _ _ | show Exists _ | show callX _ _ _ _ _ | show (_ : Int) ≤ _ | show (_ : Int) < _ | show (_ : Nat) ≤ _ | show (_ : Nat) < _); (conv => whnf) <;> (first | exact cl2 | refine XAlt.l ?_ | refine Sq.pr ?_ | refine Br.dec (fun hc => ?_) (fun hc => ?_) | refine Br.tt ?_ | refine Br.ff ?_ | refine Br.not ?_ | refine Br.mk (fun hc => ?_) (fun hc => ?_) | refine Opt.nn ?_ | refine Opt.ss ?_ | refine AltA.l ?_ | exact PV.leL_nil | refine PV.leL_cons ?_ ?_ | refine And.intro ?_ ?_ | refine ix_map (fun x hx => ?_) | refine exU8 ?_ | refine nilc (fun hn => ?_) ?_ | exact cl3 | refine imp0 (fun hpos => ?_) | refine fits_i64 ?_ ?_ | exact rfl | exact trivial | (with_reducible first | show LeG _ _ | show Lp _ _ _ _ | show Exists _ | show callX _ _ _ _ _)))) <;> (try exact cl5)
  ((all_goals (try simp only [cmpI, *, ↓reduceIte, Bool.false_eq_true, Bool.not_true, Bool.not_false, Bool.and_true, Bool.true_and, Bool.and_false, Bool.false_and, List.nil_append, List.drop_zero, Nat.zero_add, List.take_length, Int.toNat_natCast, Int.toNat_zero, List.append_nil]))); ((all_goals (try refine LeG.mk ?_)); (repeat' (first | exact PV.le_refl _ | exact PV.le_nil _ _ _ | exact PV.le_clip _ _ _ | exact PV.le_nilF _ _ _ | refine PV.le_agg ?_ | refine PV.le_tup ?_ | exact PV.leL_nil | refine PV.leL_cons ?_ ?_ | refine PV.le_of ?_ | rfl)))
theorem less_calls (a b : Int) : PCalls Try.prog 51 [eI a, eI b] (.bool (decide (a < b))) := by
  refine PCalls.of (N := 17) (res := [.tmp 4]) mixed Try.func51 rfl rfl rfl (by kernel_rfl) (by simp) [0, 1, 4] ?_
  repeat' (first | exact cl1 | ((with_reducible show Exists _); first | exact exHM _ | refine exU8 ?_) | ((with_reducible show callX _ _ _ _ _); (first | refine call_p (isNaN_calls _) (by kernel_rfl) rfl ?_)) | ((fail_if_success with_reducible first | show LeG _ _ | show Lp _ _ _ _ | show Exists _ | show callX _ _ _ _ _ | show (_ : Int) ≤ _ | show (_ : Int) < _ | show (_ : Nat) ≤ _ | show (_ : Nat) < _); (conv => whnf) <;> (first | exact cl2 | refine XAlt.l ?_ | refine Sq.pr ?_ | refine Br.dec (fun hc => ?_) (fun hc => ?_) | refine Br.tt ?_ | refine Br.ff ?_ | refine Br.not ?_ | refine Br.mk (fun hc => ?_) (fun hc => ?_) | refine Opt.nn ?_ | refine Opt.ss ?_ | refine AltA.l ?_ | exact PV.leL_nil | refine PV.leL_cons ?_ ?_ | refine And.intro ?_ ?_ | refine ix_map (fun x hx => ?_) | refine exU8 ?_ | refine nilc (fun hn => ?_) ?_ | exact cl3 | refine imp0 (fun hpos => ?_) | refine fits_i64 ?_ ?_ | exact rfl | exact trivial | (with_reducible first | show LeG _ _ | show Lp _ _ _ _ | show Exists _ | show callX _ _ _ _ _)))) <;> (try exact cl5)
  all_goals (refine LeG.bool ?_; simp_all)
theorem add1_calls (x : It) (n : Int) : PCalls Try.prog 26 [eA x, eI n] (eI (cmpI x.no n)) := by
  refine PCalls.of (N := 9) (res := [.tmp 4]) mixed Try.func26 rfl rfl rfl (by kernel_rfl) (by simp) [0, 1, 2, 4] ?_
  repeat' (first | exact cl1 | ((with_reducible show Exists _); first | exact exHM _ | refine exU8 ?_) | ((with_reducible show callX _ _ _ _ _); (first | refine call_p (cmp_calls _ _) (by kernel_rfl) rfl ?_)) | ((fail_if_success with_reducible first | show LeG _ _ | show Lp _ _ _ _ | show Exists _ | show callX _ _ _ _ _ | show (_ : Int) ≤ _ | show (_ : Int) < _ | show (_ : Nat) ≤ _ | show (_ : Nat) < _); (conv => whnf) <;> (first | exact cl2 | refine XAlt.l ?_ | refine Sq.pr ?_ | refine Br.dec (fun hc => ?_) (fun hc => ?_) | refine Br.tt ?_ | refine Br.ff ?_ | refine Br.not ?_ | refine Br.mk (fun hc => ?_) (fun hc => ?_) | refine Opt.nn ?_ | refine Opt.ss ?_ | refine AltA.l ?_ | exact PV.leL_nil | refine PV.leL_cons ?_ ?_ | refine And.intro ?_ ?_ | refine ix_map (fun x hx => ?_) | refine exU8 ?_ | refine nilc (fun hn => ?_) ?_ | exact cl3 | refine imp0 (fun hpos => ?_) | refine fits_i64 ?_ ?_ | exact rfl | exact trivial | (with_reducible first | show LeG _ _ | show Lp _ _ _ _ | show Exists _ | show callX _ _ _ _ _)))) <;> (try exact cl5)
def wiB (m n : Int) : Bool := decide (0 ≤ n) && decide (n < m)
abbrev TM : Int := 1099511627776
theorem within_calls (n m : Int) : PCalls Try.prog 44 [eI n, eI m] (.bool (wiB m n)) := by
  refine PCalls.of (N := 12) (res := [.tmp 4]) mixed Try.func44 rfl rfl rfl (by kernel_rfl) (by simp) [0, 1, 4] ?_
  repeat' (first | exact cl1 | ((with_reducible show Exists _); first | exact exHM _ | refine exU8 ?_) | ((fail_if_success with_reducible first | show LeG _ _ | show Lp _ _ _ _ | show Exists _ | show callX _ _ _ _ _ | show (_ : Int) ≤ _ | show (_ : Int) < _ | show (_ : Nat) ≤ _ | show (_ : Nat) < _); (conv => whnf) <;> (first | exact cl2 | refine XAlt.l ?_ | refine Sq.pr ?_ | refine Br.dec (fun hc => ?_) (fun hc => ?_) | refine Br.tt ?_ | refine Br.ff ?_ | refine Br.not ?_ | refine Br.mk (fun hc => ?_) (fun hc => ?_) | refine Opt.nn ?_ | refine Opt.ss ?_ | refine AltA.l ?_ | exact PV.leL_nil | refine PV.leL_cons ?_ ?_ | refine And.intro ?_ ?_ | refine ix_map (fun x hx => ?_) | refine exU8 ?_ | refine nilc (fun hn => ?_) ?_ | exact cl3 | refine imp0 (fun hpos => ?_) | refine fits_i64 ?_ ?_ | exact rfl | exact trivial | (with_reducible first | show LeG _ _ | show Lp _ _ _ _ | show Exists _ | show callX _ _ _ _ _)))) <;> (try exact cl5)
  ((all_goals (try simp only [wiB, *, ↓reduceIte, Bool.false_eq_true, Bool.not_true, Bool.not_false, Bool.and_true, Bool.true_and, Bool.and_false, Bool.false_and, List.nil_append, List.drop_zero, Nat.zero_add, List.take_length, Int.toNat_natCast, Int.toNat_zero, List.append_nil]))); ((all_goals (try refine LeG.mk ?_)); (repeat' (first | exact PV.le_refl _ | exact PV.le_nil _ _ _ | exact PV.le_clip _ _ _ | exact PV.le_nilF _ _ _ | refine PV.le_agg ?_ | refine PV.le_tup ?_ | exact PV.leL_nil | refine PV.leL_cons ?_ ?_ | refine PV.le_of ?_ | rfl)))
theorem rtime_calls (n : Int) : PCalls Try.prog 47 [eI n] (.bool (wiB TM n)) := by
  refine PCalls.of (N := 9) (res := [.tmp 2]) mixed Try.func47 rfl rfl rfl (by kernel_rfl) (by simp) [0, 2] ?_
  repeat' (first | exact cl1 | ((with_reducible show Exists _); first | exact exHM _ | refine exU8 ?_) | ((fail_if_success with_reducible first | show LeG _ _ | show Lp _ _ _ _ | show Exists _ | show callX _ _ _ _ _ | show (_ : Int) ≤ _ | show (_ : Int) < _ | show (_ : Nat) ≤ _ | show (_ : Nat) < _); (conv => whnf) <;> (first | exact cl2 | refine XAlt.l ?_ | refine Sq.pr ?_ | refine Br.dec (fun hc => ?_) (fun hc => ?_) | refine Br.tt ?_ | refine Br.ff ?_ | refine Br.not ?_ | refine Br.mk (fun hc => ?_) (fun hc => ?_) | refine Opt.nn ?_ | refine Opt.ss ?_ | refine AltA.l ?_ | exact PV.leL_nil | refine PV.leL_cons ?_ ?_ | refine And.intro ?_ ?_ | refine ix_map (fun x hx => ?_) | refine exU8 ?_ | refine nilc (fun hn => ?_) ?_ | exact cl3 | refine imp0 (fun hpos => ?_) | refine fits_i64 ?_ ?_ | exact rfl | exact trivial | (with_reducible first | show LeG _ _ | show Lp _ _ _ _ | show Exists _ | show callX _ _ _ _ _)))) <;> (try exact cl5)
  ((all_goals (try simp only [wiB, *, ↓reduceIte, Bool.false_eq_true, Bool.not_true, Bool.not_false, Bool.and_true, Bool.true_and, Bool.and_false, Bool.false_and, List.nil_append, List.drop_zero, Nat.zero_add, List.take_length, Int.toNat_natCast, Int.toNat_zero, List.append_nil]))); ((all_goals (try refine LeG.mk ?_)); (repeat' (first | exact PV.le_refl _ | exact PV.le_nil _ _ _ | exact PV.le_clip _ _ _ | exact PV.le_nilF _ _ _ | refine PV.le_agg ?_ | refine PV.le_tup ?_ | exact PV.leL_nil | refine PV.leL_cons ?_ ?_ | refine PV.le_of ?_ | rfl)))
theorem rparty_calls (n : Int) : PCalls Try.prog 48 [eI n] (.bool (wiB 1048577 n)) := by
  refine PCalls.of (N := 9) (res := [.tmp 2]) mixed Try.func48 rfl rfl rfl (by kernel_rfl) (by simp) [0, 2] ?_
  repeat' (first | exact cl1 | ((with_reducible show Exists _); first | exact exHM _ | refine exU8 ?_) | ((fail_if_success with_reducible first | show LeG _ _ | show Lp _ _ _ _ | show Exists _ | show callX _ _ _ _ _ | show (_ : Int) ≤ _ | show (_ : Int) < _ | show (_ : Nat) ≤ _ | show (_ : Nat) < _); (conv => whnf) <;> (first | exact cl2 | refine XAlt.l ?_ | refine Sq.pr ?_ | refine Br.dec (fun hc => ?_) (fun hc => ?_) | refine Br.tt ?_ | refine Br.ff ?_ | refine Br.not ?_ | refine Br.mk (fun hc => ?_) (fun hc => ?_) | refine Opt.nn ?_ | refine Opt.ss ?_ | refine AltA.l ?_ | exact PV.leL_nil | refine PV.leL_cons ?_ ?_ | refine And.intro ?_ ?_ | refine ix_map (fun x hx => ?_) | refine exU8 ?_ | refine nilc (fun hn => ?_) ?_ | exact cl3 | refine imp0 (fun hpos => ?_) | refine fits_i64 ?_ ?_ | exact rfl | exact trivial | (with_reducible first | show LeG _ _ | show Lp _ _ _ _ | show Exists _ | show callX _ _ _ _ _)))) <;> (try exact cl5)
  all_goals (refine LeG.bool ?_; simp_all [wiB] <;> omega)
theorem rperson_calls (n : Int) : PCalls Try.prog 49 [eI n] (.bool (wiB 64 n)) := by
  refine PCalls.of (N := 9) (res := [.tmp 2]) mixed Try.func49 rfl rfl rfl (by kernel_rfl) (by simp) [0, 2] ?_
  repeat' (first | exact cl1 | ((with_reducible show Exists _); first | exact exHM _ | refine exU8 ?_) | ((fail_if_success with_reducible first | show LeG _ _ | show Lp _ _ _ _ | show Exists _ | show callX _ _ _ _ _ | show (_ : Int) ≤ _ | show (_ : Int) < _ | show (_ : Nat) ≤ _ | show (_ : Nat) < _); (conv => whnf) <;> (first | exact cl2 | refine XAlt.l ?_ | refine Sq.pr ?_ | refine Br.dec (fun hc => ?_) (fun hc => ?_) | refine Br.tt ?_ | refine Br.ff ?_ | refine Br.not ?_ | refine Br.mk (fun hc => ?_) (fun hc => ?_) | refine Opt.nn ?_ | refine Opt.ss ?_ | refine AltA.l ?_ | exact PV.leL_nil | refine PV.leL_cons ?_ ?_ | refine And.intro ?_ ?_ | refine ix_map (fun x hx => ?_) | refine exU8 ?_ | refine nilc (fun hn => ?_) ?_ | exact cl3 | refine imp0 (fun hpos => ?_) | refine fits_i64 ?_ ?_ | exact rfl | exact trivial | (with_reducible first | show LeG _ _ | show Lp _ _ _ _ | show Exists _ | show callX _ _ _ _ _)))) <;> (try exact cl5)
  ((all_goals (try simp only [wiB, *, ↓reduceIte, Bool.false_eq_true, Bool.not_true, Bool.not_false, Bool.and_true, Bool.true_and, Bool.and_false, Bool.false_and, List.nil_append, List.drop_zero, Nat.zero_add, List.take_length, Int.toNat_natCast, Int.toNat_zero, List.append_nil]))); ((all_goals (try refine LeG.mk ?_)); (repeat' (first | exact PV.le_refl _ | exact PV.le_nil _ _ _ | exact PV.le_clip _ _ _ | exact PV.le_nilF _ _ _ | refine PV.le_agg ?_ | refine PV.le_tup ?_ | exact PV.leL_nil | refine PV.leL_cons ?_ ?_ | refine PV.le_of ?_ | rfl)))
def rightA (x : It) : Bool := (wiB 1048577 x.no && wiB TM x.tm && wiB TM x.known && wiB 1048577 x.party) && (if x.of_ then wiB 1048577 x.person && !decide (x.person = x.party) else wiB 64 x.person)
theorem right_calls (x : It) : PCalls Try.prog 28 [eA x] (.bool (rightA x)) := by
  refine PCalls.of (N := 43) (res := [.tmp 2]) mixed Try.func28 rfl rfl rfl (by kernel_rfl) (by simp) [0, 1, 2, 3, 23] ?_
  repeat' (first | exact cl1 | ((with_reducible show Exists _); first | exact exHM _ | refine exU8 ?_) | ((with_reducible show callX _ _ _ _ _); (first | refine call_p (within_calls _ _) (by kernel_rfl) rfl ?_)) | ((fail_if_success with_reducible first | show LeG _ _ | show Lp _ _ _ _ | show Exists _ | show callX _ _ _ _ _ | show (_ : Int) ≤ _ | show (_ : Int) < _ | show (_ : Nat) ≤ _ | show (_ : Nat) < _); (conv => whnf) <;> (first | exact cl2 | refine XAlt.l ?_ | refine Sq.pr ?_ | refine Br.dec (fun hc => ?_) (fun hc => ?_) | refine Br.tt ?_ | refine Br.ff ?_ | refine Br.not ?_ | refine Br.mk (fun hc => ?_) (fun hc => ?_) | refine Opt.nn ?_ | refine Opt.ss ?_ | refine AltA.l ?_ | exact PV.leL_nil | refine PV.leL_cons ?_ ?_ | refine And.intro ?_ ?_ | refine ix_map (fun x hx => ?_) | refine exU8 ?_ | refine nilc (fun hn => ?_) ?_ | exact cl3 | refine imp0 (fun hpos => ?_) | refine fits_i64 ?_ ?_ | exact rfl | exact trivial | (with_reducible first | show LeG _ _ | show Lp _ _ _ _ | show Exists _ | show callX _ _ _ _ _)))) <;> (try exact cl5)
  all_goals (refine LeG.bool ?_; simp_all [rightA] <;> (intros; omega))
theorem rright_calls (x : It) : PCalls Try.prog 31 [eA x] (.bool (rightA x)) := by
  refine PCalls.of (N := 44) (res := [.tmp 2]) mixed Try.func31 rfl rfl rfl (by kernel_rfl) (by simp) [0, 1, 2, 28, 30] ?_
  repeat' (first | exact cl1 | ((with_reducible show Exists _); first | exact exHM _ | refine exU8 ?_) | ((with_reducible show callX _ _ _ _ _); (first | refine call_p (rtime_calls _) (by kernel_rfl) rfl ?_ | refine call_p (rparty_calls _) (by kernel_rfl) rfl ?_ | refine call_p (rperson_calls _) (by kernel_rfl) rfl ?_)) | ((fail_if_success with_reducible first | show LeG _ _ | show Lp _ _ _ _ | show Exists _ | show callX _ _ _ _ _ | show (_ : Int) ≤ _ | show (_ : Int) < _ | show (_ : Nat) ≤ _ | show (_ : Nat) < _); (conv => whnf) <;> (first | exact cl2 | refine XAlt.l ?_ | refine Sq.pr ?_ | refine Br.dec (fun hc => ?_) (fun hc => ?_) | refine Br.tt ?_ | refine Br.ff ?_ | refine Br.not ?_ | refine Br.mk (fun hc => ?_) (fun hc => ?_) | refine Opt.nn ?_ | refine Opt.ss ?_ | refine AltA.l ?_ | exact PV.leL_nil | refine PV.leL_cons ?_ ?_ | refine And.intro ?_ ?_ | refine ix_map (fun x hx => ?_) | refine exU8 ?_ | refine nilc (fun hn => ?_) ?_ | exact cl3 | refine imp0 (fun hpos => ?_) | refine fits_i64 ?_ ?_ | exact rfl | exact trivial | (with_reducible first | show LeG _ _ | show Lp _ _ _ _ | show Exists _ | show callX _ _ _ _ _)))) <;> (try exact cl5)
  all_goals (refine LeG.bool ?_; simp_all [rightA, wiB] <;> (intros; omega))
end Go.Proofs.Ythlpjjnfcpjgoaa

namespace Go.Proofs.Ythlpjjnfcpjgoaa
open Go Go.Sg
set_option maxRecDepth 100000
set_option maxHeartbeats 4000000
def chkA (l : List It) : Int := chkL rightA It.no 4096 290 l
theorem rightA_no {x : It} (h : rightA x = true) : 0 ≤ x.no := by
  simp [rightA, wiB] at h; omega
theorem check_calls (l : List It) (hl : l.length < 1000000) : PCalls Try.prog 13 [eL l] (eI (chkA l)) := by
  refine PCalls.of (N := 27) (res := [.tmp 2]) mixed Try.func13 rfl rfl rfl (by kernel_rfl) (by simp) [0, 2, 3, 5, 8, 9, 10, 11, 12, 23] ?_
  repeat' (first | exact cl1 | ((with_reducible show Exists _); first | exact exHM _ | refine exU8 ?_) | ((fail_if_success with_reducible first | show LeG _ _ | show Lp _ _ _ _ | show Exists _ | show callX _ _ _ _ _ | show (_ : Int) ≤ _ | show (_ : Int) < _ | show (_ : Nat) ≤ _ | show (_ : Nat) < _); (conv => whnf) <;> (first | exact cl2 | refine XAlt.l ?_ | refine Sq.pr ?_ | refine Br.dec (fun hc => ?_) (fun hc => ?_) | refine Br.tt ?_ | refine Br.ff ?_ | refine Br.not ?_ | refine Br.mk (fun hc => ?_) (fun hc => ?_) | refine Opt.nn ?_ | refine Opt.ss ?_ | refine AltA.l ?_ | exact PV.leL_nil | refine PV.leL_cons ?_ ?_ | refine And.intro ?_ ?_ | refine ix_map (fun x hx => ?_) | refine exU8 ?_ | refine nilc (fun hn => ?_) ?_ | exact cl3 | refine imp0 (fun hpos => ?_) | refine fits_i64 ?_ ?_ | exact rfl | exact trivial | (with_reducible first | show LeG _ _ | show Lp _ _ _ _ | show Exists _ | show callX _ _ _ _ _)))) <;> (try exact cl5)
  · rw [show chkA l = 2 from chkL_lim rightA It.no (by simpa using hc)]; exact LeG.refl _
  have h96 : ¬ (4096 : Int) < (l.length : Int) := by
    have h : ¬ (4096 : Int) < ((l.map eA).length : Int) := by assumption
    rwa [List.length_map] at h
  refine Wpc.loopB (α := {i : Nat // i ≤ l.length ∧ okFrom rightA It.no (lastNo It.no l i) (l.drop i) = okFrom rightA It.no (-1) l}) mixed [0, 2, 3, 5, 8, 9, 10, 11, 12, 23] (fun i => [(3, .p (eI (lastNo It.no l i.1))), (11, .p (eI i.1))]) (fun i => l.length - i.1) ⟨0, by omega, rfl⟩ ?_ ?_
  · (first | refine Ent.ofA [] ?_ | refine Ent.ofC [] ?_) <;> (repeat' (first | exact trivial | refine HpLe.dd ?_ | refine HpLe.mk rfl (by simp) rfl (fun h => AObj.noConfusion h) ?_ ?_ | refine And.intro ?_ ?_ | exact cl9 | refine VLe.pe ?_ | refine VLe.agg ?_ | refine VLe.tup ?_ | refine VLe.fn ?_ ?_ | refine VLeL.cons ?_ ?_ | exact VLeL.nil | exact OLe.row _ _ | rfl | refine VLe.rsle rfl ?_ ?_ ?_ | refine OLe.rowe2 ?_ ?_ | refine OLe.mape ?_ ?_ | refine OLe.iter0 ?_ | refine OLe.itere ?_ ?_ | refine OLe.chane ?_ ?_ | refine OLe.mapSe ?_ ?_ ?_ | exact OLe.mapS0 rfl)) <;> try (first | (simp; done) | (congr 1; omega) | (congr 1; (first | (simp; done) | (simp; omega))))
  rintro ⟨i, hi, hq⟩
  have hi : i ≤ l.length := hi
  have hq : okFrom rightA It.no (lastNo It.no l i) (l.drop i) = okFrom rightA It.no (-1) l := hq
  repeat' (first | exact cl1 | ((with_reducible show Exists _); first | exact exHM _ | refine exU8 ?_) | ((with_reducible show callX _ _ _ _ _); (first | refine call_p (right_calls _) (by kernel_rfl) rfl ?_)) | ((fail_if_success with_reducible first | show LeG _ _ | show Lp _ _ _ _ | show Exists _ | show callX _ _ _ _ _ | show (_ : Int) ≤ _ | show (_ : Int) < _ | show (_ : Nat) ≤ _ | show (_ : Nat) < _); (conv => whnf) <;> (first | exact cl2 | refine XAlt.l ?_ | refine Sq.pr ?_ | refine Br.dec (fun hc => ?_) (fun hc => ?_) | refine Br.tt ?_ | refine Br.ff ?_ | refine Br.not ?_ | refine Br.mk (fun hc => ?_) (fun hc => ?_) | refine Opt.nn ?_ | refine Opt.ss ?_ | refine AltA.l ?_ | exact PV.leL_nil | refine PV.leL_cons ?_ ?_ | refine And.intro ?_ ?_ | refine ix_map (fun x hx => ?_) | refine exU8 ?_ | refine nilc (fun hn => ?_) ?_ | exact cl3 | refine imp0 (fun hpos => ?_) | refine fits_i64 ?_ ?_ | exact rfl | exact trivial | (with_reducible first | show LeG _ _ | show Lp _ _ _ _ | show Exists _ | show callX _ _ _ _ _)))) <;> (try exact cl5)
  · rename_i h1
    have hx : l[i]? = some x := hx
    have hc : It.no x ≤ lastNo It.no l i := hc
    rw [show chkA l = 290 from chkL_err rightA It.no h96 (okFrom_no rightA It.no hx hq (by rw [h1, decide_eq_false (by omega)]; rfl))]; exact LeG.refl _
  · rename_i h1
    have hx : l[i]? = some x := hx
    have hc : ¬ It.no x ≤ lastNo It.no l i := hc
    have hlt := (List.getElem?_eq_some_iff.1 hx).1
    refine ⟨⟨i + 1, hlt, okFrom_yes rightA It.no hx hq (by rw [h1, decide_eq_true (by omega)]; rfl)⟩, by show l.length - (i + 1) < l.length - i; omega, ?_⟩
    (first | refine Ent.ofA [] ?_ | refine Ent.ofC [] ?_) <;> (repeat' (first | exact trivial | refine HpLe.dd ?_ | refine HpLe.mk rfl (by simp) rfl (fun h => AObj.noConfusion h) ?_ ?_ | refine And.intro ?_ ?_ | exact cl9 | refine VLe.pe ?_ | refine VLe.agg ?_ | refine VLe.tup ?_ | refine VLe.fn ?_ ?_ | refine VLeL.cons ?_ ?_ | exact VLeL.nil | exact OLe.row _ _ | rfl | refine VLe.rsle rfl ?_ ?_ ?_ | refine OLe.rowe2 ?_ ?_ | refine OLe.mape ?_ ?_ | refine OLe.iter0 ?_ | refine OLe.itere ?_ ?_ | refine OLe.chane ?_ ?_ | refine OLe.mapSe ?_ ?_ ?_ | exact OLe.mapS0 rfl)) <;> try (first | (simp; done) | (congr 1; omega) | (congr 1; (first | (simp; done) | (simp; omega))))
    all_goals (rw [lastNo_succ It.no hx])
  · have hx : l[i]? = some x := hx
    rw [show chkA l = 290 from chkL_err rightA It.no h96 (okFrom_no rightA It.no hx hq (by rw [hc]; rfl))]; exact LeG.refl _
  · have hc : ¬ (i : Int) < ((l.map eA).length : Int) := hc
    rw [List.length_map] at hc
    rw [show chkA l = 0 from chkL_ok rightA It.no h96 (okFrom_fin rightA It.no hq (by omega))]; exact LeG.refl _
theorem rcheck_calls (l : List It) (hl : l.length < 1000000) : PCalls Try.prog 14 [eL l] (eI (chkA l)) := by
  refine PCalls.of (N := 37) (res := [.tmp 2]) mixed Try.func14 rfl rfl rfl (by kernel_rfl) (by simp) [0, 2, 3, 6, 10, 36] ?_
  repeat' (first | exact cl1 | ((with_reducible show Exists _); first | exact exHM _ | refine exU8 ?_) | ((fail_if_success with_reducible first | show LeG _ _ | show Lp _ _ _ _ | show Exists _ | show callX _ _ _ _ _ | show (_ : Int) ≤ _ | show (_ : Int) < _ | show (_ : Nat) ≤ _ | show (_ : Nat) < _); (conv => whnf) <;> (first | exact cl2 | refine XAlt.l ?_ | refine Sq.pr ?_ | refine Br.dec (fun hc => ?_) (fun hc => ?_) | refine Br.tt ?_ | refine Br.ff ?_ | refine Br.not ?_ | refine Br.mk (fun hc => ?_) (fun hc => ?_) | refine Opt.nn ?_ | refine Opt.ss ?_ | refine AltA.l ?_ | exact PV.leL_nil | refine PV.leL_cons ?_ ?_ | refine And.intro ?_ ?_ | refine ix_map (fun x hx => ?_) | refine exU8 ?_ | refine nilc (fun hn => ?_) ?_ | exact cl3 | refine imp0 (fun hpos => ?_) | refine fits_i64 ?_ ?_ | exact rfl | exact trivial | (with_reducible first | show LeG _ _ | show Lp _ _ _ _ | show Exists _ | show callX _ _ _ _ _)))) <;> (try exact cl5)
  · rw [show chkA l = 2 from chkL_lim rightA It.no (by simpa using hc)]; exact LeG.refl _
  have h96 : ¬ (4096 : Int) < (l.length : Int) := by
    have h : ¬ (4096 : Int) < ((l.map eA).length : Int) := by assumption
    rwa [List.length_map] at h
  refine Wpc.loopB (α := {i : Nat // i ≤ l.length ∧ okFrom rightA It.no (lastNo It.no l i) (l.drop i) = okFrom rightA It.no (-1) l}) mixed [0, 2, 3, 6, 10, 36] (fun i => [(3, .p (eI i.1))]) (fun i => l.length - i.1) ⟨0, by omega, rfl⟩ ?_ ?_
  · (first | refine Ent.ofA [] ?_ | refine Ent.ofC [] ?_) <;> (repeat' (first | exact trivial | refine HpLe.dd ?_ | refine HpLe.mk rfl (by simp) rfl (fun h => AObj.noConfusion h) ?_ ?_ | refine And.intro ?_ ?_ | exact cl9 | refine VLe.pe ?_ | refine VLe.agg ?_ | refine VLe.tup ?_ | refine VLe.fn ?_ ?_ | refine VLeL.cons ?_ ?_ | exact VLeL.nil | exact OLe.row _ _ | rfl | refine VLe.rsle rfl ?_ ?_ ?_ | refine OLe.rowe2 ?_ ?_ | refine OLe.mape ?_ ?_ | refine OLe.iter0 ?_ | refine OLe.itere ?_ ?_ | refine OLe.chane ?_ ?_ | refine OLe.mapSe ?_ ?_ ?_ | exact OLe.mapS0 rfl)) <;> try (first | (simp; done) | (congr 1; omega) | (congr 1; (first | (simp; done) | (simp; omega))))
  rintro ⟨i, hi, hq⟩
  have hi : i ≤ l.length := hi
  have hq : okFrom rightA It.no (lastNo It.no l i) (l.drop i) = okFrom rightA It.no (-1) l := hq
  repeat' (first | exact cl1 | ((with_reducible show Exists _); first | exact exHM _ | refine exU8 ?_) | ((with_reducible show callX _ _ _ _ _); (first | refine call_p (rright_calls _) (by kernel_rfl) rfl ?_)) | ((fail_if_success with_reducible first | show LeG _ _ | show Lp _ _ _ _ | show Exists _ | show callX _ _ _ _ _ | show (_ : Int) ≤ _ | show (_ : Int) < _ | show (_ : Nat) ≤ _ | show (_ : Nat) < _); (conv => whnf) <;> (first | exact cl2 | refine XAlt.l ?_ | refine Sq.pr ?_ | refine Br.dec (fun hc => ?_) (fun hc => ?_) | refine Br.tt ?_ | refine Br.ff ?_ | refine Br.not ?_ | refine Br.mk (fun hc => ?_) (fun hc => ?_) | refine Opt.nn ?_ | refine Opt.ss ?_ | refine AltA.l ?_ | exact PV.leL_nil | refine PV.leL_cons ?_ ?_ | refine And.intro ?_ ?_ | refine ix_map (fun x hx => ?_) | refine exU8 ?_ | refine nilc (fun hn => ?_) ?_ | exact cl3 | refine imp0 (fun hpos => ?_) | refine fits_i64 ?_ ?_ | exact rfl | exact trivial | (with_reducible first | show LeG _ _ | show Lp _ _ _ _ | show Exists _ | show callX _ _ _ _ _)))) <;> (try exact cl5)
  · rename_i y h1 h2 z hz
    have h2 : (0 : Int) < (i : Int) := h2
    have hz : l[i]? = some z := hz
    have hx : l[((i : Int) - 1).toNat]? = some x := hx
    rw [show ((i : Int) - 1).toNat = i - 1 by omega] at hx
    have hl0 : lastNo It.no l i = It.no x := by obtain ⟨j, rfl⟩ : ∃ j, i = j + 1 := ⟨i - 1, by omega⟩; exact lastNo_succ It.no hx
    rw [show chkA l = 290 from chkL_err rightA It.no h96 (okFrom_no rightA It.no hz hq (by rw [hl0, decide_eq_false (by omega)]; simp))]; exact LeG.refl _
  · rename_i y hy h1 h2 z hz
    have h2 : (0 : Int) < (i : Int) := h2
    have hz : l[i]? = some z := hz
    have hy : l[i]? = some y := hy
    rw [hz] at hy; injection hy with hy; subst hy
    have hx : l[((i : Int) - 1).toNat]? = some x := hx
    rw [show ((i : Int) - 1).toNat = i - 1 by omega] at hx
    have hl0 : lastNo It.no l i = It.no x := by obtain ⟨j, rfl⟩ : ∃ j, i = j + 1 := ⟨i - 1, by omega⟩; exact lastNo_succ It.no hx
    have hlt := (List.getElem?_eq_some_iff.1 hz).1
    refine ⟨⟨i + 1, hlt, okFrom_yes rightA It.no hz hq (by rw [hl0, h1, decide_eq_true (by omega)]; rfl)⟩, by show l.length - (i + 1) < l.length - i; omega, ?_⟩
    (first | refine Ent.ofA [] ?_ | refine Ent.ofC [] ?_) <;> (repeat' (first | exact trivial | refine HpLe.dd ?_ | refine HpLe.mk rfl (by simp) rfl (fun h => AObj.noConfusion h) ?_ ?_ | refine And.intro ?_ ?_ | exact cl9 | refine VLe.pe ?_ | refine VLe.agg ?_ | refine VLe.tup ?_ | refine VLe.fn ?_ ?_ | refine VLeL.cons ?_ ?_ | exact VLeL.nil | exact OLe.row _ _ | rfl | refine VLe.rsle rfl ?_ ?_ ?_ | refine OLe.rowe2 ?_ ?_ | refine OLe.mape ?_ ?_ | refine OLe.iter0 ?_ | refine OLe.itere ?_ ?_ | refine OLe.chane ?_ ?_ | refine OLe.mapSe ?_ ?_ ?_ | exact OLe.mapS0 rfl)) <;> try (first | (simp; done) | (congr 1; omega) | (congr 1; (first | (simp; done) | (simp; omega))))
  · rename_i h1
    have hx : l[i]? = some x := hx
    have hc : ¬ (0 : Int) < (i : Int) := hc
    have hlt := (List.getElem?_eq_some_iff.1 hx).1
    have h0 : i = 0 := by omega
    subst h0
    have hn := rightA_no h1
    refine ⟨⟨0 + 1, hlt, okFrom_yes rightA It.no hx hq (by rw [h1]; show (true && decide ((-1 : Int) < It.no x)) = true; rw [decide_eq_true (by omega)]; rfl)⟩, by show l.length - (0 + 1) < l.length - 0; omega, ?_⟩
    (first | refine Ent.ofA [] ?_ | refine Ent.ofC [] ?_) <;> (repeat' (first | exact trivial | refine HpLe.dd ?_ | refine HpLe.mk rfl (by simp) rfl (fun h => AObj.noConfusion h) ?_ ?_ | refine And.intro ?_ ?_ | exact cl9 | refine VLe.pe ?_ | refine VLe.agg ?_ | refine VLe.tup ?_ | refine VLe.fn ?_ ?_ | refine VLeL.cons ?_ ?_ | exact VLeL.nil | exact OLe.row _ _ | rfl | refine VLe.rsle rfl ?_ ?_ ?_ | refine OLe.rowe2 ?_ ?_ | refine OLe.mape ?_ ?_ | refine OLe.iter0 ?_ | refine OLe.itere ?_ ?_ | refine OLe.chane ?_ ?_ | refine OLe.mapSe ?_ ?_ ?_ | exact OLe.mapS0 rfl)) <;> try (first | (simp; done) | (congr 1; omega) | (congr 1; (first | (simp; done) | (simp; omega))))
  · have hx : l[i]? = some x := hx
    rw [show chkA l = 290 from chkL_err rightA It.no h96 (okFrom_no rightA It.no hx hq (by rw [hc]; rfl))]; exact LeG.refl _
  · have hc : ¬ (i : Int) < ((l.map eA).length : Int) := hc
    rw [List.length_map] at hc
    rw [show chkA l = 0 from chkL_ok rightA It.no h96 (okFrom_fin rightA It.no hq (by omega))]; exact LeG.refl _
end Go.Proofs.Ythlpjjnfcpjgoaa

namespace Go.Proofs.Ythlpjjnfcpjgoaa
open Go Go.Sg
set_option maxRecDepth 100000
set_option maxHeartbeats 4000000
theorem eqIt (x y : It) : (decide (x.no = y.no) && (decide (x.tm = y.tm) && (decide (x.known = y.known) && (decide (x.person = y.person) && (decide (x.party = y.party) && (x.of_ == y.of_ && (x.gone == y.gone))))))) = decide (x = y) := by
  cases x; cases y
  simp only [It.mk.injEq, Bool.decide_and]
  first | rfl | (congr; (rename_i a b; cases a <;> cases b <;> rfl)) | (simp; done)
theorem same_calls (a b : List It) (hl : a.length < 1000000) : PCalls Try.prog 15 [eL a, eL b] (.bool (decide (a = b))) := by
  refine PCalls.of (N := 26) (res := [.tmp 4]) mixed Try.func15 rfl rfl rfl (by kernel_rfl) (by simp) [0, 1, 4, 5, 10, 14, 25] ?_
  repeat' (first | exact cl1 | ((with_reducible show Exists _); first | exact exHM _ | refine exU8 ?_) | ((fail_if_success with_reducible first | show LeG _ _ | show Lp _ _ _ _ | show Exists _ | show callX _ _ _ _ _ | show (_ : Int) ≤ _ | show (_ : Int) < _ | show (_ : Nat) ≤ _ | show (_ : Nat) < _); (conv => whnf) <;> (first | exact cl2 | refine XAlt.l ?_ | refine Sq.pr ?_ | refine Br.dec (fun hc => ?_) (fun hc => ?_) | refine Br.tt ?_ | refine Br.ff ?_ | refine Br.not ?_ | refine Br.mk (fun hc => ?_) (fun hc => ?_) | refine Opt.nn ?_ | refine Opt.ss ?_ | refine AltA.l ?_ | exact PV.leL_nil | refine PV.leL_cons ?_ ?_ | refine And.intro ?_ ?_ | refine ix_map (fun x hx => ?_) | refine exU8 ?_ | refine nilc (fun hn => ?_) ?_ | exact cl3 | refine imp0 (fun hpos => ?_) | refine fits_i64 ?_ ?_ | exact rfl | exact trivial | (with_reducible first | show LeG _ _ | show Lp _ _ _ _ | show Exists _ | show callX _ _ _ _ _)))) <;> (try exact cl5)
  · rw [decide_eq_false (fun e => hc (by rw [e]))]; exact LeG.refl _
  have hab : a.length = b.length := by
    have h : ¬ ((a.map eA).length : Int) ≠ ((b.map eA).length : Int) := by assumption
    simp only [List.length_map] at h; omega
  refine Wpc.loopB (α := {i : Nat // i ≤ a.length ∧ ∀ j, j < i → a[j]? = b[j]?}) mixed [0, 1, 4, 5, 10, 14, 25] (fun i => [(5, .p (eI i.1))]) (fun i => a.length - i.1) ⟨0, by omega, fun j h => absurd h (by omega)⟩ ?_ ?_
  · (first | refine Ent.ofA [] ?_ | refine Ent.ofC [] ?_) <;> (repeat' (first | exact trivial | refine HpLe.dd ?_ | refine HpLe.mk rfl (by simp) rfl (fun h => AObj.noConfusion h) ?_ ?_ | refine And.intro ?_ ?_ | exact cl9 | refine VLe.pe ?_ | refine VLe.agg ?_ | refine VLe.tup ?_ | refine VLe.fn ?_ ?_ | refine VLeL.cons ?_ ?_ | exact VLeL.nil | exact OLe.row _ _ | rfl | refine VLe.rsle rfl ?_ ?_ ?_ | refine OLe.rowe2 ?_ ?_ | refine OLe.mape ?_ ?_ | refine OLe.iter0 ?_ | refine OLe.itere ?_ ?_ | refine OLe.chane ?_ ?_ | refine OLe.mapSe ?_ ?_ ?_ | exact OLe.mapS0 rfl)) <;> try (first | (simp; done) | (congr 1; omega) | (congr 1; (first | (simp; done) | (simp; omega))))
  rintro ⟨i, hi, hq⟩
  have hi : i ≤ a.length := hi
  have hq : ∀ j, j < i → a[j]? = b[j]? := hq
  repeat' (first | exact cl1 | ((with_reducible show Exists _); first | exact exHM _ | refine exU8 ?_) | ((fail_if_success with_reducible first | show LeG _ _ | show Lp _ _ _ _ | show Exists _ | show callX _ _ _ _ _ | show (_ : Int) ≤ _ | show (_ : Int) < _ | show (_ : Nat) ≤ _ | show (_ : Nat) < _); (conv => whnf) <;> (first | exact cl2 | refine XAlt.l ?_ | refine Sq.pr ?_ | refine Br.dec (fun hc => ?_) (fun hc => ?_) | refine Br.tt ?_ | refine Br.ff ?_ | refine Br.not ?_ | refine Br.mk (fun hc => ?_) (fun hc => ?_) | refine Opt.nn ?_ | refine Opt.ss ?_ | refine AltA.l ?_ | exact PV.leL_nil | refine PV.leL_cons ?_ ?_ | refine And.intro ?_ ?_ | refine ix_map (fun x hx => ?_) | refine exU8 ?_ | refine nilc (fun hn => ?_) ?_ | exact cl3 | refine imp0 (fun hpos => ?_) | refine fits_i64 ?_ ?_ | exact rfl | exact trivial | (with_reducible first | show LeG _ _ | show Lp _ _ _ _ | show Exists _ | show callX _ _ _ _ _)))) <;> (try exact cl5)
  · rename_i y hy
    have hx : b[i]? = some x := hx
    have hy : a[i]? = some y := hy
    have hlt := (List.getElem?_eq_some_iff.1 hy).1
    rw [eqIt] at hc
    have hc : y = x := of_decide_eq_true hc
    subst hc
    refine ⟨⟨i + 1, hlt, fun j hj => ?_⟩, by show a.length - (i + 1) < a.length - i; omega, ?_⟩
    · rcases Nat.lt_succ_iff_lt_or_eq.1 hj with h1 | h1
      · exact hq j h1
      · rw [h1, hx, hy]
    · (first | refine Ent.ofA [] ?_ | refine Ent.ofC [] ?_) <;> (repeat' (first | exact trivial | refine HpLe.dd ?_ | refine HpLe.mk rfl (by simp) rfl (fun h => AObj.noConfusion h) ?_ ?_ | refine And.intro ?_ ?_ | exact cl9 | refine VLe.pe ?_ | refine VLe.agg ?_ | refine VLe.tup ?_ | refine VLe.fn ?_ ?_ | refine VLeL.cons ?_ ?_ | exact VLeL.nil | exact OLe.row _ _ | rfl | refine VLe.rsle rfl ?_ ?_ ?_ | refine OLe.rowe2 ?_ ?_ | refine OLe.mape ?_ ?_ | refine OLe.iter0 ?_ | refine OLe.itere ?_ ?_ | refine OLe.chane ?_ ?_ | refine OLe.mapSe ?_ ?_ ?_ | exact OLe.mapS0 rfl)) <;> try (first | (simp; done) | (congr 1; omega) | (congr 1; (first | (simp; done) | (simp; omega))))
  · rename_i y hy
    have hx : b[i]? = some x := hx
    have hy : a[i]? = some y := hy
    rw [eqIt] at hc
    have hc : ¬ y = x := of_decide_eq_false hc
    rw [decide_eq_false (fun e => hc (by rw [e, hx] at hy; injection hy with hy; exact hy.symm))]; exact LeG.refl _
  · have hc : ¬ (i : Int) < ((a.map eA).length : Int) := hc
    rw [List.length_map] at hc
    rw [decide_eq_true (List.ext_getElem? fun j => by
      rcases Nat.lt_or_ge j i with h1 | h1
      · exact hq j h1
      · rw [List.getElem?_eq_none (by omega), List.getElem?_eq_none (by omega)])]
    exact LeG.refl _
end Go.Proofs.Ythlpjjnfcpjgoaa

namespace Go.Proofs.Ythlpjjnfcpjgoaa
open Go Go.Sg
set_option maxRecDepth 100000
set_option maxHeartbeats 20000000
def cntA (t k : Int) (x : It) : Bool := decide (x.tm ≤ t) && decide (x.known ≤ k)
abbrev Ky := Int × Int × Bool
def keyA (x : It) : Ky := (x.person, x.party, x.of_)
def eK (k : Ky) : PV := .agg [eI k.1, eI k.2.1, .bool k.2.2]
theorem keyK : KeyOf eK where
  eq := fun a b => by
    obtain ⟨a1, a2, a3⟩ := a
    obtain ⟨b1, b2, b3⟩ := b
    show (decide (a1 = b1) && (decide (a2 = b2) && ((a3 == b3) && true))) = _
    cases a3 <;> cases b3 <;> simp [Bool.decide_and]
abbrev Mp := List (Ky × It)
def updM (t k : Int) (m : Mp) (y : It) : Mp := if cntA t k y then (match aget (keyA y) m with | none => aput (keyA y) y m | some z => if z.tm ≤ y.tm then aput (keyA y) y m else m) else m
def foldM (t k : Int) (l : List It) : Mp := l.foldl (updM t k) []
theorem foldM_take {t k : Int} {l : List It} {i : Nat} {x : It} (h : l[i]? = some x) : foldM t k (l.take (i + 1)) = updM t k (foldM t k (l.take i)) x := by
  unfold foldM; rw [List.take_add_one, h]; simp [List.foldl_append]
abbrev KTs : KT := ([.int .i64, .int .i64, .bool], true)
theorem tM77 : tMap Try.prog 77 = some (KTs, 24) := by kernel_rfl
abbrev capC (l : List It) (M : Mp) : List PV := [.ro [eL l], .ro [.mp KTs (eM eK eA M)]]
theorem standing_calls (l : List It) (t k : Int) (hl : l.length < 1000000) : PCalls Try.prog 34 [eL l, eI t, eI k] (.fn (.func 50) [] (capC l (foldM t k l))) := by
  refine PCalls.of (N := 57) (res := [.tmp 6]) mixed Try.func34 rfl rfl rfl (by kernel_rfl) (by simp) [0, 1, 2, 3, 6, 7, 9, 10, 11, 12, 14, 15, 16, 17, 29, 51] ?_
  repeat' (first | exact cl1 | ((with_reducible show Exists _); first | exact exHM _ | refine exU8 ?_) | ((fail_if_success with_reducible first | show LeG _ _ | show Lp _ _ _ _ | show Exists _ | show callX _ _ _ _ _ | show (_ : Int) ≤ _ | show (_ : Int) < _ | show (_ : Nat) ≤ _ | show (_ : Nat) < _); (conv => whnf) <;> (first | exact cl2 | refine XAlt.l ?_ | refine Sq.pr ?_ | refine Br.dec (fun hc => ?_) (fun hc => ?_) | refine Br.tt ?_ | refine Br.ff ?_ | refine Br.not ?_ | refine Br.mk (fun hc => ?_) (fun hc => ?_) | refine Opt.nn ?_ | refine Opt.ss ?_ | refine AltA.l ?_ | exact PV.leL_nil | refine PV.leL_cons ?_ ?_ | refine And.intro ?_ ?_ | refine ix_map (fun x hx => ?_) | refine exU8 ?_ | refine nilc (fun hn => ?_) ?_ | exact cl3 | refine imp0 (fun hpos => ?_) | refine fits_i64 ?_ ?_ | exact rfl | exact trivial | (with_reducible first | show LeG _ _ | show Lp _ _ _ _ | show Exists _ | show callX _ _ _ _ _) | rw [tM77]))) <;> (try exact cl5)
  refine Wpc.loopA (α := {i : Nat // i ≤ l.length}) mixed [0, 1, 2, 3, 6, 7, 9, 10, 11, 12, 14, 15, 16, 17, 29, 51] (fun i => [(16, .p (eI i.1))]) (fun i => [(128, .map KTs (eM eK eA (foldM t k (l.take i.1))))]) (fun _ => 0) (fun i => l.length - i.1) ⟨0, by omega⟩ ?_ ?_
  · (first | refine Ent.ofA [] ?_ | refine Ent.ofC [] ?_) <;> (repeat' (first | exact trivial | refine HpLe.dd ?_ | refine HpLe.mk rfl (by simp) rfl (fun h => AObj.noConfusion h) ?_ ?_ | refine And.intro ?_ ?_ | exact cl9 | refine VLe.pe ?_ | refine VLe.agg ?_ | refine VLe.tup ?_ | refine VLe.fn ?_ ?_ | refine VLeL.cons ?_ ?_ | exact VLeL.nil | exact OLe.row _ _ | rfl | refine VLe.rsle rfl ?_ ?_ ?_ | refine OLe.rowe2 ?_ ?_ | refine OLe.mape ?_ ?_ | refine OLe.iter0 ?_ | refine OLe.itere ?_ ?_ | refine OLe.chane ?_ ?_ | refine OLe.mapSe ?_ ?_ ?_ | exact OLe.mapS0 rfl)) <;> try (first | (simp; done) | (congr 1; omega) | (congr 1; (first | (simp; done) | (simp; omega))))
  rintro ⟨i, hi⟩
  have hi : i ≤ l.length := hi
  repeat' (first | exact cl1 | ((with_reducible show Exists _); first | exact exHM _ | refine exU8 ?_) | ((fail_if_success with_reducible first | show LeG _ _ | show Lp _ _ _ _ | show Exists _ | show callX _ _ _ _ _ | show (_ : Int) ≤ _ | show (_ : Int) < _ | show (_ : Nat) ≤ _ | show (_ : Nat) < _); (conv => whnf) <;> (first | exact cl2 | refine Opt.of (mfind_map eA keyK (keyA x) (foldM t k (l.take i))) (fun z hz => ?_) (fun hz => ?_) | refine XAlt.l ?_ | refine Sq.pr ?_ | refine Br.dec (fun hc => ?_) (fun hc => ?_) | refine Br.tt ?_ | refine Br.ff ?_ | refine Br.not ?_ | refine Br.mk (fun hc => ?_) (fun hc => ?_) | refine Opt.nn ?_ | refine Opt.ss ?_ | refine AltA.l ?_ | exact PV.leL_nil | refine PV.leL_cons ?_ ?_ | refine And.intro ?_ ?_ | refine ix_map (fun x hx => ?_) | refine exU8 ?_ | refine nilc (fun hn => ?_) ?_ | exact cl3 | refine imp0 (fun hpos => ?_) | refine fits_i64 ?_ ?_ | exact rfl | exact trivial | (with_reducible first | show LeG _ _ | show Lp _ _ _ _ | show Exists _ | show callX _ _ _ _ _) | rw [tM77]))) <;> (try exact cl5)
  all_goals try (
    have hx : l[i]? = some x := hx
    have hlt := (List.getElem?_eq_some_iff.1 hx).1
    refine ⟨⟨i + 1, hlt⟩, by show l.length - (i + 1) < l.length - i; omega, ?_⟩
    (first | refine Ent.ofA [] ?_ | refine Ent.ofC [] ?_) <;> (repeat' (first | exact trivial | refine HpLe.dd ?_ | refine HpLe.mk rfl (by simp) rfl (fun h => AObj.noConfusion h) ?_ ?_ | refine And.intro ?_ ?_ | exact cl9 | refine VLe.pe ?_ | refine VLe.agg ?_ | refine VLe.tup ?_ | refine VLe.fn ?_ ?_ | refine VLeL.cons ?_ ?_ | exact VLeL.nil | exact OLe.row _ _ | rfl | refine VLe.rsle rfl ?_ ?_ ?_ | refine OLe.rowe2 ?_ ?_ | refine OLe.mape ?_ ?_ | refine OLe.iter0 ?_ | refine OLe.itere ?_ ?_ | refine OLe.chane ?_ ?_ | refine OLe.mapSe ?_ ?_ ?_ | exact OLe.mapS0 rfl)) <;> try (first | (simp; done) | (congr 1; omega) | (congr 1; (first | (simp; done) | (simp; omega))))
    show _ = eM eK eA (foldM t k (l.take (i + 1)))
    rw [foldM_take hx]
    unfold updM
    first
    | (rw [if_neg (show ¬ cntA t k x = true by simp only [cntA, Bool.and_eq_true, decide_eq_true_eq]; omega)]; done)
    | (rw [if_pos (show cntA t k x = true by simp only [cntA, Bool.and_eq_true, decide_eq_true_eq]; omega), hz]
       first
       | (show _ = eM eK eA (if z.tm ≤ x.tm then aput (keyA x) x (foldM t k (l.take i)) else foldM t k (l.take i))
          first
          | (rw [if_pos hc]; exact mput_map eA keyK (keyA x) x _)
          | (rw [if_neg hc]; done))
       | exact mput_map eA keyK (keyA x) x _)
    done)
  · have hc : ¬ (i : Int) < ((l.map eA).length : Int) := hc
    rw [List.length_map] at hc
    have eF : l.take i = l := List.take_of_length_le (by omega)
    show LeG (PV.fn (Fn.func 50) [] (capC l (foldM t k (l.take i)))) _
    rw [eF]; exact LeG.refl _
def zIt : It := ⟨0, 0, 0, 0, 0, false, false⟩
def stB (M : Mp) (x : It) : Bool := !x.gone && decide ((aget (keyA x) M).getD zIt = x)
theorem stand_iter (l : List It) (M : Mp) (hl : l.length < 1000000) : Iter Try.prog 50 (capC l M) ((l.filter (stB M)).map fun y => [eA y]) := by
  refine Iter.of (N := 35) mixed Try.func50 rfl rfl rfl (by kernel_rfl) (by simp) [0, 1, 2, 5, 6, 7, 8, 9, 33] ?_
  intro G hG hxx
  repeat' (first | exact cl1 | ((with_reducible show Exists _); first | exact exHM _ | refine exU8 ?_) | ((fail_if_success with_reducible first | show LeG _ _ | show Lp _ _ _ _ | show Exists _ | show callX _ _ _ _ _ | show (_ : Int) ≤ _ | show (_ : Int) < _ | show (_ : Nat) ≤ _ | show (_ : Nat) < _); (conv => whnf) <;> (first | exact cl2 | refine XAlt.l ?_ | refine Sq.pr ?_ | refine Br.dec (fun hc => ?_) (fun hc => ?_) | refine Br.tt ?_ | refine Br.ff ?_ | refine Br.not ?_ | refine Br.mk (fun hc => ?_) (fun hc => ?_) | refine Opt.nn ?_ | refine Opt.ss ?_ | refine AltA.l ?_ | exact PV.leL_nil | refine PV.leL_cons ?_ ?_ | refine And.intro ?_ ?_ | refine ix_map (fun x hx => ?_) | refine exU8 ?_ | refine nilc (fun hn => ?_) ?_ | exact cl3 | refine imp0 (fun hpos => ?_) | refine fits_i64 ?_ ?_ | exact rfl | exact trivial | (with_reducible first | show LeG _ _ | show Lp _ _ _ _ | show Exists _ | show callX _ _ _ _ _)))) <;> (try exact cl5)
  refine Wpc.loopA (α := {i : Nat // i ≤ l.length ∧ cntQ (stB M) l i ≤ G.stop}) mixed [0, 1, 2, 5, 6, 7, 8, 9, 33] (fun i => [(8, .p (eI i.1))]) (fun _ => []) (fun i => cntQ (stB M) l i.1) (fun i => l.length - i.1) ⟨0, by omega, by simp [cntQ]⟩ ?_ ?_
  · (first | refine Ent.ofA [] ?_ | refine Ent.ofC [] ?_) <;> (repeat' (first | exact trivial | refine HpLe.dd ?_ | refine HpLe.mk rfl (by simp) rfl (fun h => AObj.noConfusion h) ?_ ?_ | refine And.intro ?_ ?_ | exact cl9 | refine VLe.pe ?_ | refine VLe.agg ?_ | refine VLe.tup ?_ | refine VLe.fn ?_ ?_ | refine VLeL.cons ?_ ?_ | exact VLeL.nil | exact OLe.row _ _ | rfl | refine VLe.rsle rfl ?_ ?_ ?_ | refine OLe.rowe2 ?_ ?_ | refine OLe.mape ?_ ?_ | refine OLe.iter0 ?_ | refine OLe.itere ?_ ?_ | refine OLe.chane ?_ ?_ | refine OLe.mapSe ?_ ?_ ?_ | exact OLe.mapS0 rfl)) <;> try (first | (simp; done) | (congr 1; omega) | (congr 1; (first | (simp; done) | (simp; omega))))
  rintro ⟨i, hi, hs⟩
  have hi : i ≤ l.length := hi
  have hs : cntQ (stB M) l i ≤ G.stop := hs
  have hxl : G.xs.length = (l.filter (stB M)).length := by rw [hxx]; simp
  repeat' (first | exact cl1 | ((with_reducible show Exists _); first | exact exHM _ | refine exU8 ?_) | ((fail_if_success with_reducible first | show LeG _ _ | show Lp _ _ _ _ | show Exists _ | show callX _ _ _ _ _ | show (_ : Int) ≤ _ | show (_ : Int) < _ | show (_ : Nat) ≤ _ | show (_ : Nat) < _); (conv => whnf) <;> (first | exact cl2 | refine Opt.of (mfind_map eA keyK (keyA x) M) (fun z hz => ?_) (fun hz => ?_) | refine XAlt.l ?_ | refine Sq.pr ?_ | refine Br.dec (fun hc => ?_) (fun hc => ?_) | refine Br.tt ?_ | refine Br.ff ?_ | refine Br.not ?_ | refine Br.mk (fun hc => ?_) (fun hc => ?_) | refine Opt.nn ?_ | refine Opt.ss ?_ | refine AltA.l ?_ | exact PV.leL_nil | refine PV.leL_cons ?_ ?_ | refine And.intro ?_ ?_ | refine ix_map (fun x hx => ?_) | refine exU8 ?_ | refine nilc (fun hn => ?_) ?_ | exact cl3 | refine imp0 (fun hpos => ?_) | refine fits_i64 ?_ ?_ | exact rfl | exact trivial | (with_reducible first | show LeG _ _ | show Lp _ _ _ _ | show Exists _ | show callX _ _ _ _ _) | rw [tM77]))) <;> (try exact cl5)
  all_goals first
  | (have hc : ¬ (i : Int) < ((l.map eA).length : Int) := hc
     rw [List.length_map] at hc
     have e := cntQ_end (stB M) (show l.length ≤ i by omega)
     show cntQ (stB M) l i = min (G.stop + 1) ((l.filter (stB M)).map fun y => [eA y]).length
     rw [List.length_map]; omega)
  | (have hx : l[i]? = some x := hx
     have hlt := (List.getElem?_eq_some_iff.1 hx).1
     first
     | (have hq : stB M x = false := by
          first
          | (have h1 : x.gone = true := by assumption
             simp only [stB, h1, Bool.not_true, Bool.false_and]; done)
          | (have h1 : decide (z = x) = false := (eqIt z x).symm.trans (by assumption)
             simp only [stB, hz, Option.getD_some, h1, Bool.and_false])
          | (have h1 : decide (zIt = x) = false := (eqIt zIt x).symm.trans (by assumption)
             simp only [stB, hz, Option.getD_none, h1, Bool.and_false])
        have e := cntQ_no (stB M) hx hq
        refine ⟨⟨i + 1, hlt, by show cntQ (stB M) l (i + 1) ≤ G.stop; omega⟩, by show l.length - (i + 1) < l.length - i; omega, ?_⟩
        (first | refine Ent.ofA [] ?_ | refine Ent.ofC [] ?_) <;> (repeat' (first | exact trivial | refine HpLe.dd ?_ | refine HpLe.mk rfl (by simp) rfl (fun h => AObj.noConfusion h) ?_ ?_ | refine And.intro ?_ ?_ | exact cl9 | refine VLe.pe ?_ | refine VLe.agg ?_ | refine VLe.tup ?_ | refine VLe.fn ?_ ?_ | refine VLeL.cons ?_ ?_ | exact VLeL.nil | exact OLe.row _ _ | rfl | refine VLe.rsle rfl ?_ ?_ ?_ | refine OLe.rowe2 ?_ ?_ | refine OLe.mape ?_ ?_ | refine OLe.iter0 ?_ | refine OLe.itere ?_ ?_ | refine OLe.chane ?_ ?_ | refine OLe.mapSe ?_ ?_ ?_ | exact OLe.mapS0 rfl)) <;> try (first | (simp; done) | (congr 1; omega) | (congr 1; (first | (simp; done) | (simp; omega))))
        exact e)
     | (have hq : stB M x = true := by
          first
          | (have h1 : decide (z = x) = true := (eqIt z x).symm.trans (by assumption)
             have h2 : x.gone = false := by assumption
             simp only [stB, hz, Option.getD_some, h1, h2, Bool.not_false, Bool.and_self])
          | (have h1 : decide (zIt = x) = true := (eqIt zIt x).symm.trans (by assumption)
             have h2 : x.gone = false := by assumption
             simp only [stB, hz, Option.getD_none, h1, h2, Bool.not_false, Bool.and_self])
        have h1 := (List.getElem?_eq_some_iff.1 (cntQ_get (stB M) hx hq)).1
        first
        | (show cntQ (stB M) l i < G.xs.length
           omega)
        | (show _ = List.map AV.p (G.xs.getD (cntQ (stB M) l i) [])
           have e : G.xs.getD (cntQ (stB M) l i) [] = [eA x] := by
             rw [hxx]; simp [List.getD, cntQ_get (stB M) hx hq]
           rw [e]; rfl)
        | (have hc : cntQ (stB M) l i ≠ G.stop := hc
           have e := cntQ_yes (stB M) hx hq
           refine ⟨⟨i + 1, hlt, by show cntQ (stB M) l (i + 1) ≤ G.stop; omega⟩, by show l.length - (i + 1) < l.length - i; omega, ?_⟩
           (first | refine Ent.ofA [] ?_ | refine Ent.ofC [] ?_) <;> (repeat' (first | exact trivial | refine HpLe.dd ?_ | refine HpLe.mk rfl (by simp) rfl (fun h => AObj.noConfusion h) ?_ ?_ | refine And.intro ?_ ?_ | exact cl9 | refine VLe.pe ?_ | refine VLe.agg ?_ | refine VLe.tup ?_ | refine VLe.fn ?_ ?_ | refine VLeL.cons ?_ ?_ | exact VLeL.nil | exact OLe.row _ _ | rfl | refine VLe.rsle rfl ?_ ?_ ?_ | refine OLe.rowe2 ?_ ?_ | refine OLe.mape ?_ ?_ | refine OLe.iter0 ?_ | refine OLe.itere ?_ ?_ | refine OLe.chane ?_ ?_ | refine OLe.mapSe ?_ ?_ ?_ | exact OLe.mapS0 rfl)) <;> try (first | (simp; done) | (congr 1; omega) | (congr 1; (first | (simp; done) | (simp; omega))))
           exact e)
        | (have hc : ¬ cntQ (stB M) l i ≠ G.stop := hc
           show cntQ (stB M) l i + 1 = min (G.stop + 1) ((l.filter (stB M)).map fun y => [eA y]).length
           rw [List.length_map]; omega)))
end Go.Proofs.Ythlpjjnfcpjgoaa

namespace Go.Proofs.Ythlpjjnfcpjgoaa
open Go Go.Sg
set_option maxRecDepth 100000
set_option maxHeartbeats 4000000
theorem bs_calls (f : FuncId) (t : PV) (n : Int) (h : ∀ x, PCalls Try.prog f [eA x, t] (eI (cmpI (It.no x) n))) (hf : enters Try.prog f = true) (l : List (It)) (hl : l.length < 1000000) (hs : l.Pairwise (fun a b => It.no a < It.no b)) :
    PCalls Try.prog 25 [eL l, t, .fn (.func f) [] []] (.tup [eI (posN It.no n l), .bool (hasN It.no n l)]) := by
  refine PCalls.of (N := 49) (res := [.tmp 6, .tmp 7]) mixed Try.func25 rfl rfl rfl (by kernel_rfl) (by simp) [0, 1, 2, 6, 7, 8, 9, 10, 11, 17, 31] ?_
  repeat' (first | exact cl1 | ((with_reducible show Exists _); first | exact exHM _ | refine exU8 ?_) | ((fail_if_success with_reducible first | show LeG _ _ | show Lp _ _ _ _ | show Exists _ | show callX _ _ _ _ _ | show (_ : Int) ≤ _ | show (_ : Int) < _ | show (_ : Nat) ≤ _ | show (_ : Nat) < _); (conv => whnf) <;> (first | exact cl2 | refine XAlt.l ?_ | refine Sq.pr ?_ | refine Br.dec (fun hc => ?_) (fun hc => ?_) | refine Br.tt ?_ | refine Br.ff ?_ | refine Br.not ?_ | refine Br.mk (fun hc => ?_) (fun hc => ?_) | refine Opt.nn ?_ | refine Opt.ss ?_ | refine AltA.l ?_ | exact PV.leL_nil | refine PV.leL_cons ?_ ?_ | refine And.intro ?_ ?_ | refine ix_map (fun x hx => ?_) | refine exU8 ?_ | refine nilc (fun hn => ?_) ?_ | exact cl3 | refine imp0 (fun hpos => ?_) | refine fits_i64 ?_ ?_ | exact rfl | exact trivial | (with_reducible first | show LeG _ _ | show Lp _ _ _ _ | show Exists _ | show callX _ _ _ _ _)))) <;> (try exact cl5)
  refine Wpc.loopB (α := {x : Nat × Nat // (x.1 ≤ x.2 ∧ x.2 ≤ l.length) ∧ (∀ j w, j < x.1 → l[j]? = some w → It.no w < n) ∧ (∀ j w, x.2 ≤ j → l[j]? = some w → n ≤ It.no w)}) mixed [0, 1, 2, 6, 7, 8, 9, 10, 11, 17, 31] (fun x => [(9, .p (eI x.1.1)), (10, .p (eI x.1.2))]) (fun x => x.1.2 - x.1.1) ⟨(0, l.length), by simp, by intro j w h; exact absurd h (by simp), by intro j w h hw; exact absurd (List.getElem?_eq_some_iff.1 hw).1 (by simp at h; omega)⟩ ?_ ?_
  · (first | refine Ent.ofA [] ?_ | refine Ent.ofC [] ?_) <;> (repeat' (first | exact trivial | refine HpLe.dd ?_ | refine HpLe.mk rfl (by simp) rfl (fun h => AObj.noConfusion h) ?_ ?_ | refine And.intro ?_ ?_ | exact cl9 | refine VLe.pe ?_ | refine VLe.agg ?_ | refine VLe.tup ?_ | refine VLe.fn ?_ ?_ | refine VLeL.cons ?_ ?_ | exact VLeL.nil | exact OLe.row _ _ | rfl | refine VLe.rsle rfl ?_ ?_ ?_ | refine OLe.rowe2 ?_ ?_ | refine OLe.mape ?_ ?_ | refine OLe.iter0 ?_ | refine OLe.itere ?_ ?_ | refine OLe.chane ?_ ?_ | refine OLe.mapSe ?_ ?_ ?_ | exact OLe.mapS0 rfl)) <;> try (first | (simp; done) | (congr 1; omega) | (congr 1; (first | (simp; done) | (simp; omega))))
  rintro ⟨⟨a, b⟩, h1, h2, h3⟩
  have h1 : a ≤ b ∧ b ≤ l.length := h1
  have h2 : ∀ j w, j < a → l[j]? = some w → It.no w < n := h2
  have h3 : ∀ j w, b ≤ j → l[j]? = some w → n ≤ It.no w := h3
  repeat' (first | exact cl1 | ((with_reducible show Exists _); first | exact exHM _ | refine exU8 ?_) | ((with_reducible show callX _ _ _ _ _); (first | refine call_p (h _) hf rfl ?_)) | ((fail_if_success with_reducible first | show LeG _ _ | show Lp _ _ _ _ | show Exists _ | show callX _ _ _ _ _ | show (_ : Int) ≤ _ | show (_ : Int) < _ | show (_ : Nat) ≤ _ | show (_ : Nat) < _); (conv => whnf) <;> (first | exact cl2 | refine XAlt.l ?_ | refine Sq.pr ?_ | refine Br.dec (fun hc => ?_) (fun hc => ?_) | refine Br.tt ?_ | refine Br.ff ?_ | refine Br.not ?_ | refine Br.mk (fun hc => ?_) (fun hc => ?_) | refine Opt.nn ?_ | refine Opt.ss ?_ | refine AltA.l ?_ | exact PV.leL_nil | refine PV.leL_cons ?_ ?_ | refine And.intro ?_ ?_ | refine ix_map (fun x hx => ?_) | refine exU8 ?_ | refine nilc (fun hn => ?_) ?_ | refine call_p (h _) hf rfl ?_ | exact cl3 | refine imp0 (fun hpos => ?_) | refine fits_i64 ?_ ?_ | exact rfl | exact trivial | (with_reducible first | show LeG _ _ | show Lp _ _ _ _ | show Exists _ | show callX _ _ _ _ _)))) <;> (try exact cl5)
  · show 0 ≤ IntKind.i64.wrap ((IntKind.u64.wrap ((a : Int) + b)).fdiv (2 ^ min (Int.toNat 1) IntKind.u64.bits))
    rw [mid_eq a b (by omega)]; omega
  · show IntKind.i64.wrap ((IntKind.u64.wrap ((a : Int) + b)).fdiv (2 ^ min (Int.toNat 1) IntKind.u64.bits)) < ((l.map eA).length : Int)
    have hc : (a : Int) < (b : Int) := hc
    rw [mid_eq a b (by omega), List.length_map]; omega
  · show -9223372036854775808 ≤ IntKind.i64.wrap ((IntKind.u64.wrap ((a : Int) + b)).fdiv (2 ^ min (Int.toNat 1) IntKind.u64.bits)) + 1
    rw [mid_eq a b (by omega)]; omega
  · show IntKind.i64.wrap ((IntKind.u64.wrap ((a : Int) + b)).fdiv (2 ^ min (Int.toNat 1) IntKind.u64.bits)) + 1 ≤ 9223372036854775807
    rw [mid_eq a b (by omega)]; omega
  · rename_i c1
    have c1 : (a : Int) < (b : Int) := c1
    have hx : l[(IntKind.i64.wrap ((IntKind.u64.wrap ((a : Int) + b)).fdiv (2 ^ min (Int.toNat 1) IntKind.u64.bits))).toNat]? = some x := hx
    rw [mid_eq a b (by omega), Int.toNat_natCast] at hx
    rw [cmpI_lt] at hc
    refine ⟨⟨((a + b) / 2 + 1, b), by show (a + b) / 2 + 1 ≤ b ∧ b ≤ l.length; omega, fun j w hj hw => ?_, h3⟩, by show b - ((a + b) / 2 + 1) < b - a; omega, ?_⟩
    · have hj : j < (a + b) / 2 + 1 := hj
      have := srt_le It.no hs (show j ≤ (a + b) / 2 by omega) hw hx
      omega
    · (first | refine Ent.ofA [] ?_ | refine Ent.ofC [] ?_) <;> (repeat' (first | exact trivial | refine HpLe.dd ?_ | refine HpLe.mk rfl (by simp) rfl (fun h => AObj.noConfusion h) ?_ ?_ | refine And.intro ?_ ?_ | exact cl9 | refine VLe.pe ?_ | refine VLe.agg ?_ | refine VLe.tup ?_ | refine VLe.fn ?_ ?_ | refine VLeL.cons ?_ ?_ | exact VLeL.nil | exact OLe.row _ _ | rfl | refine VLe.rsle rfl ?_ ?_ ?_ | refine OLe.rowe2 ?_ ?_ | refine OLe.mape ?_ ?_ | refine OLe.iter0 ?_ | refine OLe.itere ?_ ?_ | refine OLe.chane ?_ ?_ | refine OLe.mapSe ?_ ?_ ?_ | exact OLe.mapS0 rfl)) <;> try (first | (simp; done) | (congr 1; omega) | (congr 1; (first | (simp; done) | (simp; omega))))
      exact congrArg (PV.int .i64) (show IntKind.i64.wrap ((IntKind.u64.wrap ((a : Int) + b)).fdiv (2 ^ min (Int.toNat 1) IntKind.u64.bits)) + 1 = (((a + b) / 2 + 1 : Nat) : Int) by rw [mid_eq a b (by omega)]; omega)
  · rename_i c1
    have c1 : (a : Int) < (b : Int) := c1
    have hx : l[(IntKind.i64.wrap ((IntKind.u64.wrap ((a : Int) + b)).fdiv (2 ^ min (Int.toNat 1) IntKind.u64.bits))).toNat]? = some x := hx
    rw [mid_eq a b (by omega), Int.toNat_natCast] at hx
    rw [cmpI_lt] at hc
    refine ⟨⟨(a, (a + b) / 2), by show a ≤ (a + b) / 2 ∧ (a + b) / 2 ≤ l.length; omega, h2, fun j w hj hw => ?_⟩, by show (a + b) / 2 - a < b - a; omega, ?_⟩
    · have hj : (a + b) / 2 ≤ j := hj
      have := srt_le It.no hs hj hx hw
      omega
    · (first | refine Ent.ofA [] ?_ | refine Ent.ofC [] ?_) <;> (repeat' (first | exact trivial | refine HpLe.dd ?_ | refine HpLe.mk rfl (by simp) rfl (fun h => AObj.noConfusion h) ?_ ?_ | refine And.intro ?_ ?_ | exact cl9 | refine VLe.pe ?_ | refine VLe.agg ?_ | refine VLe.tup ?_ | refine VLe.fn ?_ ?_ | refine VLeL.cons ?_ ?_ | exact VLeL.nil | exact OLe.row _ _ | rfl | refine VLe.rsle rfl ?_ ?_ ?_ | refine OLe.rowe2 ?_ ?_ | refine OLe.mape ?_ ?_ | refine OLe.iter0 ?_ | refine OLe.itere ?_ ?_ | refine OLe.chane ?_ ?_ | refine OLe.mapSe ?_ ?_ ?_ | exact OLe.mapS0 rfl)) <;> try (first | (simp; done) | (congr 1; omega) | (congr 1; (first | (simp; done) | (simp; omega))))
      exact congrArg (PV.int .i64) (show IntKind.i64.wrap ((IntKind.u64.wrap ((a : Int) + b)).fdiv (2 ^ min (Int.toNat 1) IntKind.u64.bits)) = (((a + b) / 2 : Nat) : Int) by rw [mid_eq a b (by omega)])
  · rename_i c1
    have c1 : ¬ (a : Int) < (b : Int) := c1
    have hx : l[a]? = some x := hx
    have hp : posN It.no n l = a := posN_eq It.no l n a (by omega) h2 (fun y hy => h3 a y (by omega) hy)
    unfold hasN
    rw [hp, hx]
    simp only
    exact LeG.of (congrArg (fun b => PV.tup [eI (a : Int), PV.bool b]) (decide_eq_decide.2 cmpI_eq))
  · rename_i c1
    have c1 : ¬ (a : Int) < (b : Int) := c1
    have hc : ¬ (a : Int) < ((l.map eA).length : Int) := hc
    rw [List.length_map] at hc
    have hp : posN It.no n l = a := posN_eq It.no l n a (by omega) h2 (fun y hy => h3 a y (by omega) hy)
    unfold hasN
    rw [hp, List.getElem?_eq_none (by omega)]
    exact LeG.refl _
end Go.Proofs.Ythlpjjnfcpjgoaa

namespace Go.Proofs.Ythlpjjnfcpjgoaa
open Go Go.Sg
set_option maxRecDepth 100000
set_option maxHeartbeats 4000000
theorem few_calls (l : List It) : PCalls Try.prog 10 [eL l] (.bool (decide (l.length ≤ 40) || decide (4096 < l.length) && decide (l.length ≤ 4200))) := by
  refine PCalls.of (N := 16) (res := [.tmp 2]) mixed Try.func10 rfl rfl rfl (by kernel_rfl) (by simp) [0, 2] ?_
  repeat' (first | exact cl1 | ((with_reducible show Exists _); first | exact exHM _ | refine exU8 ?_) | ((fail_if_success with_reducible first | show LeG _ _ | show Lp _ _ _ _ | show Exists _ | show callX _ _ _ _ _ | show (_ : Int) ≤ _ | show (_ : Int) < _ | show (_ : Nat) ≤ _ | show (_ : Nat) < _); (conv => whnf) <;> (first | exact cl2 | refine XAlt.l ?_ | refine Sq.pr ?_ | refine Br.dec (fun hc => ?_) (fun hc => ?_) | refine Br.tt ?_ | refine Br.ff ?_ | refine Br.not ?_ | refine Br.mk (fun hc => ?_) (fun hc => ?_) | refine Opt.nn ?_ | refine Opt.ss ?_ | refine AltA.l ?_ | exact PV.leL_nil | refine PV.leL_cons ?_ ?_ | refine And.intro ?_ ?_ | refine ix_map (fun x hx => ?_) | refine exU8 ?_ | refine nilc (fun hn => ?_) ?_ | exact cl3 | refine imp0 (fun hpos => ?_) | refine fits_i64 ?_ ?_ | exact rfl | exact trivial | (with_reducible first | show LeG _ _ | show Lp _ _ _ _ | show Exists _ | show callX _ _ _ _ _)))) <;> (try exact cl5)
  all_goals (simp only [List.length_map] at *; refine LeG.bool ?_; (by_cases h1 : l.length ≤ 40) <;> (by_cases h2 : 4096 < l.length) <;> (by_cases h3 : l.length ≤ 4200) <;> simp [h1, h2, h3] <;> omega)
theorem clone_icalls (l : List It) (h1 : l.length < 1000000) (h0 : 0 < l.length) : ICalls Try.prog 30 0 [] [.p (eL l)] (.rsl 0 7 0 l.length) [(0, .row 7 (l.map eA))] := by
  refine ICalls.of (N := 8) (res := [.tmp 2]) mixed Try.func30 rfl rfl rfl (by kernel_rfl) (by simp) [0, 2, 4] (Nat.le_refl _) ?_
  repeat' (first | exact cl1 | ((with_reducible show Exists _); first | exact exHM _ | refine exU8 ?_) | ((fail_if_success with_reducible first | show LeG _ _ | show Lp _ _ _ _ | show Exists _ | show callX _ _ _ _ _ | show (_ : Int) ≤ _ | show (_ : Int) < _ | show (_ : Nat) ≤ _ | show (_ : Nat) < _); (conv => whnf) <;> (first | exact cl2 | refine XAlt.l ?_ | refine Sq.pr ?_ | refine Br.dec (fun hc => ?_) (fun hc => ?_) | refine Br.tt ?_ | refine Br.ff ?_ | refine Br.not ?_ | refine Br.mk (fun hc => ?_) (fun hc => ?_) | refine Opt.nn ?_ | refine Opt.ss ?_ | refine AltA.l ?_ | exact PV.leL_nil | refine PV.leL_cons ?_ ?_ | refine And.intro ?_ ?_ | refine ix_map (fun x hx => ?_) | refine exU8 ?_ | refine nilc (fun hn => ?_) ?_ | exact cl3 | refine imp0 (fun hpos => ?_) | refine fits_i64 ?_ ?_ | exact rfl | exact trivial | (with_reducible first | show LeG _ _ | show Lp _ _ _ _ | show Exists _ | show callX _ _ _ _ _)))) <;> (try exact cl5)
  · simp at hn; subst hn; simp at h0
  · refine ⟨[], [(0, 320)], ?_, ?_, by decide, by decide, fun i hi => by omega⟩ <;> (repeat' (first | exact trivial | refine HpLe.dd ?_ | refine HpLe.mk rfl (by simp) rfl (fun h => AObj.noConfusion h) ?_ ?_ | refine And.intro ?_ ?_ | exact cl9 | refine VLe.pe ?_ | refine VLe.agg ?_ | refine VLe.tup ?_ | refine VLe.fn ?_ ?_ | refine VLeL.cons ?_ ?_ | exact VLeL.nil | exact OLe.row _ _ | rfl | refine VLe.rsle rfl ?_ ?_ ?_ | refine OLe.rowe2 ?_ ?_ | refine OLe.mape ?_ ?_ | refine OLe.iter0 ?_ | refine OLe.itere ?_ ?_ | refine OLe.chane ?_ ?_ | refine OLe.mapSe ?_ ?_ ?_ | exact OLe.mapS0 rfl)) <;> simp
theorem clone0_icalls : ICalls Try.prog 30 0 [] [.p (eL [])] (.p (.sl 7 true [])) [] := by
  refine ICalls.of (N := 8) (res := [.tmp 2]) mixed Try.func30 rfl rfl rfl (by kernel_rfl) (by simp) [0, 2, 4] (Nat.le_refl _) ?_
  repeat' (first | exact cl1 | ((with_reducible show Exists _); first | exact exHM _ | refine exU8 ?_) | ((fail_if_success with_reducible first | show LeG _ _ | show Lp _ _ _ _ | show Exists _ | show callX _ _ _ _ _ | show (_ : Int) ≤ _ | show (_ : Int) < _ | show (_ : Nat) ≤ _ | show (_ : Nat) < _); (conv => whnf) <;> (first | exact cl2 | refine AltA.r ?_ | refine XAlt.l ?_ | refine Sq.pr ?_ | refine Br.dec (fun hc => ?_) (fun hc => ?_) | refine Br.tt ?_ | refine Br.ff ?_ | refine Br.not ?_ | refine Br.mk (fun hc => ?_) (fun hc => ?_) | refine Opt.nn ?_ | refine Opt.ss ?_ | refine AltA.l ?_ | exact PV.leL_nil | refine PV.leL_cons ?_ ?_ | refine And.intro ?_ ?_ | refine ix_map (fun x hx => ?_) | refine exU8 ?_ | refine nilc (fun hn => ?_) ?_ | exact cl3 | refine imp0 (fun hpos => ?_) | refine fits_i64 ?_ ?_ | exact rfl | exact trivial | (with_reducible first | show LeG _ _ | show Lp _ _ _ _ | show Exists _ | show callX _ _ _ _ _)))) <;> (try exact cl5)
  · exact ⟨[], [], VLe.p (PV.le_nil _ _ _), trivial, by decide, by simp, fun i hi => by omega⟩
  · exact ⟨[], [], VLe.csl0, trivial, by decide, by simp, fun i hi => by omega⟩
theorem insert0_calls (x : It) : PCalls Try.prog 29 [.sl 7 true [], eI 0, eL [x]] (eL [x]) := by
  refine PCalls.of (N := 95) (res := [.tmp 6]) mixed Try.func29 rfl rfl rfl (by kernel_rfl) (by simp) [0, 1, 2, 6, 7, 8, 9, 16, 22, 31, 68] ?_
  repeat' (first | exact cl1 | ((with_reducible show Exists _); first | exact exHM _ | refine exU8 ?_) | ((fail_if_success with_reducible first | show LeG _ _ | show Lp _ _ _ _ | show Exists _ | show callX _ _ _ _ _ | show (_ : Int) ≤ _ | show (_ : Int) < _ | show (_ : Nat) ≤ _ | show (_ : Nat) < _); (conv => whnf) <;> (first | exact cl2 | refine XAlt.l ?_ | refine Sq.pr ?_ | refine Br.dec (fun hc => ?_) (fun hc => ?_) | refine Br.tt ?_ | refine Br.ff ?_ | refine Br.not ?_ | refine Br.mk (fun hc => ?_) (fun hc => ?_) | refine Opt.nn ?_ | refine Opt.ss ?_ | refine AltA.l ?_ | exact PV.leL_nil | refine PV.leL_cons ?_ ?_ | refine And.intro ?_ ?_ | refine ix_map (fun x hx => ?_) | refine exU8 ?_ | refine nilc (fun hn => ?_) ?_ | exact cl3 | refine imp0 (fun hpos => ?_) | refine fits_i64 ?_ ?_ | exact rfl | exact trivial | (with_reducible first | show LeG _ _ | show Lp _ _ _ _ | show Exists _ | show callX _ _ _ _ _)))) <;> (try exact cl5)
  · exfalso; simp at hc
  · exact absurd rfl hc
theorem ov : OvFact Try.prog 45 :=
  ⟨Try.f45, 22, 22, 24, 7, tT2 Try.prog 24, Try.func45, by kernel_rfl, by kernel_rfl, by kernel_rfl, by kernel_rfl, by kernel_rfl, by kernel_rfl⟩
/-- An insertion: the row with the copies, the row with the new element. -/
theorem insert_icalls (l : List It) (x : It) (p : Nat) (hp : p ≤ l.length) (h1 : l.length < 1000000) : ICalls Try.prog 29 2 [(0, .row 7 (l.map eA)), (1, .row 7 [eA x])] [.rsl 0 7 0 l.length, .p (eI p), .rsl 1 7 0 1] (.p (eL (l.take p ++ x :: l.drop p))) [(0, .dead), (1, .dead)] := by
  refine ICalls.csl fun cap hcap => ?_
  have hA : l.map eA = (l.take p).map eA ++ (l.drop p).map eA := by rw [← List.map_append, List.take_append_drop]
  have hR : (l.take p ++ x :: l.drop p).map eA = (l.take p).map eA ++ eA x :: (l.drop p).map eA := by simp
  have hpB : p = ((l.take p).map eA).length := by simp; omega
  have hnB : l.length = ((l.take p).map eA).length + ((l.drop p).map eA).length := by simp; omega
  refine ICalls.of (N := 95) (res := [.tmp 6]) mixed Try.func29 rfl rfl rfl (by kernel_rfl) (by simp) [0, 1, 2, 6, 7, 8, 9, 16, 22, 31, 68] (Nat.le_refl _) ?_
  repeat' (first | exact cl1 | ((with_reducible show Exists _); first | exact exHM _ | refine exU8 ?_) | ((with_reducible show callX _ _ _ _ _); (first | refine call_e ov rfl rfl rfl (by decide) rfl rfl (by decide) (by simp; omega) ?_)) | ((fail_if_success with_reducible first | show LeG _ _ | show Lp _ _ _ _ | show Exists _ | show callX _ _ _ _ _ | show (_ : Int) ≤ _ | show (_ : Int) < _ | show (_ : Nat) ≤ _ | show (_ : Nat) < _); (conv => whnf) <;> (first | exact cl2 | refine XAlt.l ?_ | refine Sq.pr ?_ | refine Br.dec (fun hc => ?_) (fun hc => ?_) | refine Br.tt ?_ | refine Br.ff ?_ | refine Br.not ?_ | refine Br.mk (fun hc => ?_) (fun hc => ?_) | refine Opt.nn ?_ | refine Opt.ss ?_ | refine AltA.l ?_ | exact PV.leL_nil | refine PV.leL_cons ?_ ?_ | refine And.intro ?_ ?_ | refine ix_map (fun x hx => ?_) | refine exU8 ?_ | refine nilc (fun hn => ?_) ?_ | refine call_e ov rfl rfl rfl (by decide) rfl rfl (by decide) (by simp; omega) ?_ | exact cl3 | refine imp0 (fun hpos => ?_) | refine fits_i64 ?_ ?_ | exact rfl | exact trivial | (with_reducible first | show LeG _ _ | show Lp _ _ _ _ | show Exists _ | show callX _ _ _ _ _)))) <;> (try exact cl5)
  · have hc : (p : Int) = l.length := hc
    have hpl : p = l.length := by omega
    refine ⟨[1090], [(0, 0), (1, 1)], VLe.frzR (by simp) rfl (by decide) (by simp) ?_, HpLe.dd (HpLe.dd trivial), by decide, by simp, fun i hi => by match i, hi with | 0, _ => rfl | 1, _ => rfl⟩
    show PV.sl 7 false _ = PV.sl 7 false _
    congr 1
    subst hpl
    rw [List.drop_zero, List.take_of_length_le (by simp)]
    simp
  · rename_i c1 c2
    have c2 : ¬ (p : Int) = l.length := c2
    revert hA hR hpB hnB
    generalize (l.take p).map eA = B
    generalize (l.drop p).map eA = C
    intro hA hR hpB hnB
    subst hpB
    have q1 : ((l.length : Int) + ((1 : Nat) : Int) - (B.length : Int)).toNat = C.length + 1 := by omega
    have q2 : ((B.length : Int) + ((1 : Nat) : Int)).toNat = B.length + 1 := by omega
    have key := fun z => ins_grow B C (eA x) z
    refine ⟨[1858], [(0, 0), (1, 1)], VLe.frzR (by simp) rfl (by decide) ?_ ?_, HpLe.dd (HpLe.dd trivial), by decide, by simp, fun i hi => by match i, hi with | 0, _ => rfl | 1, _ => rfl⟩
    · simp only [Int.toNat_natCast, Int.reduceToNat, Nat.sub_zero, Nat.zero_add, Nat.add_zero, List.drop_zero, q1, q2]
      rw [hA, hnB]
      have := congrArg List.length (key (elemZ (isAggD ((fun x => x.desc) Try.prog.types[24-1])) []))
      simp [List.length_append] at this ⊢
      omega
    · show PV.sl 7 false _ = PV.sl 7 false _
      congr 1
      simp only [Int.toNat_natCast, Int.reduceToNat, Nat.sub_zero, Nat.zero_add, Nat.add_zero, List.drop_zero, q1, q2]
      rw [hR, hA, hnB]
      exact key _
  · rename_i c1 c2
    have c2 : ¬ (p : Int) = l.length := c2
    revert hA hR hpB hnB
    generalize (l.take p).map eA = B
    generalize (l.drop p).map eA = C
    intro hA hR hpB hnB
    subst hpB
    have q1 : ((l.length : Int) + ((1 : Nat) : Int)).toNat = B.length + C.length + 1 := by omega
    have q2 : ((B.length : Int) + ((1 : Nat) : Int)).toNat = B.length + 1 := by omega
    refine ⟨[0], [(0, 0), (1, 1)], VLe.frzC (by simp) rfl (by decide) ?_ ?_, HpLe.dd (HpLe.dd trivial), by decide, by simp, fun i hi => by match i, hi with | 0, _ => rfl | 1, _ => rfl⟩
    · simp only [Int.toNat_natCast, Int.reduceToNat, Nat.sub_zero, Nat.zero_add, Nat.add_zero, List.drop_zero, q1, q2]
      rw [hA]
      simp [List.length_append]
      omega
    · show PV.sl 7 false _ = PV.sl 7 false _
      congr 1
      simp only [Int.toNat_natCast, Int.reduceToNat, Nat.sub_zero, Nat.zero_add, Nat.add_zero, List.drop_zero, q1, q2]
      rw [hR, hA]
      exact ins_place B C (eA x)
end Go.Proofs.Ythlpjjnfcpjgoaa

namespace Go.Proofs.Ythlpjjnfcpjgoaa
open Go Go.Sg
set_option maxRecDepth 100000
set_option maxHeartbeats 4000000
def addA (l : List It) (x : It) : List It × Int := addL rightA It.no 4096 290 l x
def eR (x : List It × Int) : PV := .tup [eL x.1, eI x.2]
theorem chkA_srt {l : List It} (h : chkA l = 0) : l.length ≤ 4096 ∧ (∀ x ∈ l, rightA x = true) ∧ l.Pairwise (fun a b => It.no a < It.no b) := by
  obtain ⟨h1, h2⟩ := chkL_zero rightA It.no (by decide) h
  rw [okFrom_iff] at h2
  exact ⟨by omega, fun x hx => (h2.1 x hx).1, h2.2⟩
theorem addA_ok {l : List It} {x : It} (hz : chkA l = 0) : addA l x = (if rightA x then (if hasN It.no (It.no x) l then ([], 151) else if (l.length : Int) = 4096 then ([], 2) else (insN It.no l x, 0)) else ([], 290)) := by
  show (if chkA l = 0 then _ else _) = _
  rw [if_pos hz]
theorem addA_no {l : List It} {x : It} (hz : ¬ chkA l = 0) : addA l x = ([], chkA l) := by
  show (if chkA l = 0 then _ else _) = _
  rw [if_neg hz]; rfl
theorem add_calls (l : List It) (x : It) (hl : l.length < 1000000) : PCalls Try.prog 11 [eL l, eA x] (eR (addA l x)) := by
  have q1 := check_calls l hl
  by_cases hz : chkA l = 0
  · rw [hz] at q1
    obtain ⟨h96, _, hs⟩ := chkA_srt hz
    have q2 := bs_calls 26 (eI x.no) (It.no x) (fun y => add1_calls y x.no) (by kernel_rfl) l hl hs
    have hp := posN_le It.no (It.no x) l
    rw [addA_ok hz]
    rcases List.eq_nil_or_concat l with h0 | h0
    · subst h0
      have e2 : hasN It.no (It.no x) ([] : List It) = false := rfl
      refine PCalls.of (N := 37) (res := [.tmp 4, .tmp 5]) mixed Try.func11 rfl rfl rfl (by kernel_rfl) (by simp) [0, 1, 3, 4, 5, 6, 7, 8, 12, 21, 25, 27] ?_
      repeat' (first | exact cl1 | ((with_reducible show Exists _); first | exact exHM _ | refine exU8 ?_) | ((with_reducible show callX _ _ _ _ _); (first | refine call_p (q1) (by kernel_rfl) rfl ?_ | refine call_p (q2) (by kernel_rfl) rfl ?_ | refine call_p (right_calls _) (by kernel_rfl) rfl ?_ | refine call_i [] (clone0_icalls) (by kernel_rfl) rfl rfl (by simp) (by simp) (by simp) (fun _ _ => rfl) (by simp) (by simp [keys]) ?_ | (refine call_z (insert0_calls x) (by kernel_rfl) rfl ?_; (repeat' (first | exact PV.leL_nil | refine PV.leL_cons ?_ ?_ | refine And.intro ?_ ?_ | exact Nat.zero_lt_succ _ | exact Nat.le_of_ble_eq_true rfl | exact PV.le_refl _ | exact PV.le_nil _ _ _ | exact PV.le_clip _ _ _ | refine PV.le_agg ?_ | refine PV.le_tup ?_ | rfl)); fail_if_success (any_goals (refine PV.le_of ?_))))) | ((fail_if_success with_reducible first | show LeG _ _ | show Lp _ _ _ _ | show Exists _ | show callX _ _ _ _ _ | show (_ : Int) ≤ _ | show (_ : Int) < _ | show (_ : Nat) ≤ _ | show (_ : Nat) < _); (conv => whnf) <;> (first | exact cl2 | refine XAlt.l ?_ | refine Sq.pr ?_ | refine Br.dec (fun hc => ?_) (fun hc => ?_) | refine Br.tt ?_ | refine Br.ff ?_ | refine Br.not ?_ | refine Br.mk (fun hc => ?_) (fun hc => ?_) | refine Opt.nn ?_ | refine Opt.ss ?_ | refine AltA.l ?_ | exact PV.leL_nil | refine PV.leL_cons ?_ ?_ | refine And.intro ?_ ?_ | refine ix_map (fun x hx => ?_) | refine exU8 ?_ | refine nilc (fun hn => ?_) ?_ | exact cl3 | refine imp0 (fun hpos => ?_) | refine fits_i64 ?_ ?_ | exact rfl | exact trivial | (with_reducible first | show LeG _ _ | show Lp _ _ _ _ | show Exists _ | show callX _ _ _ _ _)))) <;> (try exact cl5)
      all_goals first
      | (rename_i h1; rw [if_pos h1, e2, if_neg (by simp), if_neg (by decide)]; exact LeG.refl _)
      | (rw [if_neg (by rw [hc]; simp)]; exact LeG.mk (PV.le_tup (PV.leL_cons (PV.le_nil _ _ _) (PV.leL_cons (PV.le_refl _) PV.leL_nil))))
      | (exfalso; simp at hc)
    · have hpos : 0 < l.length := by obtain ⟨a, b, rfl⟩ := h0; simp
      refine PCalls.of (N := 37) (res := [.tmp 4, .tmp 5]) mixed Try.func11 rfl rfl rfl (by kernel_rfl) (by simp) [0, 1, 3, 4, 5, 6, 7, 8, 12, 21, 25, 27] ?_
      repeat' (first | exact cl1 | ((with_reducible show Exists _); first | exact exHM _ | refine exU8 ?_) | ((with_reducible show callX _ _ _ _ _); (first | refine call_p (q1) (by kernel_rfl) rfl ?_ | refine call_p (q2) (by kernel_rfl) rfl ?_ | refine call_p (right_calls _) (by kernel_rfl) rfl ?_ | refine call_i [] (clone_icalls l hl hpos) (by kernel_rfl) rfl rfl (by simp) (by simp) (by simp) (fun _ _ => rfl) (by simp) (by simp [keys]) ?_ | refine call_i [1792, 1984] (insert_icalls l x _ hp hl) (by kernel_rfl) rfl rfl (by decide) cl6 (fun i hi => by match i, hi with | 0, _ => rfl | 1, _ => rfl) cl7 cl8 (by simp [keys]) ?_)) | ((fail_if_success with_reducible first | show LeG _ _ | show Lp _ _ _ _ | show Exists _ | show callX _ _ _ _ _ | show (_ : Int) ≤ _ | show (_ : Int) < _ | show (_ : Nat) ≤ _ | show (_ : Nat) < _); (conv => whnf) <;> (first | exact cl2 | refine XAlt.l ?_ | refine Sq.pr ?_ | refine Br.dec (fun hc => ?_) (fun hc => ?_) | refine Br.tt ?_ | refine Br.ff ?_ | refine Br.not ?_ | refine Br.mk (fun hc => ?_) (fun hc => ?_) | refine Opt.nn ?_ | refine Opt.ss ?_ | refine AltA.l ?_ | exact PV.leL_nil | refine PV.leL_cons ?_ ?_ | refine And.intro ?_ ?_ | refine ix_map (fun x hx => ?_) | refine exU8 ?_ | refine nilc (fun hn => ?_) ?_ | exact cl3 | refine imp0 (fun hpos => ?_) | refine fits_i64 ?_ ?_ | exact rfl | exact trivial | (with_reducible first | show LeG _ _ | show Lp _ _ _ _ | show Exists _ | show callX _ _ _ _ _)))) <;> (try exact cl5)
      all_goals first
      | (rw [if_neg (by rw [hc]; simp)]; exact LeG.mk (PV.le_tup (PV.leL_cons (PV.le_nil _ _ _) (PV.leL_refl _))))
      | (rename_i h1; rw [if_pos h1, if_pos hc]; exact LeG.mk (PV.le_tup (PV.leL_cons (PV.le_nil _ _ _) (PV.leL_refl _))))
      | (rename_i h1 h2; rw [if_pos h1, if_neg (by rw [h2]; simp), if_pos (by simpa using hc)]; exact LeG.mk (PV.le_tup (PV.leL_cons (PV.le_nil _ _ _) (PV.leL_refl _))))
      | (rename_i h1 h2; rw [if_pos h1, if_neg (by rw [h2]; simp), if_neg (by simpa using hc)]; exact LeG.refl _)
  · rw [addA_no hz]
    refine PCalls.of (N := 37) (res := [.tmp 4, .tmp 5]) mixed Try.func11 rfl rfl rfl (by kernel_rfl) (by simp) [0, 1, 3, 4, 5, 6, 7, 8, 12, 21, 25, 27] ?_
    repeat' (first | exact cl1 | ((with_reducible show Exists _); first | exact exHM _ | refine exU8 ?_) | ((with_reducible show callX _ _ _ _ _); (first | refine call_p (q1) (by kernel_rfl) rfl ?_)) | ((fail_if_success with_reducible first | show LeG _ _ | show Lp _ _ _ _ | show Exists _ | show callX _ _ _ _ _ | show (_ : Int) ≤ _ | show (_ : Int) < _ | show (_ : Nat) ≤ _ | show (_ : Nat) < _); (conv => whnf) <;> (first | exact cl2 | refine XAlt.l ?_ | refine Sq.pr ?_ | refine Br.dec (fun hc => ?_) (fun hc => ?_) | refine Br.tt ?_ | refine Br.ff ?_ | refine Br.not ?_ | refine Br.mk (fun hc => ?_) (fun hc => ?_) | refine Opt.nn ?_ | refine Opt.ss ?_ | refine AltA.l ?_ | exact PV.leL_nil | refine PV.leL_cons ?_ ?_ | refine And.intro ?_ ?_ | refine ix_map (fun x hx => ?_) | refine exU8 ?_ | refine nilc (fun hn => ?_) ?_ | exact cl3 | refine imp0 (fun hpos => ?_) | refine fits_i64 ?_ ?_ | exact rfl | exact trivial | (with_reducible first | show LeG _ _ | show Lp _ _ _ _ | show Exists _ | show callX _ _ _ _ _)))) <;> (try exact cl5)
    · ((all_goals (try simp only [*, ↓reduceIte, Bool.false_eq_true, Bool.not_true, Bool.not_false, Bool.and_true, Bool.true_and, Bool.and_false, Bool.false_and, List.nil_append, List.drop_zero, Nat.zero_add, List.take_length, Int.toNat_natCast, Int.toNat_zero, List.append_nil]))); ((all_goals (try refine LeG.mk ?_)); (repeat' (first | exact PV.le_refl _ | exact PV.le_nil _ _ _ | exact PV.le_clip _ _ _ | exact PV.le_nilF _ _ _ | refine PV.le_agg ?_ | refine PV.le_tup ?_ | exact PV.leL_nil | refine PV.leL_cons ?_ ?_ | refine PV.le_of ?_ | rfl)))
end Go.Proofs.Ythlpjjnfcpjgoaa

namespace Go.Proofs.Ythlpjjnfcpjgoaa
open Go Go.Sg
set_option maxRecDepth 100000
set_option maxHeartbeats 20000000
/-! ### The reference: what stands -/
theorem rcounts_calls (x : It) (t k : Int) : PCalls Try.prog 42 [eA x, eI t, eI k] (.bool (cntA t k x)) := by
  refine PCalls.of (N := 17) (res := [.tmp 6]) mixed Try.func42 rfl rfl rfl (by kernel_rfl) (by simp) [0, 1, 2, 3, 6] ?_
  repeat' (first | exact cl1 | ((with_reducible show Exists _); first | exact exHM _ | refine exU8 ?_) | ((fail_if_success with_reducible first | show LeG _ _ | show Lp _ _ _ _ | show Exists _ | show callX _ _ _ _ _ | show (_ : Int) ≤ _ | show (_ : Int) < _ | show (_ : Nat) ≤ _ | show (_ : Nat) < _); (conv => whnf) <;> (first | exact cl2 | refine XAlt.l ?_ | refine Sq.pr ?_ | refine Br.dec (fun hc => ?_) (fun hc => ?_) | refine Br.tt ?_ | refine Br.ff ?_ | refine Br.not ?_ | refine Br.mk (fun hc => ?_) (fun hc => ?_) | refine Opt.nn ?_ | refine Opt.ss ?_ | refine AltA.l ?_ | exact PV.leL_nil | refine PV.leL_cons ?_ ?_ | refine And.intro ?_ ?_ | refine ix_map (fun x hx => ?_) | refine exU8 ?_ | refine nilc (fun hn => ?_) ?_ | exact cl3 | refine imp0 (fun hpos => ?_) | refine fits_i64 ?_ ?_ | exact rfl | exact trivial | (with_reducible first | show LeG _ _ | show Lp _ _ _ _ | show Exists _ | show callX _ _ _ _ _)))) <;> (try exact cl5)
  ((all_goals (try simp only [cntA, *, ↓reduceIte, Bool.false_eq_true, Bool.not_true, Bool.not_false, Bool.and_true, Bool.true_and, Bool.and_false, Bool.false_and, List.nil_append, List.drop_zero, Nat.zero_add, List.take_length, Int.toNat_natCast, Int.toNat_zero, List.append_nil]))); ((all_goals (try refine LeG.mk ?_)); (repeat' (first | exact PV.le_refl _ | exact PV.le_nil _ _ _ | exact PV.le_clip _ _ _ | exact PV.le_nilF _ _ _ | refine PV.le_agg ?_ | refine PV.le_tup ?_ | exact PV.leL_nil | refine PV.leL_cons ?_ ?_ | refine PV.le_of ?_ | rfl)))
def abtB (x y : It) : Bool := decide (x.person = y.person) && decide (x.party = y.party) && (x.of_ == y.of_)
theorem rabout_calls (x y : It) : PCalls Try.prog 24 [eA x, eA y] (.bool (abtB x y)) := by
  refine PCalls.of (N := 24) (res := [.tmp 4]) mixed Try.func24 rfl rfl rfl (by kernel_rfl) (by simp) [0, 1, 2, 3, 4] ?_
  repeat' (first | exact cl1 | ((with_reducible show Exists _); first | exact exHM _ | refine exU8 ?_) | ((fail_if_success with_reducible first | show LeG _ _ | show Lp _ _ _ _ | show Exists _ | show callX _ _ _ _ _ | show (_ : Int) ≤ _ | show (_ : Int) < _ | show (_ : Nat) ≤ _ | show (_ : Nat) < _); (conv => whnf) <;> (first | exact cl2 | refine XAlt.l ?_ | refine Sq.pr ?_ | refine Br.dec (fun hc => ?_) (fun hc => ?_) | refine Br.tt ?_ | refine Br.ff ?_ | refine Br.not ?_ | refine Br.mk (fun hc => ?_) (fun hc => ?_) | refine Opt.nn ?_ | refine Opt.ss ?_ | refine AltA.l ?_ | exact PV.leL_nil | refine PV.leL_cons ?_ ?_ | refine And.intro ?_ ?_ | refine ix_map (fun x hx => ?_) | refine exU8 ?_ | refine nilc (fun hn => ?_) ?_ | exact cl3 | refine imp0 (fun hpos => ?_) | refine fits_i64 ?_ ?_ | exact rfl | exact trivial | (with_reducible first | show LeG _ _ | show Lp _ _ _ _ | show Exists _ | show callX _ _ _ _ _)))) <;> (try exact cl5)
  all_goals (refine LeG.bool ?_; simp_all [abtB])
def badB (t k : Int) (y z : It) : Bool := abtB z y && cntA t k z && (decide (y.tm < z.tm) || decide (z.tm = y.tm) && decide (y.no < z.no))
def stR (t k : Int) (l : List It) (y : It) : Bool := (!y.gone && cntA t k y) && !l.any (badB t k y)
theorem any_take {α : Type} {p : α → Bool} {l : List α} {i : Nat} {x : α} (h : l[i]? = some x) : (l.take (i + 1)).any p = ((l.take i).any p || p x) := by
  rw [List.take_add_one, h]; simp [List.any_append]
theorem stands_calls (l : List It) (y : It) (t k : Int) (hl : l.length < 1000000) : PCalls Try.prog 23 [eL l, eA y, eI t, eI k] (.bool (stR t k l y)) := by
  cases hb0 : (!y.gone && cntA t k y) with
  | false =>
    have hst : stR t k l y = false := by unfold stR; rw [hb0]; rfl
    rw [hst]
    cases hg : y.gone with
    | true =>
      refine PCalls.of (N := 70) (res := [.tmp 8]) mixed Try.func23 rfl rfl rfl (by kernel_rfl) (by simp) [0, 1, 2, 3, 5, 8, 9, 18, 22, 69] ?_
      repeat' (first | exact cl1 | ((with_reducible show Exists _); first | exact exHM _ | refine exU8 ?_) | ((with_reducible show callX _ _ _ _ _); (first | refine call_p (rcounts_calls _ _ _) (by kernel_rfl) rfl ?_)) | ((fail_if_success with_reducible first | show LeG _ _ | show Lp _ _ _ _ | show Exists _ | show callX _ _ _ _ _ | show (_ : Int) ≤ _ | show (_ : Int) < _ | show (_ : Nat) ≤ _ | show (_ : Nat) < _); (conv => whnf) <;> (first | exact cl2 | refine XAlt.l ?_ | refine Sq.pr ?_ | refine Br.dec (fun hc => ?_) (fun hc => ?_) | refine Br.tt ?_ | refine Br.ff ?_ | refine Br.not ?_ | refine Br.mk (fun hc => ?_) (fun hc => ?_) | refine Opt.nn ?_ | refine Opt.ss ?_ | refine AltA.l ?_ | exact PV.leL_nil | refine PV.leL_cons ?_ ?_ | refine And.intro ?_ ?_ | refine ix_map (fun x hx => ?_) | refine exU8 ?_ | refine nilc (fun hn => ?_) ?_ | exact cl3 | refine imp0 (fun hpos => ?_) | refine fits_i64 ?_ ?_ | exact rfl | exact trivial | (with_reducible first | show LeG _ _ | show Lp _ _ _ _ | show Exists _ | show callX _ _ _ _ _)))) <;> (try exact cl5)
      all_goals first
      | (refine LeG.bool ?_; rfl)
      | (exfalso; simp_all; done)
      | trace_state
    | false =>
      rw [hg] at hb0
      have hcf : cntA t k y = false := by simpa using hb0
      have q := rcounts_calls y t k
      rw [hcf] at q
      refine PCalls.of (N := 70) (res := [.tmp 8]) mixed Try.func23 rfl rfl rfl (by kernel_rfl) (by simp) [0, 1, 2, 3, 5, 8, 9, 18, 22, 69] ?_
      repeat' (first | exact cl1 | ((with_reducible show Exists _); first | exact exHM _ | refine exU8 ?_) | ((with_reducible show callX _ _ _ _ _); (first | refine call_p (q) (by kernel_rfl) rfl ?_)) | ((fail_if_success with_reducible first | show LeG _ _ | show Lp _ _ _ _ | show Exists _ | show callX _ _ _ _ _ | show (_ : Int) ≤ _ | show (_ : Int) < _ | show (_ : Nat) ≤ _ | show (_ : Nat) < _); (conv => whnf) <;> (first | exact cl2 | refine XAlt.l ?_ | refine Sq.pr ?_ | refine Br.dec (fun hc => ?_) (fun hc => ?_) | refine Br.tt ?_ | refine Br.ff ?_ | refine Br.not ?_ | refine Br.mk (fun hc => ?_) (fun hc => ?_) | refine Opt.nn ?_ | refine Opt.ss ?_ | refine AltA.l ?_ | exact PV.leL_nil | refine PV.leL_cons ?_ ?_ | refine And.intro ?_ ?_ | refine ix_map (fun x hx => ?_) | refine exU8 ?_ | refine nilc (fun hn => ?_) ?_ | exact cl3 | refine imp0 (fun hpos => ?_) | refine fits_i64 ?_ ?_ | exact rfl | exact trivial | (with_reducible first | show LeG _ _ | show Lp _ _ _ _ | show Exists _ | show callX _ _ _ _ _)))) <;> (try exact cl5)
      all_goals first
      | (refine LeG.bool ?_; rfl)
      | (exfalso; simp_all; done)
      | trace_state
  | true =>
    simp only [Bool.and_eq_true, Bool.not_eq_true'] at hb0
    obtain ⟨hg, hct⟩ := hb0
    have q := rcounts_calls y t k
    rw [hct] at q
    refine PCalls.of (N := 70) (res := [.tmp 8]) mixed Try.func23 rfl rfl rfl (by kernel_rfl) (by simp) [0, 1, 2, 3, 5, 8, 9, 18, 22, 69] ?_
    repeat' (first | exact cl1 | ((with_reducible show Exists _); first | exact exHM _ | refine exU8 ?_) | ((with_reducible show callX _ _ _ _ _); (first | refine call_p (q) (by kernel_rfl) rfl ?_)) | ((fail_if_success with_reducible first | show LeG _ _ | show Lp _ _ _ _ | show Exists _ | show callX _ _ _ _ _ | show (_ : Int) ≤ _ | show (_ : Int) < _ | show (_ : Nat) ≤ _ | show (_ : Nat) < _); (conv => whnf) <;> (first | exact cl2 | refine Br.dec (fun hc => ?_) (fun hc => ?_) | refine XAlt.l ?_ | refine Sq.pr ?_ | refine Br.dec (fun hc => ?_) (fun hc => ?_) | refine Br.tt ?_ | refine Br.ff ?_ | refine Br.not ?_ | refine Br.mk (fun hc => ?_) (fun hc => ?_) | refine Opt.nn ?_ | refine Opt.ss ?_ | refine AltA.l ?_ | exact PV.leL_nil | refine PV.leL_cons ?_ ?_ | refine And.intro ?_ ?_ | refine ix_map (fun x hx => ?_) | refine exU8 ?_ | refine nilc (fun hn => ?_) ?_ | exact cl3 | refine imp0 (fun hpos => ?_) | refine fits_i64 ?_ ?_ | exact rfl | exact trivial | (with_reducible first | show LeG _ _ | show Lp _ _ _ _ | show Exists _ | show callX _ _ _ _ _)))) <;> (try exact cl5)
    all_goals first
    | (exfalso; simp_all; done)
    | skip
    refine Wpc.loopB (α := {i : Nat // i ≤ l.length ∧ (l.take i).any (badB t k y) = false}) mixed [0, 1, 2, 3, 5, 8, 9, 18, 22, 69] (fun i => [(9, .p (eI i.1))]) (fun i => l.length - i.1) ⟨0, by omega, by simp⟩ ?_ ?_
    · (first | refine Ent.ofA [] ?_ | refine Ent.ofC [] ?_) <;> (repeat' (first | exact trivial | refine HpLe.dd ?_ | refine HpLe.mk rfl (by simp) rfl (fun h => AObj.noConfusion h) ?_ ?_ | refine And.intro ?_ ?_ | exact cl9 | refine VLe.pe ?_ | refine VLe.agg ?_ | refine VLe.tup ?_ | refine VLe.fn ?_ ?_ | refine VLeL.cons ?_ ?_ | exact VLeL.nil | exact OLe.row _ _ | rfl | refine VLe.rsle rfl ?_ ?_ ?_ | refine OLe.rowe2 ?_ ?_ | refine OLe.mape ?_ ?_ | refine OLe.iter0 ?_ | refine OLe.itere ?_ ?_ | refine OLe.chane ?_ ?_ | refine OLe.mapSe ?_ ?_ ?_ | exact OLe.mapS0 rfl)) <;> try (first | (simp; done) | (congr 1; omega) | (congr 1; (first | (simp; done) | (simp; omega))))
    rintro ⟨i, hi, hbn⟩
    have hi : i ≤ l.length := hi
    have hbn : (l.take i).any (badB t k y) = false := hbn
    cases hxi : l[i]? with
    | none =>
      have hge : l.length ≤ i := List.getElem?_eq_none_iff.1 hxi
      have hno : ¬ ((i : Int) < ((l.map eA).length : Int)) := by rw [List.length_map]; omega
      repeat' (first | exact cl1 | ((with_reducible show Exists _); first | exact exHM _ | refine exU8 ?_) | ((fail_if_success with_reducible first | show LeG _ _ | show Lp _ _ _ _ | show Exists _ | show callX _ _ _ _ _ | show (_ : Int) ≤ _ | show (_ : Int) < _ | show (_ : Nat) ≤ _ | show (_ : Nat) < _); (conv => whnf) <;> (first | exact cl2 | refine Br.dec (fun hc => absurd hc hno) (fun hc => ?_) | refine XAlt.l ?_ | refine Sq.pr ?_ | refine Br.dec (fun hc => ?_) (fun hc => ?_) | refine Br.tt ?_ | refine Br.ff ?_ | refine Br.not ?_ | refine Br.mk (fun hc => ?_) (fun hc => ?_) | refine Opt.nn ?_ | refine Opt.ss ?_ | refine AltA.l ?_ | exact PV.leL_nil | refine PV.leL_cons ?_ ?_ | refine And.intro ?_ ?_ | refine ix_map (fun x hx => ?_) | refine exU8 ?_ | refine nilc (fun hn => ?_) ?_ | exact cl3 | refine imp0 (fun hpos => ?_) | refine fits_i64 ?_ ?_ | exact rfl | exact trivial | (with_reducible first | show LeG _ _ | show Lp _ _ _ _ | show Exists _ | show callX _ _ _ _ _)))) <;> (try exact cl5)
      refine LeG.bool ?_
      unfold stR
      rw [List.take_of_length_le hge] at hbn
      rw [hg, hct, hbn]; rfl
    | some z =>
      have hlt : i < l.length := (List.getElem?_eq_some_iff.1 hxi).1
      have hyes : ((i : Int) < ((l.map eA).length : Int)) := by rw [List.length_map]; omega
      have hat := any_take (p := badB t k y) hxi
      rw [hbn, Bool.false_or] at hat
      cases hbz : badB t k y z with
      | false =>
        rw [hbz] at hat
        repeat' (first | exact cl1 | ((with_reducible show Exists _); first | exact exHM _ | refine exU8 ?_) | ((with_reducible show callX _ _ _ _ _); (first | refine call_p (rcounts_calls _ _ _) (by kernel_rfl) rfl ?_ | refine call_p (rabout_calls _ _) (by kernel_rfl) rfl ?_)) | ((fail_if_success with_reducible first | show LeG _ _ | show Lp _ _ _ _ | show Exists _ | show callX _ _ _ _ _ | show (_ : Int) ≤ _ | show (_ : Int) < _ | show (_ : Nat) ≤ _ | show (_ : Nat) < _); (conv => whnf) <;> (first | exact cl2 | refine Br.dec (fun hc => ?_) (fun hc => absurd hyes hc) | refine ix_at hxi ?_ | refine XAlt.l ?_ | refine Sq.pr ?_ | refine Br.dec (fun hc => ?_) (fun hc => ?_) | refine Br.tt ?_ | refine Br.ff ?_ | refine Br.not ?_ | refine Br.mk (fun hc => ?_) (fun hc => ?_) | refine Opt.nn ?_ | refine Opt.ss ?_ | refine AltA.l ?_ | exact PV.leL_nil | refine PV.leL_cons ?_ ?_ | refine And.intro ?_ ?_ | refine ix_map (fun x hx => ?_) | refine exU8 ?_ | refine nilc (fun hn => ?_) ?_ | exact cl3 | refine imp0 (fun hpos => ?_) | refine fits_i64 ?_ ?_ | exact rfl | exact trivial | (with_reducible first | show LeG _ _ | show Lp _ _ _ _ | show Exists _ | show callX _ _ _ _ _)))) <;> (try exact cl5)
        all_goals first
        | (refine ⟨⟨i + 1, hlt, hat⟩, by show l.length - (i + 1) < l.length - i; omega, ?_⟩
           (first | refine Ent.ofA [] ?_ | refine Ent.ofC [] ?_) <;> (repeat' (first | exact trivial | refine HpLe.dd ?_ | refine HpLe.mk rfl (by simp) rfl (fun h => AObj.noConfusion h) ?_ ?_ | refine And.intro ?_ ?_ | exact cl9 | refine VLe.pe ?_ | refine VLe.agg ?_ | refine VLe.tup ?_ | refine VLe.fn ?_ ?_ | refine VLeL.cons ?_ ?_ | exact VLeL.nil | exact OLe.row _ _ | rfl | refine VLe.rsle rfl ?_ ?_ ?_ | refine OLe.rowe2 ?_ ?_ | refine OLe.mape ?_ ?_ | refine OLe.iter0 ?_ | refine OLe.itere ?_ ?_ | refine OLe.chane ?_ ?_ | refine OLe.mapSe ?_ ?_ ?_ | exact OLe.mapS0 rfl)) <;> try (first | (simp; done) | (congr 1; omega) | (congr 1; (first | (simp; done) | (simp; omega))))
           done)
        | (exfalso
           unfold badB at hbz
           simp_all
           done)
        | trace_state
      | true =>
        have hst : stR t k l y = false := by
          unfold stR
          rw [show l.any (badB t k y) = true from List.any_eq_true.2 ⟨z, List.mem_of_getElem? hxi, hbz⟩]; simp
        rw [hst]
        repeat' (first | exact cl1 | ((with_reducible show Exists _); first | exact exHM _ | refine exU8 ?_) | ((with_reducible show callX _ _ _ _ _); (first | refine call_p (rcounts_calls _ _ _) (by kernel_rfl) rfl ?_ | refine call_p (rabout_calls _ _) (by kernel_rfl) rfl ?_)) | ((fail_if_success with_reducible first | show LeG _ _ | show Lp _ _ _ _ | show Exists _ | show callX _ _ _ _ _ | show (_ : Int) ≤ _ | show (_ : Int) < _ | show (_ : Nat) ≤ _ | show (_ : Nat) < _); (conv => whnf) <;> (first | exact cl2 | refine Br.dec (fun hc => ?_) (fun hc => absurd hyes hc) | refine ix_at hxi ?_ | refine XAlt.l ?_ | refine Sq.pr ?_ | refine Br.dec (fun hc => ?_) (fun hc => ?_) | refine Br.tt ?_ | refine Br.ff ?_ | refine Br.not ?_ | refine Br.mk (fun hc => ?_) (fun hc => ?_) | refine Opt.nn ?_ | refine Opt.ss ?_ | refine AltA.l ?_ | exact PV.leL_nil | refine PV.leL_cons ?_ ?_ | refine And.intro ?_ ?_ | refine ix_map (fun x hx => ?_) | refine exU8 ?_ | refine nilc (fun hn => ?_) ?_ | exact cl3 | refine imp0 (fun hpos => ?_) | refine fits_i64 ?_ ?_ | exact rfl | exact trivial | (with_reducible first | show LeG _ _ | show Lp _ _ _ _ | show Exists _ | show callX _ _ _ _ _)))) <;> (try exact cl5)
        all_goals first
        | exact LeG.refl _
        | (exfalso
           unfold badB at hbz
           simp_all
           done)
        | trace_state
theorem rstanding_calls (l : List It) (t k : Int) (hl : l.length < 1000000) : PCalls Try.prog 38 [eL l, eI t, eI k] (eL (l.filter (stR t k l))) := by
  have hst := fun y => stands_calls l y t k hl
  generalize stR t k l = p at *
  refine PCalls.of (N := 32) (res := [.tmp 6]) mixed Try.func38 rfl rfl rfl (by kernel_rfl) (by simp) [0, 1, 2, 6, 7, 8, 13, 23] ?_
  repeat' (first | exact cl1 | ((with_reducible show Exists _); first | exact exHM _ | refine exU8 ?_) | ((fail_if_success with_reducible first | show LeG _ _ | show Lp _ _ _ _ | show Exists _ | show callX _ _ _ _ _ | show (_ : Int) ≤ _ | show (_ : Int) < _ | show (_ : Nat) ≤ _ | show (_ : Nat) < _); (conv => whnf) <;> (first | exact cl2 | refine XAlt.l ?_ | refine Sq.pr ?_ | refine Br.dec (fun hc => ?_) (fun hc => ?_) | refine Br.tt ?_ | refine Br.ff ?_ | refine Br.not ?_ | refine Br.mk (fun hc => ?_) (fun hc => ?_) | refine Opt.nn ?_ | refine Opt.ss ?_ | refine AltA.l ?_ | exact PV.leL_nil | refine PV.leL_cons ?_ ?_ | refine And.intro ?_ ?_ | refine ix_map (fun x hx => ?_) | refine exU8 ?_ | refine nilc (fun hn => ?_) ?_ | exact cl3 | refine imp0 (fun hpos => ?_) | refine fits_i64 ?_ ?_ | exact rfl | exact trivial | (with_reducible first | show LeG _ _ | show Lp _ _ _ _ | show Exists _ | show callX _ _ _ _ _)))) <;> (try exact cl5)
  refine Wpc.loopA (α := {i : Nat // i ≤ l.length}) mixed [0, 1, 2, 6, 7, 8, 13, 23] (fun i => [(7, .rsl 64 7 0 ((l.take i.1).filter p).length), (8, .p (eI i.1))]) (fun i => [(64, .row 7 (((l.take i.1).filter p).map eA))]) (fun _ => 0) (fun i => l.length - i.1) ⟨0, by omega⟩ ?_ ?_
  · (first | refine Ent.ofA [] ?_ | refine Ent.ofC [] ?_) <;> (repeat' (first | exact trivial | refine HpLe.dd ?_ | refine HpLe.mk rfl (by simp) rfl (fun h => AObj.noConfusion h) ?_ ?_ | refine And.intro ?_ ?_ | exact cl9 | refine VLe.pe ?_ | refine VLe.agg ?_ | refine VLe.tup ?_ | refine VLe.fn ?_ ?_ | refine VLeL.cons ?_ ?_ | exact VLeL.nil | exact OLe.row _ _ | rfl | refine VLe.rsle rfl ?_ ?_ ?_ | refine OLe.rowe2 ?_ ?_ | refine OLe.mape ?_ ?_ | refine OLe.iter0 ?_ | refine OLe.itere ?_ ?_ | refine OLe.chane ?_ ?_ | refine OLe.mapSe ?_ ?_ ?_ | exact OLe.mapS0 rfl)) <;> try (first | (simp; done) | (congr 1; omega) | (congr 1; (first | (simp; done) | (simp; omega))))
  rintro ⟨i, hi⟩
  have hi : i ≤ l.length := hi
  have hfl := List.length_filter_le p (l.take i)
  rw [List.length_take] at hfl
  cases hxi : l[i]? with
  | none =>
    have hge : l.length ≤ i := List.getElem?_eq_none_iff.1 hxi
    have hno : ¬ ((i : Int) < ((l.map eA).length : Int)) := by rw [List.length_map]; omega
    repeat' (first | exact cl1 | ((with_reducible show Exists _); first | exact exHM _ | refine exU8 ?_) | ((fail_if_success with_reducible first | show LeG _ _ | show Lp _ _ _ _ | show Exists _ | show callX _ _ _ _ _ | show (_ : Int) ≤ _ | show (_ : Int) < _ | show (_ : Nat) ≤ _ | show (_ : Nat) < _); (conv => whnf) <;> (first | exact cl2 | refine Br.dec (fun hc => absurd hc hno) (fun hc => ?_) | refine XAlt.l ?_ | refine Sq.pr ?_ | refine Br.dec (fun hc => ?_) (fun hc => ?_) | refine Br.tt ?_ | refine Br.ff ?_ | refine Br.not ?_ | refine Br.mk (fun hc => ?_) (fun hc => ?_) | refine Opt.nn ?_ | refine Opt.ss ?_ | refine AltA.l ?_ | exact PV.leL_nil | refine PV.leL_cons ?_ ?_ | refine And.intro ?_ ?_ | refine ix_map (fun x hx => ?_) | refine exU8 ?_ | refine nilc (fun hn => ?_) ?_ | exact cl3 | refine imp0 (fun hpos => ?_) | refine fits_i64 ?_ ?_ | exact rfl | exact trivial | (with_reducible first | show LeG _ _ | show Lp _ _ _ _ | show Exists _ | show callX _ _ _ _ _)))) <;> (try exact cl5)
    refine LeG.of (congrArg (fun q => PV.sl 7 false q) ?_)
    show List.take ((l.take i).filter _).length (List.drop 0 (((l.take i).filter _).map eA)) = (l.filter p).map eA
    rw [List.take_of_length_le (l := l) (by omega), List.drop_zero, List.take_of_length_le (by simp)]
  | some y =>
    have hlt : i < l.length := (List.getElem?_eq_some_iff.1 hxi).1
    have hyes : ((i : Int) < ((l.map eA).length : Int)) := by rw [List.length_map]; omega
    have hft := filter_take p hxi
    repeat' (first | exact cl1 | ((with_reducible show Exists _); first | exact exHM _ | refine exU8 ?_) | ((with_reducible show callX _ _ _ _ _); (first | refine call_p (hst _) (by kernel_rfl) rfl ?_)) | ((fail_if_success with_reducible first | show LeG _ _ | show Lp _ _ _ _ | show Exists _ | show callX _ _ _ _ _ | show (_ : Int) ≤ _ | show (_ : Int) < _ | show (_ : Nat) ≤ _ | show (_ : Nat) < _); (conv => whnf) <;> (first | exact cl2 | refine Br.dec (fun hc => ?_) (fun hc => absurd hyes hc) | refine ix_at hxi ?_ | refine XAlt.l ?_ | refine Sq.pr ?_ | refine Br.dec (fun hc => ?_) (fun hc => ?_) | refine Br.tt ?_ | refine Br.ff ?_ | refine Br.not ?_ | refine Br.mk (fun hc => ?_) (fun hc => ?_) | refine Opt.nn ?_ | refine Opt.ss ?_ | refine AltA.l ?_ | exact PV.leL_nil | refine PV.leL_cons ?_ ?_ | refine And.intro ?_ ?_ | refine ix_map (fun x hx => ?_) | refine exU8 ?_ | refine nilc (fun hn => ?_) ?_ | exact cl3 | refine imp0 (fun hpos => ?_) | refine fits_i64 ?_ ?_ | exact rfl | exact trivial | (with_reducible first | show LeG _ _ | show Lp _ _ _ _ | show Exists _ | show callX _ _ _ _ _)))) <;> (try exact cl5)
    all_goals (
      refine ⟨⟨i + 1, hlt⟩, by show l.length - (i + 1) < l.length - i; omega, ?_⟩
      (first | refine Ent.ofA [] ?_ | refine Ent.ofC [] ?_) <;> (repeat' (first | exact trivial | refine HpLe.dd ?_ | refine HpLe.mk rfl (by simp) rfl (fun h => AObj.noConfusion h) ?_ ?_ | refine And.intro ?_ ?_ | exact cl9 | refine VLe.pe ?_ | refine VLe.agg ?_ | refine VLe.tup ?_ | refine VLe.fn ?_ ?_ | refine VLeL.cons ?_ ?_ | exact VLeL.nil | exact OLe.row _ _ | rfl | refine VLe.rsle rfl ?_ ?_ ?_ | refine OLe.rowe2 ?_ ?_ | refine OLe.mape ?_ ?_ | refine OLe.iter0 ?_ | refine OLe.itere ?_ ?_ | refine OLe.chane ?_ ?_ | refine OLe.mapSe ?_ ?_ ?_ | exact OLe.mapS0 rfl)) <;> try (first | (simp; done) | (congr 1; omega) | (congr 1; (first | (simp; done) | (simp; omega))))
      all_goals first
      | (rw [hft]; simp_all; done)
      | (rw [hft]; simp_all; rfl))
/-! ### That it is what the map says -/
theorem abtB_key (x y : It) : abtB x y = true ↔ keyA x = keyA y := by
  unfold abtB keyA
  simp only [Bool.and_eq_true, decide_eq_true_eq, Prod.mk.injEq, beq_iff_eq, and_assoc]
theorem badB_iff (t k : Int) (y z : It) : badB t k y z = true ↔ cntA t k z = true ∧ keyA z = keyA y ∧ after It.no It.tm z y := by
  unfold badB
  simp only [Bool.and_eq_true, Bool.or_eq_true, decide_eq_true_eq, abtB_key, after]
  constructor
  · rintro ⟨⟨h1, h2⟩, h3⟩; exact ⟨h2, h1, h3⟩
  · rintro ⟨h1, h2, h3⟩; exact ⟨⟨h2, h1⟩, h3⟩
theorem foldM_get (t k : Int) (l : List It) (c : Ky) : ∀ i, aget c (foldM t k (l.take i)) = lastF (cntA t k) keyA It.tm (l.take i) c := by
  intro i
  induction i with
  | zero => rfl
  | succ i ih =>
    cases hx : l[i]? with
    | none => rw [List.take_add_one, hx]; simpa using ih
    | some x =>
      rw [foldM_take hx, lastF_take _ _ _ hx, ← ih]
      unfold updM lstep
      cases hd : cntA t k x with
      | false => simp
      | true =>
      simp only [if_true, true_and]
      by_cases hk : keyA x = c
      · subst hk
        simp only [if_true]
        cases hg : aget (keyA x) (foldM t k (l.take i)) with
        | none => simp [aget_put]
        | some z =>
          simp only
          split
          · simp [aget_put]
          · exact hg
      · simp only [hk, if_false]
        cases hg : aget (keyA x) (foldM t k (l.take i)) with
        | none => simp only [aget_put]; rw [if_neg (fun e => hk e.symm)]
        | some z =>
          simp only
          split
          · rw [aget_put, if_neg (fun e => hk e.symm)]
          · rfl
/-- What stands. -/
def stL (t k : Int) (l : List It) : List It := l.filter (stB (foldM t k l))
theorem stB_eq {l : List It} {t k : Int} (ht : 0 ≤ t) (hk : 0 ≤ k) (hz : chkA l = 0) {x : It} (hx : x ∈ l) : stB (foldM t k l) x = stR t k l x := by
  obtain ⟨_, hr, hs⟩ := chkA_srt hz
  have hself := lastF_self It.no (cntA t k) keyA It.tm hs hx
  have hg := foldM_get t k l (keyA x) l.length
  rw [List.take_length] at hg
  have hany : l.any (badB t k x) = false ↔ ∀ z ∈ l, cntA t k z = true → keyA z = keyA x → ¬ after It.no It.tm z x := by
    rw [List.any_eq_false]
    constructor
    · intro h z hz h1 h2 h3; exact h z hz ((badB_iff t k x z).2 ⟨h1, h2, h3⟩)
    · intro h z hz hb
      obtain ⟨h1, h2, h3⟩ := (badB_iff t k x z).1 hb
      exact h z hz h1 h2 h3
  have hsome : (aget (keyA x) (foldM t k l)).getD zIt = x ↔ aget (keyA x) (foldM t k l) = some x := by
    constructor
    · intro h
      cases ha : aget (keyA x) (foldM t k l) with
      | some z => rw [ha] at h; exact congrArg some h
      | none =>
        rw [ha] at h
        have h : zIt = x := h
        exfalso
        -- x is the zero entry; it counts at every time
        rw [ha] at hg
        rcases lastF_spec It.no (cntA t k) keyA It.tm hs (keyA x) with ⟨_, h2⟩ | ⟨y, h1, _⟩
        · refine h2 x hx ⟨?_, rfl⟩
          rw [← h]
          show (decide ((0 : Int) ≤ t) && decide ((0 : Int) ≤ k)) = true
          rw [decide_eq_true ht, decide_eq_true hk]; rfl
        · rw [h1] at hg; cases hg
    · intro h; rw [h]; rfl
  have e1 : decide ((aget (keyA x) (foldM t k l)).getD zIt = x) = true ↔ (cntA t k x = true ∧ ∀ z ∈ l, cntA t k z = true → keyA z = keyA x → ¬ after It.no It.tm z x) := by
    rw [decide_eq_true_iff]; exact hsome.trans (by rw [hg]; exact hself)
  rw [Bool.eq_iff_iff]
  constructor
  · intro h
    unfold stB at h
    simp only [Bool.and_eq_true, Bool.not_eq_true'] at h
    obtain ⟨h1, h2⟩ := h
    obtain ⟨h3, h4⟩ := e1.1 h2
    unfold stR
    simp only [Bool.and_eq_true, Bool.not_eq_true']
    exact ⟨⟨h1, h3⟩, hany.2 h4⟩
  · intro h
    unfold stR at h
    simp only [Bool.and_eq_true, Bool.not_eq_true'] at h
    obtain ⟨⟨h1, h3⟩, h4⟩ := h
    unfold stB
    simp only [Bool.and_eq_true, Bool.not_eq_true']
    exact ⟨h1, e1.2 ⟨h3, hany.1 h4⟩⟩
theorem stL_eq {l : List It} {t k : Int} (ht : 0 ≤ t) (hk : 0 ≤ k) (hz : chkA l = 0) : l.filter (stR t k l) = stL t k l := List.filter_congr fun _ hx => (stB_eq ht hk hz hx).symm
end Go.Proofs.Ythlpjjnfcpjgoaa

namespace Go.Proofs.Ythlpjjnfcpjgoaa
open Go Go.Sg
set_option maxRecDepth 100000
set_option maxHeartbeats 20000000
theorem sameI_calls (a b : List Int) (hl : a.length < 1000000) : PCalls Try.prog 20 [eIs a, eIs b] (.bool (decide (a = b))) := by
  refine PCalls.of (N := 26) (res := [.tmp 4]) mixed Try.func20 rfl rfl rfl (by kernel_rfl) (by simp) [0, 1, 4, 5, 10, 14, 25] ?_
  repeat' (first | exact cl1 | ((with_reducible show Exists _); first | exact exHM _ | refine exU8 ?_) | ((fail_if_success with_reducible first | show LeG _ _ | show Lp _ _ _ _ | show Exists _ | show callX _ _ _ _ _ | show (_ : Int) ≤ _ | show (_ : Int) < _ | show (_ : Nat) ≤ _ | show (_ : Nat) < _); (conv => whnf) <;> (first | exact cl2 | refine XAlt.l ?_ | refine Sq.pr ?_ | refine Br.dec (fun hc => ?_) (fun hc => ?_) | refine Br.tt ?_ | refine Br.ff ?_ | refine Br.not ?_ | refine Br.mk (fun hc => ?_) (fun hc => ?_) | refine Opt.nn ?_ | refine Opt.ss ?_ | refine AltA.l ?_ | exact PV.leL_nil | refine PV.leL_cons ?_ ?_ | refine And.intro ?_ ?_ | refine ix_map (fun x hx => ?_) | refine exU8 ?_ | refine nilc (fun hn => ?_) ?_ | exact cl3 | refine imp0 (fun hpos => ?_) | refine fits_i64 ?_ ?_ | exact rfl | exact trivial | (with_reducible first | show LeG _ _ | show Lp _ _ _ _ | show Exists _ | show callX _ _ _ _ _)))) <;> (try exact cl5)
  · rw [decide_eq_false (fun e => hc (by rw [e]))]; exact LeG.refl _
  have hab : a.length = b.length := by
    have h : ¬ ((a.map eI).length : Int) ≠ ((b.map eI).length : Int) := by assumption
    simp only [List.length_map] at h; omega
  refine Wpc.loopB (α := {i : Nat // i ≤ a.length ∧ ∀ j, j < i → a[j]? = b[j]?}) mixed [0, 1, 4, 5, 10, 14, 25] (fun i => [(5, .p (eI i.1))]) (fun i => a.length - i.1) ⟨0, by omega, fun j h => absurd h (by omega)⟩ ?_ ?_
  · (first | refine Ent.ofA [] ?_ | refine Ent.ofC [] ?_) <;> (repeat' (first | exact trivial | refine HpLe.dd ?_ | refine HpLe.mk rfl (by simp) rfl (fun h => AObj.noConfusion h) ?_ ?_ | refine And.intro ?_ ?_ | exact cl9 | refine VLe.pe ?_ | refine VLe.agg ?_ | refine VLe.tup ?_ | refine VLe.fn ?_ ?_ | refine VLeL.cons ?_ ?_ | exact VLeL.nil | exact OLe.row _ _ | rfl | refine VLe.rsle rfl ?_ ?_ ?_ | refine OLe.rowe2 ?_ ?_ | refine OLe.mape ?_ ?_ | refine OLe.iter0 ?_ | refine OLe.itere ?_ ?_ | refine OLe.chane ?_ ?_ | refine OLe.mapSe ?_ ?_ ?_ | exact OLe.mapS0 rfl)) <;> try (first | (simp; done) | (congr 1; omega) | (congr 1; (first | (simp; done) | (simp; omega))))
  rintro ⟨i, hi, hq⟩
  have hi : i ≤ a.length := hi
  have hq : ∀ j, j < i → a[j]? = b[j]? := hq
  repeat' (first | exact cl1 | ((with_reducible show Exists _); first | exact exHM _ | refine exU8 ?_) | ((fail_if_success with_reducible first | show LeG _ _ | show Lp _ _ _ _ | show Exists _ | show callX _ _ _ _ _ | show (_ : Int) ≤ _ | show (_ : Int) < _ | show (_ : Nat) ≤ _ | show (_ : Nat) < _); (conv => whnf) <;> (first | exact cl2 | refine XAlt.l ?_ | refine Sq.pr ?_ | refine Br.dec (fun hc => ?_) (fun hc => ?_) | refine Br.tt ?_ | refine Br.ff ?_ | refine Br.not ?_ | refine Br.mk (fun hc => ?_) (fun hc => ?_) | refine Opt.nn ?_ | refine Opt.ss ?_ | refine AltA.l ?_ | exact PV.leL_nil | refine PV.leL_cons ?_ ?_ | refine And.intro ?_ ?_ | refine ix_map (fun x hx => ?_) | refine exU8 ?_ | refine nilc (fun hn => ?_) ?_ | exact cl3 | refine imp0 (fun hpos => ?_) | refine fits_i64 ?_ ?_ | exact rfl | exact trivial | (with_reducible first | show LeG _ _ | show Lp _ _ _ _ | show Exists _ | show callX _ _ _ _ _)))) <;> (try exact cl5)
  · rename_i y hy
    have hx : b[i]? = some x := hx
    have hy : a[i]? = some y := hy
    have hc : y ≠ x := hc
    rw [decide_eq_false (fun e => hc (by rw [e, hx] at hy; injection hy with hy; exact hy.symm))]; exact LeG.refl _
  · rename_i y hy
    have hx : b[i]? = some x := hx
    have hy : a[i]? = some y := hy
    have hlt := (List.getElem?_eq_some_iff.1 hy).1
    have hc : y = x := Classical.not_not.1 hc
    subst hc
    refine ⟨⟨i + 1, hlt, fun j hj => ?_⟩, by show a.length - (i + 1) < a.length - i; omega, ?_⟩
    · rcases Nat.lt_succ_iff_lt_or_eq.1 hj with h1 | h1
      · exact hq j h1
      · rw [h1, hx, hy]
    · (first | refine Ent.ofA [] ?_ | refine Ent.ofC [] ?_) <;> (repeat' (first | exact trivial | refine HpLe.dd ?_ | refine HpLe.mk rfl (by simp) rfl (fun h => AObj.noConfusion h) ?_ ?_ | refine And.intro ?_ ?_ | exact cl9 | refine VLe.pe ?_ | refine VLe.agg ?_ | refine VLe.tup ?_ | refine VLe.fn ?_ ?_ | refine VLeL.cons ?_ ?_ | exact VLeL.nil | exact OLe.row _ _ | rfl | refine VLe.rsle rfl ?_ ?_ ?_ | refine OLe.rowe2 ?_ ?_ | refine OLe.mape ?_ ?_ | refine OLe.iter0 ?_ | refine OLe.itere ?_ ?_ | refine OLe.chane ?_ ?_ | refine OLe.mapSe ?_ ?_ ?_ | exact OLe.mapS0 rfl)) <;> try (first | (simp; done) | (congr 1; omega) | (congr 1; (first | (simp; done) | (simp; omega))))
  · have hc : ¬ (i : Int) < ((a.map eI).length : Int) := hc
    rw [List.length_map] at hc
    rw [decide_eq_true (List.ext_getElem? fun j => by
      rcases Nat.lt_or_ge j i with h1 | h1
      · exact hq j h1
      · rw [List.getElem?_eq_none (by omega), List.getElem?_eq_none (by omega)])]
    exact LeG.refl _
def hasB (l : List Int) (n : Int) : Bool := l.any fun x => decide (x = n)
theorem hasB_yes {l : List Int} {n x : Int} {i : Nat} (h : l[i]? = some x) (e : x = n) : hasB l n = true := List.any_eq_true.2 ⟨x, List.mem_of_getElem? h, decide_eq_true e⟩
theorem hasB_no {l : List Int} {n : Int} (h : ∀ (j : Nat) w, l[j]? = some w → w ≠ n) : hasB l n = false := by
  cases hb : hasB l n with
  | false => rfl
  | true =>
    obtain ⟨x, hx, e⟩ := List.any_eq_true.1 hb
    obtain ⟨j, hj⟩ := List.getElem?_of_mem hx
    exact absurd (of_decide_eq_true e) (h j x hj)
theorem has_calls (l : List Int) (n : Int) (hl : l.length < 1000000) : PCalls Try.prog 40 [eIs l, eI n] (.bool (hasB l n)) := by
  refine PCalls.of (N := 18) (res := [.tmp 4]) mixed Try.func40 rfl rfl rfl (by kernel_rfl) (by simp) [0, 1, 4, 5, 9, 17] ?_
  repeat' (first | exact cl1 | ((with_reducible show Exists _); first | exact exHM _ | refine exU8 ?_) | ((fail_if_success with_reducible first | show LeG _ _ | show Lp _ _ _ _ | show Exists _ | show callX _ _ _ _ _ | show (_ : Int) ≤ _ | show (_ : Int) < _ | show (_ : Nat) ≤ _ | show (_ : Nat) < _); (conv => whnf) <;> (first | exact cl2 | refine XAlt.l ?_ | refine Sq.pr ?_ | refine Br.dec (fun hc => ?_) (fun hc => ?_) | refine Br.tt ?_ | refine Br.ff ?_ | refine Br.not ?_ | refine Br.mk (fun hc => ?_) (fun hc => ?_) | refine Opt.nn ?_ | refine Opt.ss ?_ | refine AltA.l ?_ | exact PV.leL_nil | refine PV.leL_cons ?_ ?_ | refine And.intro ?_ ?_ | refine ix_map (fun x hx => ?_) | refine exU8 ?_ | refine nilc (fun hn => ?_) ?_ | exact cl3 | refine imp0 (fun hpos => ?_) | refine fits_i64 ?_ ?_ | exact rfl | exact trivial | (with_reducible first | show LeG _ _ | show Lp _ _ _ _ | show Exists _ | show callX _ _ _ _ _)))) <;> (try exact cl5)
  refine Wpc.loopB (α := {i : Nat // i ≤ l.length ∧ ∀ j w, j < i → l[j]? = some w → w ≠ n}) mixed [0, 1, 4, 5, 9, 17] (fun i => [(5, .p (eI i.1))]) (fun i => l.length - i.1) ⟨0, by omega, by intro j w h; omega⟩ ?_ ?_
  · (first | refine Ent.ofA [] ?_ | refine Ent.ofC [] ?_) <;> (repeat' (first | exact trivial | refine HpLe.dd ?_ | refine HpLe.mk rfl (by simp) rfl (fun h => AObj.noConfusion h) ?_ ?_ | refine And.intro ?_ ?_ | exact cl9 | refine VLe.pe ?_ | refine VLe.agg ?_ | refine VLe.tup ?_ | refine VLe.fn ?_ ?_ | refine VLeL.cons ?_ ?_ | exact VLeL.nil | exact OLe.row _ _ | rfl | refine VLe.rsle rfl ?_ ?_ ?_ | refine OLe.rowe2 ?_ ?_ | refine OLe.mape ?_ ?_ | refine OLe.iter0 ?_ | refine OLe.itere ?_ ?_ | refine OLe.chane ?_ ?_ | refine OLe.mapSe ?_ ?_ ?_ | exact OLe.mapS0 rfl)) <;> try (first | (simp; done) | (congr 1; omega) | (congr 1; (first | (simp; done) | (simp; omega))))
  rintro ⟨i, hi, hq⟩
  have hi : i ≤ l.length := hi
  have hq : ∀ j w, j < i → l[j]? = some w → w ≠ n := hq
  repeat' (first | exact cl1 | ((with_reducible show Exists _); first | exact exHM _ | refine exU8 ?_) | ((fail_if_success with_reducible first | show LeG _ _ | show Lp _ _ _ _ | show Exists _ | show callX _ _ _ _ _ | show (_ : Int) ≤ _ | show (_ : Int) < _ | show (_ : Nat) ≤ _ | show (_ : Nat) < _); (conv => whnf) <;> (first | exact cl2 | refine XAlt.l ?_ | refine Sq.pr ?_ | refine Br.dec (fun hc => ?_) (fun hc => ?_) | refine Br.tt ?_ | refine Br.ff ?_ | refine Br.not ?_ | refine Br.mk (fun hc => ?_) (fun hc => ?_) | refine Opt.nn ?_ | refine Opt.ss ?_ | refine AltA.l ?_ | exact PV.leL_nil | refine PV.leL_cons ?_ ?_ | refine And.intro ?_ ?_ | refine ix_map (fun x hx => ?_) | refine exU8 ?_ | refine nilc (fun hn => ?_) ?_ | exact cl3 | refine imp0 (fun hpos => ?_) | refine fits_i64 ?_ ?_ | exact rfl | exact trivial | (with_reducible first | show LeG _ _ | show Lp _ _ _ _ | show Exists _ | show callX _ _ _ _ _)))) <;> (try exact cl5)
  · have hx : l[i]? = some x := hx
    rw [hasB_yes hx hc]; exact LeG.refl _
  · have hx : l[i]? = some x := hx
    have hne : ¬ x = n := hc
    have := (List.getElem?_eq_some_iff.1 hx).1
    refine ⟨⟨i + 1, by omega, fun j w hj hw => ?_⟩, by show l.length - (i + 1) < l.length - i; omega, ?_⟩
    · rcases Nat.lt_succ_iff_lt_or_eq.1 hj with h1 | h1
      · exact hq j w h1 hw
      · subst h1; rw [hx] at hw; injection hw with hw; subst hw; exact hne
    · (first | refine Ent.ofA [] ?_ | refine Ent.ofC [] ?_) <;> (repeat' (first | exact trivial | refine HpLe.dd ?_ | refine HpLe.mk rfl (by simp) rfl (fun h => AObj.noConfusion h) ?_ ?_ | refine And.intro ?_ ?_ | exact cl9 | refine VLe.pe ?_ | refine VLe.agg ?_ | refine VLe.tup ?_ | refine VLe.fn ?_ ?_ | refine VLeL.cons ?_ ?_ | exact VLeL.nil | exact OLe.row _ _ | rfl | refine VLe.rsle rfl ?_ ?_ ?_ | refine OLe.rowe2 ?_ ?_ | refine OLe.mape ?_ ?_ | refine OLe.iter0 ?_ | refine OLe.itere ?_ ?_ | refine OLe.chane ?_ ?_ | refine OLe.mapSe ?_ ?_ ?_ | exact OLe.mapS0 rfl)) <;> try (first | (simp; done) | (congr 1; omega) | (congr 1; (first | (simp; done) | (simp; omega))))
  · have hc : ¬ (i : Int) < ((l.map eI).length : Int) := hc
    rw [List.length_map] at hc
    rw [hasB_no fun j w hw => hq j w (by have := (List.getElem?_eq_some_iff.1 hw).1; omega) hw]; exact LeG.refl _
theorem index_calls (l : List Int) (n : Int) (hl : l.length < 1000000) : PCalls Try.prog 54 [eIs l, eI n] (eI (fIx (fun x => decide (x = n)) l)) := by
  refine PCalls.of (N := 19) (res := [.tmp 4]) mixed Try.func54 rfl rfl rfl (by kernel_rfl) (by simp) [0, 1, 4, 5, 7, 8, 9, 16] ?_
  repeat' (first | exact cl1 | ((with_reducible show Exists _); first | exact exHM _ | refine exU8 ?_) | ((fail_if_success with_reducible first | show LeG _ _ | show Lp _ _ _ _ | show Exists _ | show callX _ _ _ _ _ | show (_ : Int) ≤ _ | show (_ : Int) < _ | show (_ : Nat) ≤ _ | show (_ : Nat) < _); (conv => whnf) <;> (first | exact cl2 | refine XAlt.l ?_ | refine Sq.pr ?_ | refine Br.dec (fun hc => ?_) (fun hc => ?_) | refine Br.tt ?_ | refine Br.ff ?_ | refine Br.not ?_ | refine Br.mk (fun hc => ?_) (fun hc => ?_) | refine Opt.nn ?_ | refine Opt.ss ?_ | refine AltA.l ?_ | exact PV.leL_nil | refine PV.leL_cons ?_ ?_ | refine And.intro ?_ ?_ | refine ix_map (fun x hx => ?_) | refine exU8 ?_ | refine nilc (fun hn => ?_) ?_ | exact cl3 | refine imp0 (fun hpos => ?_) | refine fits_i64 ?_ ?_ | exact rfl | exact trivial | (with_reducible first | show LeG _ _ | show Lp _ _ _ _ | show Exists _ | show callX _ _ _ _ _)))) <;> (try exact cl5)
  refine Wpc.loopB (α := {i : Nat // i ≤ l.length ∧ ∀ j w, j < i → l[j]? = some w → w ≠ n}) mixed [0, 1, 4, 5, 7, 8, 9, 16] (fun i => [(8, .p (eI i.1))]) (fun i => l.length - i.1) ⟨0, by omega, by intro j w h; omega⟩ ?_ ?_
  · (first | refine Ent.ofA [] ?_ | refine Ent.ofC [] ?_) <;> (repeat' (first | exact trivial | refine HpLe.dd ?_ | refine HpLe.mk rfl (by simp) rfl (fun h => AObj.noConfusion h) ?_ ?_ | refine And.intro ?_ ?_ | exact cl9 | refine VLe.pe ?_ | refine VLe.agg ?_ | refine VLe.tup ?_ | refine VLe.fn ?_ ?_ | refine VLeL.cons ?_ ?_ | exact VLeL.nil | exact OLe.row _ _ | rfl | refine VLe.rsle rfl ?_ ?_ ?_ | refine OLe.rowe2 ?_ ?_ | refine OLe.mape ?_ ?_ | refine OLe.iter0 ?_ | refine OLe.itere ?_ ?_ | refine OLe.chane ?_ ?_ | refine OLe.mapSe ?_ ?_ ?_ | exact OLe.mapS0 rfl)) <;> try (first | (simp; done) | (congr 1; omega) | (congr 1; (first | (simp; done) | (simp; omega))))
  rintro ⟨i, hi, hq⟩
  have hi : i ≤ l.length := hi
  have hq : ∀ j w, j < i → l[j]? = some w → w ≠ n := hq
  repeat' (first | exact cl1 | ((with_reducible show Exists _); first | exact exHM _ | refine exU8 ?_) | ((fail_if_success with_reducible first | show LeG _ _ | show Lp _ _ _ _ | show Exists _ | show callX _ _ _ _ _ | show (_ : Int) ≤ _ | show (_ : Int) < _ | show (_ : Nat) ≤ _ | show (_ : Nat) < _); (conv => whnf) <;> (first | exact cl2 | refine XAlt.l ?_ | refine Sq.pr ?_ | refine Br.dec (fun hc => ?_) (fun hc => ?_) | refine Br.tt ?_ | refine Br.ff ?_ | refine Br.not ?_ | refine Br.mk (fun hc => ?_) (fun hc => ?_) | refine Opt.nn ?_ | refine Opt.ss ?_ | refine AltA.l ?_ | exact PV.leL_nil | refine PV.leL_cons ?_ ?_ | refine And.intro ?_ ?_ | refine ix_map (fun x hx => ?_) | refine exU8 ?_ | refine nilc (fun hn => ?_) ?_ | exact cl3 | refine imp0 (fun hpos => ?_) | refine fits_i64 ?_ ?_ | exact rfl | exact trivial | (with_reducible first | show LeG _ _ | show Lp _ _ _ _ | show Exists _ | show callX _ _ _ _ _)))) <;> (try exact cl5)
  · have hx : l[i]? = some x := hx
    have hc : n = x := hc
    rw [fIx_some (q := fun x => decide (x = n)) hx (decide_eq_true hc.symm) (fun j w hj hw => decide_eq_false (hq j w hj hw))]; exact LeG.refl _
  · have hx : l[i]? = some x := hx
    have hne : ¬ n = x := hc
    have := (List.getElem?_eq_some_iff.1 hx).1
    refine ⟨⟨i + 1, by omega, fun j w hj hw => ?_⟩, by show l.length - (i + 1) < l.length - i; omega, ?_⟩
    · rcases Nat.lt_succ_iff_lt_or_eq.1 hj with h1 | h1
      · exact hq j w h1 hw
      · subst h1; rw [hx] at hw; injection hw with hw; subst hw; exact fun e => hne e.symm
    · (first | refine Ent.ofA [] ?_ | refine Ent.ofC [] ?_) <;> (repeat' (first | exact trivial | refine HpLe.dd ?_ | refine HpLe.mk rfl (by simp) rfl (fun h => AObj.noConfusion h) ?_ ?_ | refine And.intro ?_ ?_ | exact cl9 | refine VLe.pe ?_ | refine VLe.agg ?_ | refine VLe.tup ?_ | refine VLe.fn ?_ ?_ | refine VLeL.cons ?_ ?_ | exact VLeL.nil | exact OLe.row _ _ | rfl | refine VLe.rsle rfl ?_ ?_ ?_ | refine OLe.rowe2 ?_ ?_ | refine OLe.mape ?_ ?_ | refine OLe.iter0 ?_ | refine OLe.itere ?_ ?_ | refine OLe.chane ?_ ?_ | refine OLe.mapSe ?_ ?_ ?_ | exact OLe.mapS0 rfl)) <;> try (first | (simp; done) | (congr 1; omega) | (congr 1; (first | (simp; done) | (simp; omega))))
  · have hc : ¬ (i : Int) < ((l.map eI).length : Int) := hc
    rw [List.length_map] at hc
    rw [fIx_none (q := fun x => decide (x = n)) (l := l) fun j w hj hw => decide_eq_false (hq j w (by omega) hw)]; exact LeG.refl _
theorem contains_calls (l : List Int) (n : Int) (hl : l.length < 1000000) : PCalls Try.prog 41 [eIs l, eI n] (.bool (hasB l n)) := by
  show PCalls _ _ _ (.bool (l.any _))
  rw [← fIx_any]
  refine PCalls.of (N := 9) (res := [.tmp 4]) mixed Try.func41 rfl rfl rfl (by kernel_rfl) (by simp) [0, 1, 4] ?_
  repeat' (first | exact cl1 | ((with_reducible show Exists _); first | exact exHM _ | refine exU8 ?_) | ((with_reducible show callX _ _ _ _ _); (first | refine call_p (index_calls _ _ hl) (by kernel_rfl) rfl ?_)) | ((fail_if_success with_reducible first | show LeG _ _ | show Lp _ _ _ _ | show Exists _ | show callX _ _ _ _ _ | show (_ : Int) ≤ _ | show (_ : Int) < _ | show (_ : Nat) ≤ _ | show (_ : Nat) < _); (conv => whnf) <;> (first | exact cl2 | refine XAlt.l ?_ | refine Sq.pr ?_ | refine Br.dec (fun hc => ?_) (fun hc => ?_) | refine Br.tt ?_ | refine Br.ff ?_ | refine Br.not ?_ | refine Br.mk (fun hc => ?_) (fun hc => ?_) | refine Opt.nn ?_ | refine Opt.ss ?_ | refine AltA.l ?_ | exact PV.leL_nil | refine PV.leL_cons ?_ ?_ | refine And.intro ?_ ?_ | refine ix_map (fun x hx => ?_) | refine exU8 ?_ | refine nilc (fun hn => ?_) ?_ | exact cl3 | refine imp0 (fun hpos => ?_) | refine fits_i64 ?_ ?_ | exact rfl | exact trivial | (with_reducible first | show LeG _ _ | show Lp _ _ _ _ | show Exists _ | show callX _ _ _ _ _)))) <;> (try exact cl5)
def lexB : List Int → List Int → Bool
  | a :: x, b :: y => if a = b then lexB x y else decide (a < b)
  | _, _ => false
/-- Shorter, or as long and lexicographically first. -/
def befB (a b : List Int) : Bool := if a.length = b.length then lexB a b else decide (a.length < b.length)
theorem before_calls (a b : List Int) (ha : a.length < 1000000) : PCalls Try.prog 22 [eIs a, eIs b] (.bool (befB a b)) := by
  refine PCalls.of (N := 40) (res := [.tmp 4]) mixed Try.func22 rfl rfl rfl (by kernel_rfl) (by simp) [0, 1, 4, 5, 10, 19, 30] ?_
  repeat' (first | exact cl1 | ((with_reducible show Exists _); first | exact exHM _ | refine exU8 ?_) | ((fail_if_success with_reducible first | show LeG _ _ | show Lp _ _ _ _ | show Exists _ | show callX _ _ _ _ _ | show (_ : Int) ≤ _ | show (_ : Int) < _ | show (_ : Nat) ≤ _ | show (_ : Nat) < _); (conv => whnf) <;> (first | exact cl2 | refine XAlt.l ?_ | refine Sq.pr ?_ | refine Br.dec (fun hc => ?_) (fun hc => ?_) | refine Br.tt ?_ | refine Br.ff ?_ | refine Br.not ?_ | refine Br.mk (fun hc => ?_) (fun hc => ?_) | refine Opt.nn ?_ | refine Opt.ss ?_ | refine AltA.l ?_ | exact PV.leL_nil | refine PV.leL_cons ?_ ?_ | refine And.intro ?_ ?_ | refine ix_map (fun x hx => ?_) | refine exU8 ?_ | refine nilc (fun hn => ?_) ?_ | exact cl3 | refine imp0 (fun hpos => ?_) | refine fits_i64 ?_ ?_ | exact rfl | exact trivial | (with_reducible first | show LeG _ _ | show Lp _ _ _ _ | show Exists _ | show callX _ _ _ _ _)))) <;> (try exact cl5)
  · have hc : ((a.map eI).length : Int) ≠ ((b.map eI).length : Int) := by assumption
    rw [List.length_map, List.length_map] at hc
    refine LeG.bool ?_
    unfold befB
    rw [if_neg (by omega), List.length_map, List.length_map]
    exact decide_eq_decide.2 (by omega)
  have hab : a.length = b.length := by
    have h : ¬ ((a.map eI).length : Int) ≠ ((b.map eI).length : Int) := by assumption
    simp only [List.length_map] at h; omega
  have hB : befB a b = lexB a b := if_pos hab
  refine Wpc.loopB (α := {i : Nat // i ≤ a.length ∧ lexB (a.drop i) (b.drop i) = lexB a b}) mixed [0, 1, 4, 5, 10, 19, 30] (fun i => [(5, .p (eI i.1))]) (fun i => a.length - i.1) ⟨0, by omega, rfl⟩ ?_ ?_
  · (first | refine Ent.ofA [] ?_ | refine Ent.ofC [] ?_) <;> (repeat' (first | exact trivial | refine HpLe.dd ?_ | refine HpLe.mk rfl (by simp) rfl (fun h => AObj.noConfusion h) ?_ ?_ | refine And.intro ?_ ?_ | exact cl9 | refine VLe.pe ?_ | refine VLe.agg ?_ | refine VLe.tup ?_ | refine VLe.fn ?_ ?_ | refine VLeL.cons ?_ ?_ | exact VLeL.nil | exact OLe.row _ _ | rfl | refine VLe.rsle rfl ?_ ?_ ?_ | refine OLe.rowe2 ?_ ?_ | refine OLe.mape ?_ ?_ | refine OLe.iter0 ?_ | refine OLe.itere ?_ ?_ | refine OLe.chane ?_ ?_ | refine OLe.mapSe ?_ ?_ ?_ | exact OLe.mapS0 rfl)) <;> try (first | (simp; done) | (congr 1; omega) | (congr 1; (first | (simp; done) | (simp; omega))))
  rintro ⟨i, hi, hq⟩
  have hi : i ≤ a.length := hi
  have hq : lexB (a.drop i) (b.drop i) = lexB a b := hq
  cases hxa : a[i]? with
  | none =>
    have hge : a.length ≤ i := List.getElem?_eq_none_iff.1 hxa
    have hno : ¬ ((i : Int) < ((a.map eI).length : Int)) := by rw [List.length_map]; omega
    have hda : a.drop i = [] := List.drop_eq_nil_of_le hge
    repeat' (first | exact cl1 | ((with_reducible show Exists _); first | exact exHM _ | refine exU8 ?_) | ((fail_if_success with_reducible first | show LeG _ _ | show Lp _ _ _ _ | show Exists _ | show callX _ _ _ _ _ | show (_ : Int) ≤ _ | show (_ : Int) < _ | show (_ : Nat) ≤ _ | show (_ : Nat) < _); (conv => whnf) <;> (first | exact cl2 | refine Br.dec (fun hc => absurd hc hno) (fun hc => ?_) | refine XAlt.l ?_ | refine Sq.pr ?_ | refine Br.dec (fun hc => ?_) (fun hc => ?_) | refine Br.tt ?_ | refine Br.ff ?_ | refine Br.not ?_ | refine Br.mk (fun hc => ?_) (fun hc => ?_) | refine Opt.nn ?_ | refine Opt.ss ?_ | refine AltA.l ?_ | exact PV.leL_nil | refine PV.leL_cons ?_ ?_ | refine And.intro ?_ ?_ | refine ix_map (fun x hx => ?_) | refine exU8 ?_ | refine nilc (fun hn => ?_) ?_ | exact cl3 | refine imp0 (fun hpos => ?_) | refine fits_i64 ?_ ?_ | exact rfl | exact trivial | (with_reducible first | show LeG _ _ | show Lp _ _ _ _ | show Exists _ | show callX _ _ _ _ _)))) <;> (try exact cl5)
    refine LeG.bool ?_
    rw [hB, ← hq, hda]; rfl
  | some x =>
    have hlt : i < a.length := (List.getElem?_eq_some_iff.1 hxa).1
    have hyes : ((i : Int) < ((a.map eI).length : Int)) := by rw [List.length_map]; omega
    have hda : a.drop i = x :: a.drop (i + 1) := by rw [List.drop_eq_getElem_cons hlt, (List.getElem?_eq_some_iff.1 hxa).2]
    have hlb : i < b.length := by omega
    obtain ⟨y, hxb⟩ : ∃ y, b[i]? = some y := ⟨_, List.getElem?_eq_getElem hlb⟩
    have hdb : b.drop i = y :: b.drop (i + 1) := by rw [List.drop_eq_getElem_cons hlb, (List.getElem?_eq_some_iff.1 hxb).2]
    rw [hda, hdb] at hq
    by_cases hxy : x = y
    · have hq2 : lexB (a.drop (i + 1)) (b.drop (i + 1)) = lexB a b := by
        rw [← hq]; simp only [lexB]; rw [if_pos hxy]
      repeat' (first | exact cl1 | ((with_reducible show Exists _); first | exact exHM _ | refine exU8 ?_) | ((fail_if_success with_reducible first | show LeG _ _ | show Lp _ _ _ _ | show Exists _ | show callX _ _ _ _ _ | show (_ : Int) ≤ _ | show (_ : Int) < _ | show (_ : Nat) ≤ _ | show (_ : Nat) < _); (conv => whnf) <;> (first | exact cl2 | refine Br.dec (fun hc => ?_) (fun hc => absurd hyes hc) | refine Br.dec (fun hc => absurd hxy hc) (fun hc => ?_) | refine ix_at hxa ?_ | refine ix_at hxb ?_ | refine XAlt.l ?_ | refine Sq.pr ?_ | refine Br.dec (fun hc => ?_) (fun hc => ?_) | refine Br.tt ?_ | refine Br.ff ?_ | refine Br.not ?_ | refine Br.mk (fun hc => ?_) (fun hc => ?_) | refine Opt.nn ?_ | refine Opt.ss ?_ | refine AltA.l ?_ | exact PV.leL_nil | refine PV.leL_cons ?_ ?_ | refine And.intro ?_ ?_ | refine ix_map (fun x hx => ?_) | refine exU8 ?_ | refine nilc (fun hn => ?_) ?_ | exact cl3 | refine imp0 (fun hpos => ?_) | refine fits_i64 ?_ ?_ | exact rfl | exact trivial | (with_reducible first | show LeG _ _ | show Lp _ _ _ _ | show Exists _ | show callX _ _ _ _ _)))) <;> (try exact cl5)
      refine ⟨⟨i + 1, hlt, hq2⟩, by show a.length - (i + 1) < a.length - i; omega, ?_⟩
      (first | refine Ent.ofA [] ?_ | refine Ent.ofC [] ?_) <;> (repeat' (first | exact trivial | refine HpLe.dd ?_ | refine HpLe.mk rfl (by simp) rfl (fun h => AObj.noConfusion h) ?_ ?_ | refine And.intro ?_ ?_ | exact cl9 | refine VLe.pe ?_ | refine VLe.agg ?_ | refine VLe.tup ?_ | refine VLe.fn ?_ ?_ | refine VLeL.cons ?_ ?_ | exact VLeL.nil | exact OLe.row _ _ | rfl | refine VLe.rsle rfl ?_ ?_ ?_ | refine OLe.rowe2 ?_ ?_ | refine OLe.mape ?_ ?_ | refine OLe.iter0 ?_ | refine OLe.itere ?_ ?_ | refine OLe.chane ?_ ?_ | refine OLe.mapSe ?_ ?_ ?_ | exact OLe.mapS0 rfl)) <;> try (first | (simp; done) | (congr 1; omega) | (congr 1; (first | (simp; done) | (simp; omega))))
    · repeat' (first | exact cl1 | ((with_reducible show Exists _); first | exact exHM _ | refine exU8 ?_) | ((fail_if_success with_reducible first | show LeG _ _ | show Lp _ _ _ _ | show Exists _ | show callX _ _ _ _ _ | show (_ : Int) ≤ _ | show (_ : Int) < _ | show (_ : Nat) ≤ _ | show (_ : Nat) < _); (conv => whnf) <;> (first | exact cl2 | refine Br.dec (fun hc => ?_) (fun hc => absurd hyes hc) | refine Br.dec (fun hc => ?_) (fun hc => absurd hxy hc) | refine ix_at hxa ?_ | refine ix_at hxb ?_ | refine XAlt.l ?_ | refine Sq.pr ?_ | refine Br.dec (fun hc => ?_) (fun hc => ?_) | refine Br.tt ?_ | refine Br.ff ?_ | refine Br.not ?_ | refine Br.mk (fun hc => ?_) (fun hc => ?_) | refine Opt.nn ?_ | refine Opt.ss ?_ | refine AltA.l ?_ | exact PV.leL_nil | refine PV.leL_cons ?_ ?_ | refine And.intro ?_ ?_ | refine ix_map (fun x hx => ?_) | refine exU8 ?_ | refine nilc (fun hn => ?_) ?_ | exact cl3 | refine imp0 (fun hpos => ?_) | refine fits_i64 ?_ ?_ | exact rfl | exact trivial | (with_reducible first | show LeG _ _ | show Lp _ _ _ _ | show Exists _ | show callX _ _ _ _ _)))) <;> (try exact cl5)
      all_goals
        refine LeG.bool ?_
        rw [hB, ← hq]; simp only [lexB]; rw [if_neg hxy]
end Go.Proofs.Ythlpjjnfcpjgoaa

namespace Go.Proofs.Ythlpjjnfcpjgoaa
open Go Go.Sg
set_option maxRecDepth 100000
set_option maxHeartbeats 8000000
theorem bsi_calls (n : Int) (l : List Int) (hl : l.length < 1000000) (hs : l.Pairwise (fun a b => id a < id b)) :
    PCalls Try.prog 35 [eIs l, eI n] (.tup [eI (posN id n l), .bool (hasN id n l)]) := by
  refine PCalls.of (N := 54) (res := [.tmp 4, .tmp 5]) mixed Try.func35 rfl rfl rfl (by kernel_rfl) (by simp) [0, 1, 4, 5, 6, 7, 8, 9, 15, 27] ?_
  repeat' (first | exact cl1 | ((with_reducible show Exists _); first | exact exHM _ | refine exU8 ?_) | ((fail_if_success with_reducible first | show LeG _ _ | show Lp _ _ _ _ | show Exists _ | show callX _ _ _ _ _ | show (_ : Int) ≤ _ | show (_ : Int) < _ | show (_ : Nat) ≤ _ | show (_ : Nat) < _); (conv => whnf) <;> (first | exact cl2 | refine XAlt.l ?_ | refine Sq.pr ?_ | refine Br.dec (fun hc => ?_) (fun hc => ?_) | refine Br.tt ?_ | refine Br.ff ?_ | refine Br.not ?_ | refine Br.mk (fun hc => ?_) (fun hc => ?_) | refine Opt.nn ?_ | refine Opt.ss ?_ | refine AltA.l ?_ | exact PV.leL_nil | refine PV.leL_cons ?_ ?_ | refine And.intro ?_ ?_ | refine ix_map (fun x hx => ?_) | refine exU8 ?_ | refine nilc (fun hn => ?_) ?_ | exact cl3 | refine imp0 (fun hpos => ?_) | refine fits_i64 ?_ ?_ | exact rfl | exact trivial | (with_reducible first | show LeG _ _ | show Lp _ _ _ _ | show Exists _ | show callX _ _ _ _ _)))) <;> (try exact cl5)
  refine Wpc.loopB (α := {x : Nat × Nat // (x.1 ≤ x.2 ∧ x.2 ≤ l.length) ∧ (∀ j w, j < x.1 → l[j]? = some w → id w < n) ∧ (∀ j w, x.2 ≤ j → l[j]? = some w → n ≤ id w)}) mixed [0, 1, 4, 5, 6, 7, 8, 9, 15, 27] (fun x => [(7, .p (eI x.1.1)), (8, .p (eI x.1.2))]) (fun x => x.1.2 - x.1.1) ⟨(0, l.length), by simp, by intro j w h; exact absurd h (by simp), by intro j w h hw; exact absurd (List.getElem?_eq_some_iff.1 hw).1 (by simp at h; omega)⟩ ?_ ?_
  · (first | refine Ent.ofA [] ?_ | refine Ent.ofC [] ?_) <;> (repeat' (first | exact trivial | refine HpLe.dd ?_ | refine HpLe.mk rfl (by simp) rfl (fun h => AObj.noConfusion h) ?_ ?_ | refine And.intro ?_ ?_ | exact cl9 | refine VLe.pe ?_ | refine VLe.agg ?_ | refine VLe.tup ?_ | refine VLe.fn ?_ ?_ | refine VLeL.cons ?_ ?_ | exact VLeL.nil | exact OLe.row _ _ | rfl | refine VLe.rsle rfl ?_ ?_ ?_ | refine OLe.rowe2 ?_ ?_ | refine OLe.mape ?_ ?_ | refine OLe.iter0 ?_ | refine OLe.itere ?_ ?_ | refine OLe.chane ?_ ?_ | refine OLe.mapSe ?_ ?_ ?_ | exact OLe.mapS0 rfl)) <;> try (first | (simp; done) | (congr 1; omega) | (congr 1; (first | (simp; done) | (simp; omega))))
  rintro ⟨⟨a, b⟩, h1, h2, h3⟩
  have h1 : a ≤ b ∧ b ≤ l.length := h1
  have h2 : ∀ j w, j < a → l[j]? = some w → id w < n := h2
  have h3 : ∀ j w, b ≤ j → l[j]? = some w → n ≤ id w := h3
  repeat' (first | exact cl1 | ((with_reducible show Exists _); first | exact exHM _ | refine exU8 ?_) | ((with_reducible show callX _ _ _ _ _); (first | refine call_p (less_calls _ _) (by kernel_rfl) rfl ?_ | refine call_p (isNaN2_calls _) (by kernel_rfl) rfl ?_)) | ((fail_if_success with_reducible first | show LeG _ _ | show Lp _ _ _ _ | show Exists _ | show callX _ _ _ _ _ | show (_ : Int) ≤ _ | show (_ : Int) < _ | show (_ : Nat) ≤ _ | show (_ : Nat) < _); (conv => whnf) <;> (first | exact cl2 | refine XAlt.l ?_ | refine Sq.pr ?_ | refine Br.dec (fun hc => ?_) (fun hc => ?_) | refine Br.tt ?_ | refine Br.ff ?_ | refine Br.not ?_ | refine Br.mk (fun hc => ?_) (fun hc => ?_) | refine Opt.nn ?_ | refine Opt.ss ?_ | refine AltA.l ?_ | exact PV.leL_nil | refine PV.leL_cons ?_ ?_ | refine And.intro ?_ ?_ | refine ix_map (fun x hx => ?_) | refine exU8 ?_ | refine nilc (fun hn => ?_) ?_ | exact cl3 | refine imp0 (fun hpos => ?_) | refine fits_i64 ?_ ?_ | exact rfl | exact trivial | (with_reducible first | show LeG _ _ | show Lp _ _ _ _ | show Exists _ | show callX _ _ _ _ _)))) <;> (try exact cl5)
  · show 0 ≤ IntKind.i64.wrap ((IntKind.u64.wrap ((a : Int) + b)).fdiv (2 ^ min (Int.toNat 1) IntKind.u64.bits))
    rw [mid_eq a b (by omega)]; omega
  · show IntKind.i64.wrap ((IntKind.u64.wrap ((a : Int) + b)).fdiv (2 ^ min (Int.toNat 1) IntKind.u64.bits)) < ((l.map eI).length : Int)
    have hc : (a : Int) < (b : Int) := hc
    rw [mid_eq a b (by omega), List.length_map]; omega
  · show -9223372036854775808 ≤ IntKind.i64.wrap ((IntKind.u64.wrap ((a : Int) + b)).fdiv (2 ^ min (Int.toNat 1) IntKind.u64.bits)) + 1
    rw [mid_eq a b (by omega)]; omega
  · show IntKind.i64.wrap ((IntKind.u64.wrap ((a : Int) + b)).fdiv (2 ^ min (Int.toNat 1) IntKind.u64.bits)) + 1 ≤ 9223372036854775807
    rw [mid_eq a b (by omega)]; omega
  · rename_i c1
    have c1 : (a : Int) < (b : Int) := c1
    have hx : l[(IntKind.i64.wrap ((IntKind.u64.wrap ((a : Int) + b)).fdiv (2 ^ min (Int.toNat 1) IntKind.u64.bits))).toNat]? = some x := hx
    rw [mid_eq a b (by omega), Int.toNat_natCast] at hx
    refine ⟨⟨((a + b) / 2 + 1, b), by show (a + b) / 2 + 1 ≤ b ∧ b ≤ l.length; omega, fun j w hj hw => ?_, h3⟩, by show b - ((a + b) / 2 + 1) < b - a; omega, ?_⟩
    · have hj : j < (a + b) / 2 + 1 := hj
      have : w ≤ x := srt_le id hs (show j ≤ (a + b) / 2 by omega) hw hx
      show w < n
      omega
    · (first | refine Ent.ofA [] ?_ | refine Ent.ofC [] ?_) <;> (repeat' (first | exact trivial | refine HpLe.dd ?_ | refine HpLe.mk rfl (by simp) rfl (fun h => AObj.noConfusion h) ?_ ?_ | refine And.intro ?_ ?_ | exact cl9 | refine VLe.pe ?_ | refine VLe.agg ?_ | refine VLe.tup ?_ | refine VLe.fn ?_ ?_ | refine VLeL.cons ?_ ?_ | exact VLeL.nil | exact OLe.row _ _ | rfl | refine VLe.rsle rfl ?_ ?_ ?_ | refine OLe.rowe2 ?_ ?_ | refine OLe.mape ?_ ?_ | refine OLe.iter0 ?_ | refine OLe.itere ?_ ?_ | refine OLe.chane ?_ ?_ | refine OLe.mapSe ?_ ?_ ?_ | exact OLe.mapS0 rfl)) <;> try (first | (simp; done) | (congr 1; omega) | (congr 1; (first | (simp; done) | (simp; omega))))
      exact congrArg (PV.int .i64) (show IntKind.i64.wrap ((IntKind.u64.wrap ((a : Int) + b)).fdiv (2 ^ min (Int.toNat 1) IntKind.u64.bits)) + 1 = (((a + b) / 2 + 1 : Nat) : Int) by rw [mid_eq a b (by omega)]; omega)
  · rename_i c1
    have c1 : (a : Int) < (b : Int) := c1
    have hx : l[(IntKind.i64.wrap ((IntKind.u64.wrap ((a : Int) + b)).fdiv (2 ^ min (Int.toNat 1) IntKind.u64.bits))).toNat]? = some x := hx
    rw [mid_eq a b (by omega), Int.toNat_natCast] at hx
    refine ⟨⟨(a, (a + b) / 2), by show a ≤ (a + b) / 2 ∧ (a + b) / 2 ≤ l.length; omega, h2, fun j w hj hw => ?_⟩, by show (a + b) / 2 - a < b - a; omega, ?_⟩
    · have hj : (a + b) / 2 ≤ j := hj
      have : x ≤ w := srt_le id hs hj hx hw
      show n ≤ w
      omega
    · (first | refine Ent.ofA [] ?_ | refine Ent.ofC [] ?_) <;> (repeat' (first | exact trivial | refine HpLe.dd ?_ | refine HpLe.mk rfl (by simp) rfl (fun h => AObj.noConfusion h) ?_ ?_ | refine And.intro ?_ ?_ | exact cl9 | refine VLe.pe ?_ | refine VLe.agg ?_ | refine VLe.tup ?_ | refine VLe.fn ?_ ?_ | refine VLeL.cons ?_ ?_ | exact VLeL.nil | exact OLe.row _ _ | rfl | refine VLe.rsle rfl ?_ ?_ ?_ | refine OLe.rowe2 ?_ ?_ | refine OLe.mape ?_ ?_ | refine OLe.iter0 ?_ | refine OLe.itere ?_ ?_ | refine OLe.chane ?_ ?_ | refine OLe.mapSe ?_ ?_ ?_ | exact OLe.mapS0 rfl)) <;> try (first | (simp; done) | (congr 1; omega) | (congr 1; (first | (simp; done) | (simp; omega))))
      exact congrArg (PV.int .i64) (show IntKind.i64.wrap ((IntKind.u64.wrap ((a : Int) + b)).fdiv (2 ^ min (Int.toNat 1) IntKind.u64.bits)) = (((a + b) / 2 : Nat) : Int) by rw [mid_eq a b (by omega)])
  all_goals
    have hnb : ¬ (a : Int) < (b : Int) := by assumption
    have hp : posN id n l = a := posN_eq id l n a (by omega) h2 (fun y hy => h3 a y (by omega) hy)
    unfold hasN
    rw [hp]
    first
    | (have hx : l[a]? = some x := hx
       have e : x = n := hc
       rw [hx]
       show LeG _ (PV.tup [eI (a : Int), .bool (decide (x = n))])
       rw [decide_eq_true e]; exact LeG.refl _)
    | (have hx : l[a]? = some x := hx
       rename_i z hz _
       have hz : l[a]? = some z := hz
       have e : ¬ z = n := hc
       rw [hz]
       show LeG _ (PV.tup [eI (a : Int), .bool (decide (z = n))])
       rw [decide_eq_false e]; exact LeG.refl _)
    | (have hc : ¬ (a : Int) < ((l.map eI).length : Int) := hc
       rw [List.length_map] at hc
       rw [List.getElem?_eq_none (by omega)]; exact LeG.refl _)
    | trace_state
theorem clip_calls (l : List Int) (hl : l.length < 1000000) : PCalls Try.prog 36 [eIs l] (.sl 1 true (l.map eI)) := by
  refine PCalls.of (N := 9) (res := [.tmp 2]) mixed Try.func36 rfl rfl rfl (by kernel_rfl) (by simp) [0, 2] ?_
  repeat' (first | exact cl1 | ((with_reducible show Exists _); first | exact exHM _ | refine exU8 ?_) | ((fail_if_success with_reducible first | show LeG _ _ | show Lp _ _ _ _ | show Exists _ | show callX _ _ _ _ _ | show (_ : Int) ≤ _ | show (_ : Int) < _ | show (_ : Nat) ≤ _ | show (_ : Nat) < _); (conv => whnf) <;> (first | exact cl2 | refine XAlt.l ?_ | refine Sq.pr ?_ | refine Br.dec (fun hc => ?_) (fun hc => ?_) | refine Br.tt ?_ | refine Br.ff ?_ | refine Br.not ?_ | refine Br.mk (fun hc => ?_) (fun hc => ?_) | refine Opt.nn ?_ | refine Opt.ss ?_ | refine AltA.l ?_ | exact PV.leL_nil | refine PV.leL_cons ?_ ?_ | refine And.intro ?_ ?_ | refine ix_map (fun x hx => ?_) | refine exU8 ?_ | refine nilc (fun hn => ?_) ?_ | exact cl3 | refine imp0 (fun hpos => ?_) | refine fits_i64 ?_ ?_ | exact rfl | exact trivial | (with_reducible first | show LeG _ _ | show Lp _ _ _ _ | show Exists _ | show callX _ _ _ _ _)))) <;> (try exact cl5)
  rw [show List.drop (Int.toNat 0) (List.take (((l.map eI).length : Int)).toNat (l.map eI)) = l.map eI by rw [show Int.toNat 0 = 0 from rfl, List.drop_zero, Int.toNat_natCast, List.take_length]]; exact LeG.refl _
def okP (P : List Int) : Bool := okFrom (wiB 1048577) id (-1) P
def argB (who : Int) (P : List Int) (t k : Int) : Bool := okP P && decide (P.length ≤ 16) && wiB 64 who && wiB TM t && wiB TM k
def examA (l : List It) (who : Int) (P : List Int) (t k : Int) : Int := if chkA l = 0 then (if argB who P t k then 0 else 1) else chkA l
theorem exam_calls (l : List It) (who : Int) (P : List Int) (t k : Int) (hl : l.length < 1000000) (hP : P.length < 1000000) : PCalls Try.prog 32 [eL l, eI who, eIs P, eI t, eI k] (eI (examA l who P t k)) := by
  have q1 := check_calls l hl
  unfold examA
  by_cases hz : chkA l = 0
  · rw [hz] at q1
    rw [if_pos hz]
    refine PCalls.of (N := 53) (res := [.tmp 10]) mixed Try.func32 rfl rfl rfl (by kernel_rfl) (by simp) [0, 1, 2, 3, 4, 10, 11, 12, 14, 18, 20, 21, 22, 23, 32, 52] ?_
    repeat' (first | exact cl1 | ((with_reducible show Exists _); first | exact exHM _ | refine exU8 ?_) | ((with_reducible show callX _ _ _ _ _); (first | refine call_p (q1) (by kernel_rfl) rfl ?_)) | ((fail_if_success with_reducible first | show LeG _ _ | show Lp _ _ _ _ | show Exists _ | show callX _ _ _ _ _ | show (_ : Int) ≤ _ | show (_ : Int) < _ | show (_ : Nat) ≤ _ | show (_ : Nat) < _); (conv => whnf) <;> (first | exact cl2 | refine XAlt.l ?_ | refine Sq.pr ?_ | refine Br.dec (fun hc => ?_) (fun hc => ?_) | refine Br.tt ?_ | refine Br.ff ?_ | refine Br.not ?_ | refine Br.mk (fun hc => ?_) (fun hc => ?_) | refine Opt.nn ?_ | refine Opt.ss ?_ | refine AltA.l ?_ | exact PV.leL_nil | refine PV.leL_cons ?_ ?_ | refine And.intro ?_ ?_ | refine ix_map (fun x hx => ?_) | refine exU8 ?_ | refine nilc (fun hn => ?_) ?_ | exact cl3 | refine imp0 (fun hpos => ?_) | refine fits_i64 ?_ ?_ | exact rfl | exact trivial | (with_reducible first | show LeG _ _ | show Lp _ _ _ _ | show Exists _ | show callX _ _ _ _ _)))) <;> (try exact cl5)
    refine Wpc.loopB (α := {i : Nat // i ≤ P.length ∧ okFrom (wiB 1048577) id (lastNo id P i) (P.drop i) = okP P ∧ -1 ≤ lastNo id P i}) mixed [0, 1, 2, 3, 4, 10, 11, 12, 14, 18, 20, 21, 22, 23, 32, 52] (fun i => [(12, .p (eI (lastNo id P i.1))), (22, .p (eI i.1))]) (fun i => P.length - i.1) ⟨0, by omega, rfl, by show (-1 : Int) ≤ -1; decide⟩ ?_ ?_
    · (first | refine Ent.ofA [] ?_ | refine Ent.ofC [] ?_) <;> (repeat' (first | exact trivial | refine HpLe.dd ?_ | refine HpLe.mk rfl (by simp) rfl (fun h => AObj.noConfusion h) ?_ ?_ | refine And.intro ?_ ?_ | exact cl9 | refine VLe.pe ?_ | refine VLe.agg ?_ | refine VLe.tup ?_ | refine VLe.fn ?_ ?_ | refine VLeL.cons ?_ ?_ | exact VLeL.nil | exact OLe.row _ _ | rfl | refine VLe.rsle rfl ?_ ?_ ?_ | refine OLe.rowe2 ?_ ?_ | refine OLe.mape ?_ ?_ | refine OLe.iter0 ?_ | refine OLe.itere ?_ ?_ | refine OLe.chane ?_ ?_ | refine OLe.mapSe ?_ ?_ ?_ | exact OLe.mapS0 rfl)) <;> try (first | (simp; done) | (congr 1; omega) | (congr 1; (first | (simp; done) | (simp; omega))))
    rintro ⟨i, hi, hq, hlow⟩
    have hi : i ≤ P.length := hi
    have hq : okFrom (wiB 1048577) id (lastNo id P i) (P.drop i) = okP P := hq
    have hlow : -1 ≤ lastNo id P i := hlow
    repeat' (first | exact cl1 | ((with_reducible show Exists _); first | exact exHM _ | refine exU8 ?_) | ((with_reducible show callX _ _ _ _ _); (first | refine call_p (within_calls _ _) (by kernel_rfl) rfl ?_)) | ((fail_if_success with_reducible first | show LeG _ _ | show Lp _ _ _ _ | show Exists _ | show callX _ _ _ _ _ | show (_ : Int) ≤ _ | show (_ : Int) < _ | show (_ : Nat) ≤ _ | show (_ : Nat) < _); (conv => whnf) <;> (first | exact cl2 | refine XAlt.l ?_ | refine Sq.pr ?_ | refine Br.dec (fun hc => ?_) (fun hc => ?_) | refine Br.tt ?_ | refine Br.ff ?_ | refine Br.not ?_ | refine Br.mk (fun hc => ?_) (fun hc => ?_) | refine Opt.nn ?_ | refine Opt.ss ?_ | refine AltA.l ?_ | exact PV.leL_nil | refine PV.leL_cons ?_ ?_ | refine And.intro ?_ ?_ | refine ix_map (fun x hx => ?_) | refine exU8 ?_ | refine nilc (fun hn => ?_) ?_ | exact cl3 | refine imp0 (fun hpos => ?_) | refine fits_i64 ?_ ?_ | exact rfl | exact trivial | (with_reducible first | show LeG _ _ | show Lp _ _ _ _ | show Exists _ | show callX _ _ _ _ _)))) <;> (try exact cl5)
    · have hx : P[i]? = some x := hx
      have hc : x ≤ lastNo id P i := hc
      have e : okP P = false := okFrom_no (wiB 1048577) id hx hq (by rw [decide_eq_false (show ¬ lastNo id P i < id x by show ¬ lastNo id P i < x; omega), Bool.and_false])
      rw [if_neg (by unfold argB; rw [e]; simp)]; exact LeG.refl _
    · have hx : P[i]? = some x := hx
      have e : okP P = false := okFrom_no (wiB 1048577) id hx hq (by rw [show wiB 1048577 x = false by unfold wiB; rw [decide_eq_false (show ¬ x < 1048577 by omega), Bool.and_false], Bool.false_and])
      rw [if_neg (by unfold argB; rw [e]; simp)]; exact LeG.refl _
    · rename_i hc1
      have hc1 : ¬ x ≤ lastNo id P i := hc1
      have hx : P[i]? = some x := hx
      have hlt := (List.getElem?_eq_some_iff.1 hx).1
      have hs : lastNo id P (i + 1) = x := lastNo_succ id hx
      refine ⟨⟨i + 1, hlt, okFrom_yes (wiB 1048577) id hx hq (by rw [show wiB 1048577 x = true by unfold wiB; rw [decide_eq_true (show 0 ≤ x by omega), decide_eq_true (show x < 1048577 by omega)]; rfl, decide_eq_true (show lastNo id P i < id x by show lastNo id P i < x; omega)]; rfl), by rw [hs]; omega⟩, by show P.length - (i + 1) < P.length - i; omega, ?_⟩
      (first | refine Ent.ofA [] ?_ | refine Ent.ofC [] ?_) <;> (repeat' (first | exact trivial | refine HpLe.dd ?_ | refine HpLe.mk rfl (by simp) rfl (fun h => AObj.noConfusion h) ?_ ?_ | refine And.intro ?_ ?_ | exact cl9 | refine VLe.pe ?_ | refine VLe.agg ?_ | refine VLe.tup ?_ | refine VLe.fn ?_ ?_ | refine VLeL.cons ?_ ?_ | exact VLeL.nil | exact OLe.row _ _ | rfl | refine VLe.rsle rfl ?_ ?_ ?_ | refine OLe.rowe2 ?_ ?_ | refine OLe.mape ?_ ?_ | refine OLe.iter0 ?_ | refine OLe.itere ?_ ?_ | refine OLe.chane ?_ ?_ | refine OLe.mapSe ?_ ?_ ?_ | exact OLe.mapS0 rfl)) <;> try (first | (simp; done) | (congr 1; omega) | (congr 1; (first | (simp; done) | (simp; omega))))
      all_goals (rw [hs])
    all_goals
      have hnc : ¬ (i : Int) < ((P.map eI).length : Int) := by assumption
      rw [List.length_map] at hnc
      have e : okP P = true := okFrom_fin (wiB 1048577) id hq (by omega)
      by_cases h16 : P.length ≤ 16
      · first
        | (exfalso; simp only [List.length_map] at *; omega)
        | (rw [if_pos (show argB who P t k = true by simp [argB, e, h16, *])]; exact LeG.refl _)
        | (rw [if_neg (show ¬ argB who P t k = true by simp [argB, e, h16, *])]; exact LeG.refl _)
        | trace_state
      · first
        | (exfalso; simp only [List.length_map] at *; omega)
        | (rw [if_neg (show ¬ argB who P t k = true by simp [argB, e, h16])]; exact LeG.refl _)
        | trace_state
  · rw [if_neg hz]
    refine PCalls.of (N := 53) (res := [.tmp 10]) mixed Try.func32 rfl rfl rfl (by kernel_rfl) (by simp) [0, 1, 2, 3, 4, 10, 11, 12, 14, 18, 20, 21, 22, 23, 32, 52] ?_
    repeat' (first | exact cl1 | ((with_reducible show Exists _); first | exact exHM _ | refine exU8 ?_) | ((with_reducible show callX _ _ _ _ _); (first | refine call_p (q1) (by kernel_rfl) rfl ?_)) | ((fail_if_success with_reducible first | show LeG _ _ | show Lp _ _ _ _ | show Exists _ | show callX _ _ _ _ _ | show (_ : Int) ≤ _ | show (_ : Int) < _ | show (_ : Nat) ≤ _ | show (_ : Nat) < _); (conv => whnf) <;> (first | exact cl2 | refine XAlt.l ?_ | refine Sq.pr ?_ | refine Br.dec (fun hc => ?_) (fun hc => ?_) | refine Br.tt ?_ | refine Br.ff ?_ | refine Br.not ?_ | refine Br.mk (fun hc => ?_) (fun hc => ?_) | refine Opt.nn ?_ | refine Opt.ss ?_ | refine AltA.l ?_ | exact PV.leL_nil | refine PV.leL_cons ?_ ?_ | refine And.intro ?_ ?_ | refine ix_map (fun x hx => ?_) | refine exU8 ?_ | refine nilc (fun hn => ?_) ?_ | exact cl3 | refine imp0 (fun hpos => ?_) | refine fits_i64 ?_ ?_ | exact rfl | exact trivial | (with_reducible first | show LeG _ _ | show Lp _ _ _ _ | show Exists _ | show callX _ _ _ _ _)))) <;> (try exact cl5)
end Go.Proofs.Ythlpjjnfcpjgoaa

namespace Go.Proofs.Ythlpjjnfcpjgoaa
open Go Go.Sg
set_option maxRecDepth 100000
set_option maxHeartbeats 8000000
theorem rparties_calls (P : List Int) (hP : P.length < 1000000) : PCalls Try.prog 53 [eIs P] (.bool (okP P && decide (P.length ≤ 16))) := by
  refine PCalls.of (N := 35) (res := [.tmp 2]) mixed Try.func53 rfl rfl rfl (by kernel_rfl) (by simp) [0, 2, 3, 7, 31] ?_
  repeat' (first | exact cl1 | ((with_reducible show Exists _); first | exact exHM _ | refine exU8 ?_) | ((fail_if_success with_reducible first | show LeG _ _ | show Lp _ _ _ _ | show Exists _ | show callX _ _ _ _ _ | show (_ : Int) ≤ _ | show (_ : Int) < _ | show (_ : Nat) ≤ _ | show (_ : Nat) < _); (conv => whnf) <;> (first | exact cl2 | refine XAlt.l ?_ | refine Sq.pr ?_ | refine Br.dec (fun hc => ?_) (fun hc => ?_) | refine Br.tt ?_ | refine Br.ff ?_ | refine Br.not ?_ | refine Br.mk (fun hc => ?_) (fun hc => ?_) | refine Opt.nn ?_ | refine Opt.ss ?_ | refine AltA.l ?_ | exact PV.leL_nil | refine PV.leL_cons ?_ ?_ | refine And.intro ?_ ?_ | refine ix_map (fun x hx => ?_) | refine exU8 ?_ | refine nilc (fun hn => ?_) ?_ | exact cl3 | refine imp0 (fun hpos => ?_) | refine fits_i64 ?_ ?_ | exact rfl | exact trivial | (with_reducible first | show LeG _ _ | show Lp _ _ _ _ | show Exists _ | show callX _ _ _ _ _)))) <;> (try exact cl5)
  refine Wpc.loopB (α := {i : Nat // i ≤ P.length ∧ okFrom (wiB 1048577) id (lastNo id P i) (P.drop i) = okP P}) mixed [0, 2, 3, 7, 31] (fun i => [(3, .p (eI i.1))]) (fun i => P.length - i.1) ⟨0, by omega, rfl⟩ ?_ ?_
  · (first | refine Ent.ofA [] ?_ | refine Ent.ofC [] ?_) <;> (repeat' (first | exact trivial | refine HpLe.dd ?_ | refine HpLe.mk rfl (by simp) rfl (fun h => AObj.noConfusion h) ?_ ?_ | refine And.intro ?_ ?_ | exact cl9 | refine VLe.pe ?_ | refine VLe.agg ?_ | refine VLe.tup ?_ | refine VLe.fn ?_ ?_ | refine VLeL.cons ?_ ?_ | exact VLeL.nil | exact OLe.row _ _ | rfl | refine VLe.rsle rfl ?_ ?_ ?_ | refine OLe.rowe2 ?_ ?_ | refine OLe.mape ?_ ?_ | refine OLe.iter0 ?_ | refine OLe.itere ?_ ?_ | refine OLe.chane ?_ ?_ | refine OLe.mapSe ?_ ?_ ?_ | exact OLe.mapS0 rfl)) <;> try (first | (simp; done) | (congr 1; omega) | (congr 1; (first | (simp; done) | (simp; omega))))
  rintro ⟨i, hi, hq⟩
  have hi : i ≤ P.length := hi
  have hq : okFrom (wiB 1048577) id (lastNo id P i) (P.drop i) = okP P := hq
  repeat' (first | exact cl1 | ((with_reducible show Exists _); first | exact exHM _ | refine exU8 ?_) | ((with_reducible show callX _ _ _ _ _); (first | refine call_p (rparty_calls _) (by kernel_rfl) rfl ?_)) | ((fail_if_success with_reducible first | show LeG _ _ | show Lp _ _ _ _ | show Exists _ | show callX _ _ _ _ _ | show (_ : Int) ≤ _ | show (_ : Int) < _ | show (_ : Nat) ≤ _ | show (_ : Nat) < _); (conv => whnf) <;> (first | exact cl2 | refine XAlt.l ?_ | refine Sq.pr ?_ | refine Br.dec (fun hc => ?_) (fun hc => ?_) | refine Br.tt ?_ | refine Br.ff ?_ | refine Br.not ?_ | refine Br.mk (fun hc => ?_) (fun hc => ?_) | refine Opt.nn ?_ | refine Opt.ss ?_ | refine AltA.l ?_ | exact PV.leL_nil | refine PV.leL_cons ?_ ?_ | refine And.intro ?_ ?_ | refine ix_map (fun x hx => ?_) | refine exU8 ?_ | refine nilc (fun hn => ?_) ?_ | exact cl3 | refine imp0 (fun hpos => ?_) | refine fits_i64 ?_ ?_ | exact rfl | exact trivial | (with_reducible first | show LeG _ _ | show Lp _ _ _ _ | show Exists _ | show callX _ _ _ _ _)))) <;> (try exact cl5)
  · rename_i y h1 h2 z hz
    have h2 : (0 : Int) < (i : Int) := h2
    have hz : P[i]? = some z := hz
    have hx : P[((i : Int) - 1).toNat]? = some x := hx
    rw [show ((i : Int) - 1).toNat = i - 1 by omega] at hx
    have hl0 : lastNo id P i = x := by obtain ⟨j, rfl⟩ : ∃ j, i = j + 1 := ⟨i - 1, by omega⟩; exact lastNo_succ id hx
    have e : okP P = false := okFrom_no (wiB 1048577) id hz hq (by rw [hl0, decide_eq_false (show ¬ x < id z by show ¬ x < z; omega), Bool.and_false])
    rw [e]; exact LeG.refl _
  · rename_i y hy h1 h2 z hz
    have h2 : (0 : Int) < (i : Int) := h2
    have hz : P[i]? = some z := hz
    have hy : P[i]? = some y := hy
    rw [hz] at hy; injection hy with hy; subst hy
    have hx : P[((i : Int) - 1).toNat]? = some x := hx
    rw [show ((i : Int) - 1).toNat = i - 1 by omega] at hx
    have hl0 : lastNo id P i = x := by obtain ⟨j, rfl⟩ : ∃ j, i = j + 1 := ⟨i - 1, by omega⟩; exact lastNo_succ id hx
    have hlt := (List.getElem?_eq_some_iff.1 hz).1
    refine ⟨⟨i + 1, hlt, okFrom_yes (wiB 1048577) id hz hq (by rw [hl0, h1, decide_eq_true (show x < id z by show x < z; omega)]; rfl)⟩, by show P.length - (i + 1) < P.length - i; omega, ?_⟩
    (first | refine Ent.ofA [] ?_ | refine Ent.ofC [] ?_) <;> (repeat' (first | exact trivial | refine HpLe.dd ?_ | refine HpLe.mk rfl (by simp) rfl (fun h => AObj.noConfusion h) ?_ ?_ | refine And.intro ?_ ?_ | exact cl9 | refine VLe.pe ?_ | refine VLe.agg ?_ | refine VLe.tup ?_ | refine VLe.fn ?_ ?_ | refine VLeL.cons ?_ ?_ | exact VLeL.nil | exact OLe.row _ _ | rfl | refine VLe.rsle rfl ?_ ?_ ?_ | refine OLe.rowe2 ?_ ?_ | refine OLe.mape ?_ ?_ | refine OLe.iter0 ?_ | refine OLe.itere ?_ ?_ | refine OLe.chane ?_ ?_ | refine OLe.mapSe ?_ ?_ ?_ | exact OLe.mapS0 rfl)) <;> try (first | (simp; done) | (congr 1; omega) | (congr 1; (first | (simp; done) | (simp; omega))))
  · rename_i h1
    have hx : P[i]? = some x := hx
    have hc : ¬ (0 : Int) < (i : Int) := hc
    have hlt := (List.getElem?_eq_some_iff.1 hx).1
    have h0 : i = 0 := by omega
    subst h0
    have hn : 0 ≤ x := by simp [wiB] at h1; omega
    refine ⟨⟨0 + 1, hlt, okFrom_yes (wiB 1048577) id hx hq (by rw [h1]; show (true && decide ((-1 : Int) < x)) = true; rw [decide_eq_true (by omega)]; rfl)⟩, by show P.length - (0 + 1) < P.length - 0; omega, ?_⟩
    (first | refine Ent.ofA [] ?_ | refine Ent.ofC [] ?_) <;> (repeat' (first | exact trivial | refine HpLe.dd ?_ | refine HpLe.mk rfl (by simp) rfl (fun h => AObj.noConfusion h) ?_ ?_ | refine And.intro ?_ ?_ | exact cl9 | refine VLe.pe ?_ | refine VLe.agg ?_ | refine VLe.tup ?_ | refine VLe.fn ?_ ?_ | refine VLeL.cons ?_ ?_ | exact VLeL.nil | exact OLe.row _ _ | rfl | refine VLe.rsle rfl ?_ ?_ ?_ | refine OLe.rowe2 ?_ ?_ | refine OLe.mape ?_ ?_ | refine OLe.iter0 ?_ | refine OLe.itere ?_ ?_ | refine OLe.chane ?_ ?_ | refine OLe.mapSe ?_ ?_ ?_ | exact OLe.mapS0 rfl)) <;> try (first | (simp; done) | (congr 1; omega) | (congr 1; (first | (simp; done) | (simp; omega))))
  · have hx : P[i]? = some x := hx
    have e : okP P = false := okFrom_no (wiB 1048577) id hx hq (by rw [hc]; rfl)
    rw [e]; exact LeG.refl _
  · have hc : ¬ (i : Int) < ((P.map eI).length : Int) := hc
    rw [List.length_map] at hc
    have e : okP P = true := okFrom_fin (wiB 1048577) id hq (by omega)
    rw [e]
    refine LeG.bool ?_
    rw [List.length_map, Bool.true_and]
    exact decide_eq_decide.2 (by omega)
theorem rError_calls (l : List It) (who : Int) (P : List Int) (t k : Int) (hl : l.length < 1000000) (hP : P.length < 1000000) : PCalls Try.prog 37 [eL l, eI who, eIs P, eI t, eI k] (eI (examA l who P t k)) := by
  have q1 := rcheck_calls l hl
  have q2 := rparties_calls P hP
  unfold examA
  by_cases hz : chkA l = 0
  · rw [hz] at q1
    rw [if_pos hz]
    refine PCalls.of (N := 35) (res := [.tmp 10]) mixed Try.func37 rfl rfl rfl (by kernel_rfl) (by simp) [0, 1, 2, 3, 4, 10, 11, 15, 34] ?_
    repeat' (first | exact cl1 | ((with_reducible show Exists _); first | exact exHM _ | refine exU8 ?_) | ((with_reducible show callX _ _ _ _ _); (first | refine call_p (q1) (by kernel_rfl) rfl ?_ | refine call_p (q2) (by kernel_rfl) rfl ?_ | refine call_p (rtime_calls _) (by kernel_rfl) rfl ?_ | refine call_p (rperson_calls _) (by kernel_rfl) rfl ?_)) | ((fail_if_success with_reducible first | show LeG _ _ | show Lp _ _ _ _ | show Exists _ | show callX _ _ _ _ _ | show (_ : Int) ≤ _ | show (_ : Int) < _ | show (_ : Nat) ≤ _ | show (_ : Nat) < _); (conv => whnf) <;> (first | exact cl2 | refine XAlt.l ?_ | refine Sq.pr ?_ | refine Br.dec (fun hc => ?_) (fun hc => ?_) | refine Br.tt ?_ | refine Br.ff ?_ | refine Br.not ?_ | refine Br.mk (fun hc => ?_) (fun hc => ?_) | refine Opt.nn ?_ | refine Opt.ss ?_ | refine AltA.l ?_ | exact PV.leL_nil | refine PV.leL_cons ?_ ?_ | refine And.intro ?_ ?_ | refine ix_map (fun x hx => ?_) | refine exU8 ?_ | refine nilc (fun hn => ?_) ?_ | exact cl3 | refine imp0 (fun hpos => ?_) | refine fits_i64 ?_ ?_ | exact rfl | exact trivial | (with_reducible first | show LeG _ _ | show Lp _ _ _ _ | show Exists _ | show callX _ _ _ _ _)))) <;> (try exact cl5)
    all_goals first
    | (rw [if_pos (show argB who P t k = true by simp only [argB, *, Bool.and_self])]; exact LeG.refl _)
    | (rw [if_neg (show ¬ argB who P t k = true by simp only [argB, *, Bool.false_and, Bool.and_false, Bool.true_and]; simp)]; exact LeG.refl _)
  · rw [if_neg hz]
    refine PCalls.of (N := 35) (res := [.tmp 10]) mixed Try.func37 rfl rfl rfl (by kernel_rfl) (by simp) [0, 1, 2, 3, 4, 10, 11, 15, 34] ?_
    repeat' (first | exact cl1 | ((with_reducible show Exists _); first | exact exHM _ | refine exU8 ?_) | ((with_reducible show callX _ _ _ _ _); (first | refine call_p (q1) (by kernel_rfl) rfl ?_)) | ((fail_if_success with_reducible first | show LeG _ _ | show Lp _ _ _ _ | show Exists _ | show callX _ _ _ _ _ | show (_ : Int) ≤ _ | show (_ : Int) < _ | show (_ : Nat) ≤ _ | show (_ : Nat) < _); (conv => whnf) <;> (first | exact cl2 | refine XAlt.l ?_ | refine Sq.pr ?_ | refine Br.dec (fun hc => ?_) (fun hc => ?_) | refine Br.tt ?_ | refine Br.ff ?_ | refine Br.not ?_ | refine Br.mk (fun hc => ?_) (fun hc => ?_) | refine Opt.nn ?_ | refine Opt.ss ?_ | refine AltA.l ?_ | exact PV.leL_nil | refine PV.leL_cons ?_ ?_ | refine And.intro ?_ ?_ | refine ix_map (fun x hx => ?_) | refine exU8 ?_ | refine nilc (fun hn => ?_) ?_ | exact cl3 | refine imp0 (fun hpos => ?_) | refine fits_i64 ?_ ?_ | exact rfl | exact trivial | (with_reducible first | show LeG _ _ | show Lp _ _ _ _ | show Exists _ | show callX _ _ _ _ _)))) <;> (try exact cl5)
theorem examA_ok {l : List It} {who : Int} {P : List Int} {t k : Int} (h : examA l who P t k = 0) : chkA l = 0 ∧ argB who P t k = true := by
  unfold examA at h
  by_cases hz : chkA l = 0
  · rw [if_pos hz] at h
    cases hb : argB who P t k with
    | true => exact ⟨hz, rfl⟩
    | false => rw [hb] at h; exact absurd h (by decide)
  · rw [if_neg hz] at h; exact absurd h hz
theorem argB_ok {who : Int} {P : List Int} {t k : Int} (h : argB who P t k = true) : okP P = true ∧ P.length ≤ 16 := by
  unfold argB at h
  simp only [Bool.and_eq_true, decide_eq_true_eq] at h
  exact ⟨h.1.1.1.1, h.1.1.1.2⟩
theorem okP_srt {P : List Int} (h : okP P = true) : P.Pairwise (fun a b => id a < id b) := ((okFrom_iff _ _ _ _).1 h).2
end Go.Proofs.Ythlpjjnfcpjgoaa

namespace Go.Proofs.Ythlpjjnfcpjgoaa
open Go Go.Sg
set_option maxRecDepth 100000
set_option maxHeartbeats 20000000
/-! ### Ways -/
structure Wy where
  path : List Int
  to : Int
def eW (w : Wy) : PV := .agg [eIs w.path, eI w.to]
abbrev KTi : KT := ([.int .i64], false)
theorem keyI : KeyOf eI where
  eq := fun a b => by
    show (decide (a = b) && true) = _
    simp
abbrev Met := List (Int × Bool)
def metM (ways : List Wy) : Met := ways.map fun w => (w.to, true)
def hasW (ways : List Wy) (n : Int) : Bool := ways.any fun v => decide (v.to = n)
def putW (ways : List Wy) (w : Wy) : List Wy := if hasW ways w.to then ways else ways ++ [w]
theorem hasW_cons (v : Wy) (r : List Wy) (n : Int) : hasW (v :: r) n = (decide (v.to = n) || hasW r n) := rfl
theorem metM_get (n : Int) : ∀ ways : List Wy, aget n (metM ways) = if hasW ways n = true then some true else none
  | [] => rfl
  | v :: r => by
    have ih := metM_get n r
    have e : aget n (metM (v :: r)) = if n = v.to then some true else aget n (metM r) := rfl
    rw [e, hasW_cons]
    by_cases h : n = v.to
    · subst h; simp
    · rw [if_neg h, ih, decide_eq_false (fun e => h e.symm), Bool.false_or]
theorem metM_put (w : Wy) : ∀ ways : List Wy, hasW ways w.to = false → aput w.to true (metM ways) = metM (ways ++ [w])
  | [], _ => rfl
  | v :: r, h => by
    simp only [hasW, List.any_cons, Bool.or_eq_false_iff, decide_eq_false_iff_not] at h
    have ih := metM_put w r h.2
    simp only [metM, List.map_cons, List.cons_append, aput] at ih ⊢
    rw [if_neg (fun e => h.1 e.symm), ih]
theorem put_icalls (ways : List Wy) (k cap : Nat) (w : Wy) (hk : k ≤ ways.length) (hl : ways.length < 1000000) (hw : w.path.length < 1000000) (hcap : hasW ways w.to = false → ways.length < cap + k) :
    ICalls Try.prog 33 5 [(0, .cells [.mp 1]), (1, .map KTi (eM eI PV.bool (metM ways))), (2, .cells [.ch 3]), (3, .chan cap ((ways.drop k).map eW)), (4, .row 1 (w.path.map eI))]
      [.agg [.rsl 4 1 0 w.path.length, .p (eI w.to)], .ptr 0 0, .ptr 2 0] (.tup [])
      [(0, .cells [.mp 1]), (1, .map KTi (eM eI PV.bool (metM (putW ways w)))), (2, .cells [.ch 3]), (3, .chan cap (((putW ways w).drop k).map eW)), (4, .dead)] := by
  have hg := metM_get w.to ways
  cases hm : hasW ways w.to with
  | true =>
    have hp : putW ways w = ways := by unfold putW; rw [hm]; rfl
    rw [hp]
    rw [hm, if_pos rfl] at hg
    refine ICalls.of (N := 14) (res := []) mixed Try.func33 rfl rfl rfl (by kernel_rfl) (by simp) [0, 1, 2, 3, 8] (Nat.le_refl _) ?_
    repeat' (first | exact cl1 | ((with_reducible show Exists _); first | exact exHM _ | refine exU8 ?_) | ((fail_if_success with_reducible first | show LeG _ _ | show Lp _ _ _ _ | show Exists _ | show callX _ _ _ _ _ | show (_ : Int) ≤ _ | show (_ : Int) < _ | show (_ : Nat) ≤ _ | show (_ : Nat) < _); (conv => whnf) <;> (first | exact cl2 | refine Opt.of (mfind_map PV.bool keyI w.to (metM ways)) (fun z hz => ?_) (fun hz => ?_) | refine XAlt.l ?_ | refine Sq.pr ?_ | refine Br.dec (fun hc => ?_) (fun hc => ?_) | refine Br.tt ?_ | refine Br.ff ?_ | refine Br.not ?_ | refine Br.mk (fun hc => ?_) (fun hc => ?_) | refine Opt.nn ?_ | refine Opt.ss ?_ | refine AltA.l ?_ | exact PV.leL_nil | refine PV.leL_cons ?_ ?_ | refine And.intro ?_ ?_ | refine ix_map (fun x hx => ?_) | refine exU8 ?_ | refine nilc (fun hn => ?_) ?_ | exact cl3 | refine imp0 (fun hpos => ?_) | refine fits_i64 ?_ ?_ | exact rfl | exact trivial | (with_reducible first | show LeG _ _ | show Lp _ _ _ _ | show Exists _ | show callX _ _ _ _ _)))) <;> (try exact cl5)
    all_goals (rw [hg] at hz)
    · refine ⟨[], [(0, 0), (1, 1), (2, 2), (3, 3), (4, 4)], ?_, ?_, by decide, by simp, fun i hi => by match i, hi with | 0, _ => rfl | 1, _ => rfl | 2, _ => rfl | 3, _ => rfl | 4, _ => rfl⟩ <;> (repeat' (first | exact trivial | refine HpLe.dd ?_ | refine HpLe.mk rfl (by simp) rfl (fun h => AObj.noConfusion h) ?_ ?_ | refine And.intro ?_ ?_ | exact cl9 | refine VLe.pe ?_ | refine VLe.agg ?_ | refine VLe.tup ?_ | refine VLe.fn ?_ ?_ | refine VLeL.cons ?_ ?_ | exact VLeL.nil | exact OLe.row _ _ | rfl | refine VLe.rsle rfl ?_ ?_ ?_ | refine OLe.rowe2 ?_ ?_ | refine OLe.mape ?_ ?_ | refine OLe.iter0 ?_ | refine OLe.itere ?_ ?_ | refine OLe.chane ?_ ?_ | refine OLe.mapSe ?_ ?_ ?_ | exact OLe.mapS0 rfl))
    all_goals first
    | (injection hz with hz; subst hz; cases hc; done)
    | (cases hz; done)
    | trace_state
  | false =>
    have hp : putW ways w = ways ++ [w] := by unfold putW; rw [hm]; rfl
    rw [hm, if_neg Bool.false_ne_true] at hg
    have hcap := hcap hm
    refine ICalls.of (N := 14) (res := []) mixed Try.func33 rfl rfl rfl (by kernel_rfl) (by simp) [0, 1, 2, 3, 8] (Nat.le_refl _) ?_
    repeat' (first | exact cl1 | ((with_reducible show Exists _); first | exact exHM _ | refine exU8 ?_) | ((fail_if_success with_reducible first | show LeG _ _ | show Lp _ _ _ _ | show Exists _ | show callX _ _ _ _ _ | show (_ : Int) ≤ _ | show (_ : Int) < _ | show (_ : Nat) ≤ _ | show (_ : Nat) < _); (conv => whnf) <;> (first | exact cl2 | refine Opt.of (mfind_map PV.bool keyI w.to (metM ways)) (fun z hz => ?_) (fun hz => ?_) | refine XAlt.l ?_ | refine Sq.pr ?_ | refine Br.dec (fun hc => ?_) (fun hc => ?_) | refine Br.tt ?_ | refine Br.ff ?_ | refine Br.not ?_ | refine Br.mk (fun hc => ?_) (fun hc => ?_) | refine Opt.nn ?_ | refine Opt.ss ?_ | refine AltA.l ?_ | exact PV.leL_nil | refine PV.leL_cons ?_ ?_ | refine And.intro ?_ ?_ | refine ix_map (fun x hx => ?_) | refine exU8 ?_ | refine nilc (fun hn => ?_) ?_ | exact cl3 | refine imp0 (fun hpos => ?_) | refine fits_i64 ?_ ?_ | exact rfl | exact trivial | (with_reducible first | show LeG _ _ | show Lp _ _ _ _ | show Exists _ | show callX _ _ _ _ _)))) <;> (try exact cl5)
    all_goals (rw [hg] at hz)
    all_goals first
    | (cases hz; done)
    | (rw [List.length_map, List.length_drop]; omega)
    | skip
    refine ⟨[], [(0, 0), (1, 1), (2, 2), (3, 3), (4, 4)], ?_, ?_, by decide, by simp, fun i hi => by match i, hi with | 0, _ => rfl | 1, _ => rfl | 2, _ => rfl | 3, _ => rfl | 4, _ => rfl⟩ <;> (repeat' (first | exact trivial | refine HpLe.dd ?_ | refine HpLe.mk rfl (by simp) rfl (fun h => AObj.noConfusion h) ?_ ?_ | refine And.intro ?_ ?_ | exact cl9 | refine VLe.pe ?_ | refine VLe.agg ?_ | refine VLe.tup ?_ | refine VLe.fn ?_ ?_ | refine VLeL.cons ?_ ?_ | exact VLeL.nil | exact OLe.row _ _ | rfl | refine VLe.rsle rfl ?_ ?_ ?_ | refine OLe.rowe2 ?_ ?_ | refine OLe.mape ?_ ?_ | refine OLe.iter0 ?_ | refine OLe.itere ?_ ?_ | refine OLe.chane ?_ ?_ | refine OLe.mapSe ?_ ?_ ?_ | exact OLe.mapS0 rfl))
    · exact (mput_map PV.bool keyI w.to true (metM ways)).trans (by rw [metM_put w ways hm, hp])
    · rw [hp, List.drop_append_of_le_length hk, List.map_append]
      refine congrArg (fun x => List.map eW (List.drop k ways) ++ [x]) ?_
      show PV.agg [PV.sl 1 false (List.take w.path.length (List.drop 0 (w.path.map eI))), eI w.to] = PV.agg [PV.sl 1 false (w.path.map eI), eI w.to]
      rw [List.drop_zero, List.take_of_length_le (by simp)]
theorem putR_icalls (ways : List Wy) (k cap : Nat) (w : Wy) (r : List PV) (n : Nat) (hr : r = w.path.map eI) (hn : n = w.path.length) (hk : k ≤ ways.length) (hl : ways.length < 1000000) (hw : w.path.length < 1000000) (hcap : hasW ways w.to = false → ways.length < cap + k) :
    ICalls Try.prog 33 5 [(0, .cells [.mp 1]), (1, .map KTi (eM eI PV.bool (metM ways))), (2, .cells [.ch 3]), (3, .chan cap ((ways.drop k).map eW)), (4, .row 1 r)]
      [.agg [.rsl 4 1 0 n, .p (eI w.to)], .ptr 0 0, .ptr 2 0] (.tup [])
      [(0, .cells [.mp 1]), (1, .map KTi (eM eI PV.bool (metM (putW ways w)))), (2, .cells [.ch 3]), (3, .chan cap (((putW ways w).drop k).map eW)), (4, .dead)] := by
  subst hr; subst hn
  exact put_icalls ways k cap w hk hl hw hcap
end Go.Proofs.Ythlpjjnfcpjgoaa

namespace Go.Proofs.Ythlpjjnfcpjgoaa
open Go Go.Sg
set_option maxRecDepth 100000
set_option maxHeartbeats 20000000
/-! ### The search, plainly -/
theorem len_sub : ∀ {a b : List Int}, a.Nodup → (∀ x ∈ a, x ∈ b) → a.length ≤ b.length
  | [], _, _, _ => Nat.zero_le _
  | x :: r, b, hn, hs => by
    simp only [List.nodup_cons] at hn
    have hx := hs x (by simp)
    have h1 := len_sub (a := r) (b := b.erase x) hn.2 (fun y hy => (List.mem_erase_of_ne (fun e => hn.1 (by subst e; exact hy))).2 (hs y (by simp [hy])))
    have h2 := List.length_erase_of_mem hx
    have h3 := List.length_pos_of_mem hx
    simp only [List.length_cons]; omega
structure OkW (S : List It) (ways : List Wy) : Prop where
  nd : (ways.map Wy.to).Nodup
  mem : ∀ w ∈ ways, w.to ∈ S.map It.party ∧ w.path.length ≤ 8
theorem OkW.nil (S : List It) : OkW S [] := ⟨List.nodup_nil, fun _ h => by cases h⟩
theorem OkW.len {S : List It} {ways : List Wy} (h : OkW S ways) : ways.length ≤ S.length := by
  have := len_sub h.nd (b := S.map It.party) (fun x hx => by
    obtain ⟨w, hw, rfl⟩ := List.mem_map.1 hx
    exact (h.mem w hw).1)
  simpa using this
theorem hasW_mem {ways : List Wy} {n : Int} : hasW ways n = false ↔ n ∉ ways.map Wy.to := by
  unfold hasW
  rw [List.any_eq_false]
  constructor
  · intro h hn
    obtain ⟨w, hw, e⟩ := List.mem_map.1 hn
    exact h w hw (decide_eq_true e)
  · intro h w hw e
    exact h (List.mem_map.2 ⟨w, hw, of_decide_eq_true e⟩)
theorem OkW.app {S : List It} {ways : List Wy} (h : OkW S ways) {w : Wy} (hn : hasW ways w.to = false) (hp : w.to ∈ S.map It.party) (hl : w.path.length ≤ 8) : OkW S (ways ++ [w]) := by
  refine ⟨?_, fun v hv => ?_⟩
  · rw [List.map_append, List.nodup_append]
    refine ⟨h.nd, by simp, fun a ha b hb => ?_⟩
    simp at hb; subst hb
    exact fun e => hasW_mem.1 hn (e ▸ ha)
  · rcases List.mem_append.1 hv with hv | hv
    · exact h.mem v hv
    · simp at hv; subst hv; exact ⟨hp, hl⟩
theorem OkW.put {S : List It} {ways : List Wy} (h : OkW S ways) {w : Wy} (hp : w.to ∈ S.map It.party) (hl : w.path.length ≤ 8) : OkW S (putW ways w) := by
  unfold putW
  cases hn : hasW ways w.to with
  | true => exact h
  | false => exact h.app hn hp hl
theorem OkW.room {S : List It} {ways : List Wy} (h : OkW S ways) {w : Wy} (hn : hasW ways w.to = false) (hp : w.to ∈ S.map It.party) : ways.length < S.length := by
  have := (h.app (w := ⟨[], w.to⟩) hn hp (by simp)).len
  simp at this; omega
theorem putW_pre (ways : List Wy) (w : Wy) : ∃ z, putW ways w = ways ++ z := by
  unfold putW
  split
  · exact ⟨[], by simp⟩
  · exact ⟨[w], rfl⟩
def iniStep (who : Int) (ws : List Wy) (x : It) : List Wy := if !x.of_ && decide (x.person = who) then putW ws ⟨[x.no], x.party⟩ else ws
def iniW (who : Int) (S : List It) : List Wy := S.foldl (iniStep who) []
theorem iniW_take {who : Int} {S : List It} {i : Nat} {x : It} (h : S[i]? = some x) : iniW who (S.take (i + 1)) = iniStep who (iniW who (S.take i)) x := by
  unfold iniW; rw [List.take_add_one, h]; simp [List.foldl_append]
theorem ini_ok {S : List It} (who : Int) : ∀ i, OkW S (iniW who (S.take i)) := by
  intro i
  induction i with
  | zero => exact OkW.nil S
  | succ i ih =>
    cases hx : S[i]? with
    | none => rw [List.take_add_one, hx]; simpa using ih
    | some x =>
      rw [iniW_take hx]
      unfold iniStep
      split
      · exact ih.put (List.mem_map.2 ⟨x, List.mem_of_getElem? hx, rfl⟩) (by simp)
      · exact ih
abbrev Frm := List (Int × List It)
def updF (m : Frm) (x : It) : Frm := if x.of_ then aput x.person ((aget x.person m).getD [] ++ [x]) m else m
def frM (S : List It) : Frm := S.foldl updF []
theorem frM_take {S : List It} {i : Nat} {x : It} (h : S[i]? = some x) : frM (S.take (i + 1)) = updF (frM (S.take i)) x := by
  unfold frM; rw [List.take_add_one, h]; simp [List.foldl_append]
def frm (S : List It) (p : Int) : List It := S.filter fun x => x.of_ && decide (x.person = p)
theorem frM_get (S : List It) (p : Int) : ∀ i, (aget p (frM (S.take i))).getD [] = frm (S.take i) p := by
  intro i
  induction i with
  | zero => rfl
  | succ i ih =>
    cases hx : S[i]? with
    | none => rw [List.take_add_one, hx]; simpa using ih
    | some x =>
      rw [frM_take hx]
      unfold frm at ih ⊢
      rw [filter_take _ hx]
      unfold updF
      cases ho : x.of_ with
      | false => simpa using ih
      | true =>
        simp only [if_true, Bool.true_and]
        rw [aget_put]
        by_cases hp : p = x.person
        · subst hp
          rw [if_pos rfl, decide_eq_true rfl, if_pos rfl]
          rw [Option.getD_some, ih]
        · rw [if_neg hp, ih, decide_eq_false (fun e => hp e.symm)]; simp
theorem frm_mem {S : List It} {p : Int} {x : It} (h : x ∈ frm S p) : x ∈ S := (List.mem_filter.1 h).1
def expW (w : Wy) (L : List It) (ways : List Wy) : List Wy := L.foldl (fun ws x => putW ws ⟨w.path ++ [x.no], x.party⟩) ways
theorem expW_take {w : Wy} {L : List It} {ways : List Wy} {i : Nat} {x : It} (h : L[i]? = some x) : expW w (L.take (i + 1)) ways = putW (expW w (L.take i) ways) ⟨w.path ++ [x.no], x.party⟩ := by
  unfold expW; rw [List.take_add_one, h]; simp [List.foldl_append]
theorem exp_ok {S L : List It} {w : Wy} {ways : List Wy} (h : OkW S ways) (hL : ∀ x ∈ L, x ∈ S) (hw : w.path.length ≤ 7) : ∀ i, OkW S (expW w (L.take i) ways) := by
  intro i
  induction i with
  | zero => exact h
  | succ i ih =>
    cases hx : L[i]? with
    | none => rw [List.take_add_one, hx]; simpa using ih
    | some x =>
      rw [expW_take hx]
      exact ih.put (List.mem_map.2 ⟨x, hL x (List.mem_of_getElem? hx), rfl⟩) (by simp; omega)
theorem exp_pre {L : List It} {w : Wy} {ways : List Wy} : ∀ i, ∃ z, expW w (L.take i) ways = ways ++ z := by
  intro i
  induction i with
  | zero => exact ⟨[], by simp [expW]⟩
  | succ i ih =>
    cases hx : L[i]? with
    | none => rw [List.take_add_one, hx]; simpa using ih
    | some x =>
      rw [expW_take hx]
      obtain ⟨z, hz⟩ := ih
      rw [hz]
      obtain ⟨y, hy⟩ := putW_pre (ways ++ z) ⟨w.path ++ [x.no], x.party⟩
      rw [hy]; exact ⟨z ++ y, by simp⟩
def srch (P : List Int) (S : List It) : Nat → List Wy → Nat → List Int × Bool
  | 0, _, _ => ([], false)
  | n + 1, ways, k => match ways[k]? with
    | none => ([], false)
    | some w => if hasB P w.to then (w.path, true) else if w.path.length = 8 then srch P S n ways (k + 1) else srch P S n (expW w (frm S w.to) ways) (k + 1)
def conF (S : List It) (P : List Int) (who : Int) : List Int × Bool := srch P S (S.length + 1) (iniW who S) 0
def conA (l : List It) (who : Int) (P : List Int) (t k : Int) : List Int × Bool × Int := if examA l who P t k = 0 then ((conF (stL t k l) P who).1, (conF (stL t k l) P who).2, 0) else ([], false, examA l who P t k)
abbrev eC (x : List Int × Bool × Int) : PV := .tup [eIs x.1, .bool x.2.1, eI x.2.2]
theorem srch_none {P : List Int} {S : List It} {n : Nat} {ways : List Wy} {k : Nat} (h : ways[k]? = none) : srch P S (n + 1) ways k = ([], false) := by simp only [srch, h]
theorem srch_some {P : List Int} {S : List It} {n : Nat} {ways : List Wy} {k : Nat} {w : Wy} (h : ways[k]? = some w) : srch P S (n + 1) ways k = if hasB P w.to then (w.path, true) else if w.path.length = 8 then srch P S n ways (k + 1) else srch P S n (expW w (frm S w.to) ways) (k + 1) := by simp only [srch, h]
/-- What a binary search among the parties says. -/
theorem hasN_hasB {P : List Int} {n : Int} (h : P.Pairwise (fun a b => id a < id b)) : hasN id n P = hasB P n := by
  unfold hasN
  rw [Bool.eq_iff_iff]
  have hle := posN_le id n P
  constructor
  · intro hh
    cases hx : P[posN id n P]? with
    | none => rw [hx] at hh; cases hh
    | some y => rw [hx] at hh; exact hasB_yes hx (of_decide_eq_true hh)
  · intro hh
    obtain ⟨x, hx, e⟩ := List.any_eq_true.1 hh
    have e : x = n := of_decide_eq_true e
    obtain ⟨j, hj⟩ := List.getElem?_of_mem hx
    have hp : posN id n P = j := posN_eq id P n j (by have := (List.getElem?_eq_some_iff.1 hj).1; omega) (fun i w hi hw => by
      rw [List.pairwise_iff_getElem] at h
      have hij := h i j (by have := (List.getElem?_eq_some_iff.1 hw).1; exact this) (by have := (List.getElem?_eq_some_iff.1 hj).1; exact this) hi
      rw [(List.getElem?_eq_some_iff.1 hw).2, (List.getElem?_eq_some_iff.1 hj).2] at hij
      exact e ▸ hij) (fun y hy => by rw [hj] at hy; injection hy with hy; subst hy; show n ≤ x; omega)
    rw [hp, hj]
    exact decide_eq_true e
end Go.Proofs.Ythlpjjnfcpjgoaa

namespace Go.Proofs.Ythlpjjnfcpjgoaa
open Go Go.Sg
set_option maxRecDepth 100000
set_option maxHeartbeats 40000000
abbrev eF (m : Frm) : List (PV × List PV) := eM eI (fun l : List It => l.map eA) m
theorem frf (p : Int) (m : Frm) : mfind (eI p) (hM (eF m)) = (aget p m).map fun l => MV.h (l.map eA) := by
  rw [mfind_hM, mfind_map (fun l : List It => l.map eA) keyI]
  cases aget p m <;> rfl
theorem frs (p : Int) (m : Frm) : mfind (eI p) (shM 7 (eF m)) = (aget p m).map fun l => PV.sl 7 false (l.map eA) := by
  rw [mfind_shM, mfind_map (fun l : List It => l.map eA) keyI]
  cases aget p m <;> rfl
theorem frM_len {S : List It} {p : Int} {i : Nat} {z : List It} (h : aget p (frM (S.take i)) = some z) : z.length ≤ S.length := by
  have := frM_get S p i
  rw [h] at this
  have this : z = frm (S.take i) p := this
  rw [this]
  have h1 := List.length_filter_le (fun x : It => x.of_ && decide (x.person = p)) (S.take i)
  rw [List.length_take] at h1
  unfold frm; omega
theorem fr_put (p : Int) (L : List It) (m : Frm) : mput (eI p) (.h (L.map eA)) (hM (eF m)) = hM (eF (aput p L m)) := by
  rw [mput_hM]
  exact congrArg hM (mput_map (fun l : List It => l.map eA) keyI p L m)
theorem eqI (p : Int) : eqPs (eI p).cells (eI p).cells = true := (keyI.eq p p).trans (decide_eq_true rfl)
section
variable {S : List It} {who : Int} {i : Nat} {y : It}
theorem frM_of (h : S[i]? = some y) (ho : y.of_ = true) : frM (S.take (i + 1)) = aput y.person ((aget y.person (frM (S.take i))).getD [] ++ [y]) (frM (S.take i)) := by
  rw [frM_take h]; unfold updF; rw [if_pos ho]
theorem frM_no (h : S[i]? = some y) (ho : y.of_ = false) : frM (S.take (i + 1)) = frM (S.take i) := by
  rw [frM_take h]; unfold updF; rw [ho]; rfl
theorem iniW_of (h : S[i]? = some y) (ho : y.of_ = true) : iniW who (S.take (i + 1)) = iniW who (S.take i) := by
  rw [iniW_take h]; unfold iniStep; rw [ho]; rfl
theorem iniW_yes (h : S[i]? = some y) (ho : y.of_ = false) (hp : y.person = who) : iniW who (S.take (i + 1)) = putW (iniW who (S.take i)) ⟨[y.no], y.party⟩ := by
  rw [iniW_take h]; unfold iniStep; rw [ho, decide_eq_true hp]; rfl
theorem iniW_no (h : S[i]? = some y) (ho : y.of_ = false) (hp : ¬ y.person = who) : iniW who (S.take (i + 1)) = iniW who (S.take i) := by
  rw [iniW_take h]; unfold iniStep; rw [ho, decide_eq_false hp]; rfl
end
theorem conflict_calls (l : List It) (who : Int) (P : List Int) (t k : Int) (hl : l.length < 1000000) (hP : P.length < 1000000) : PCalls Try.prog 16 [eL l, eI who, eIs P, eI t, eI k] (eC (conA l who P t k)) := by
  have q1 := exam_calls l who P t k hl hP
  unfold conA
  by_cases hz : examA l who P t k = 0
  · rw [hz] at q1
    rw [if_pos hz]
    obtain ⟨hchk, harg⟩ := examA_ok hz
    have hsrt := okP_srt (argB_ok harg).1
    have q2 := standing_calls l t k hl
    refine PCalls.of (N := 111) (res := [.tmp 10, .tmp 11, .tmp 12]) mixed Try.func16 rfl rfl rfl (by kernel_rfl) (by simp) [0, 1, 2, 3, 4, 6, 10, 11, 12, 13, 14, 15, 16, 17, 18, 19, 21, 23, 31, 42, 43, 44, 57, 72, 82, 88, 92, 93, 94, 95] ?_
    repeat' (first | exact cl1 | ((with_reducible show Exists _); first | exact exHM _ | refine exU8 ?_) | ((with_reducible show callX _ _ _ _ _); (first | refine call_p (q1) (by kernel_rfl) rfl ?_ | refine call_p (q2) (by kernel_rfl) rfl ?_)) | ((fail_if_success with_reducible first | show LeG _ _ | show Lp _ _ _ _ | show Exists _ | show callX _ _ _ _ _ | show (_ : Int) ≤ _ | show (_ : Int) < _ | show (_ : Nat) ≤ _ | show (_ : Nat) < _); (conv => whnf) <;> (first | exact cl2 | refine XAlt.l ?_ | refine Sq.pr ?_ | refine Br.dec (fun hc => ?_) (fun hc => ?_) | refine Br.tt ?_ | refine Br.ff ?_ | refine Br.not ?_ | refine Br.mk (fun hc => ?_) (fun hc => ?_) | refine Opt.nn ?_ | refine Opt.ss ?_ | refine AltA.l ?_ | exact PV.leL_nil | refine PV.leL_cons ?_ ?_ | refine And.intro ?_ ?_ | refine ix_map (fun x hx => ?_) | refine exU8 ?_ | refine nilc (fun hn => ?_) ?_ | exact cl3 | refine imp0 (fun hpos => ?_) | refine fits_i64 ?_ ?_ | exact rfl | exact trivial | (with_reducible first | show LeG _ _ | show Lp _ _ _ _ | show Exists _ | show callX _ _ _ _ _)))) <;> (try exact cl5)
    have hit := stand_iter l (foldM t k l) hl
    have hFl : (l.filter (stB (foldM t k l))).length ≤ (l.map eA).length := by rw [List.length_map]; exact List.length_filter_le _ _
    have hFl2 : (l.filter (stB (foldM t k l))).length < 1000000 := by have := List.length_filter_le (stB (foldM t k l)) l; omega
    have hxs : ∀ x ∈ ((l.filter (stB (foldM t k l))).map fun y => [eA y]), x.length = 1 := fun x hx => by
      obtain ⟨y, _, rfl⟩ := List.mem_map.1 hx; rfl
    have hget : ∀ i y, (l.filter (stB (foldM t k l)))[i]? = some y → ((l.filter (stB (foldM t k l))).map fun y => [eA y]).getD i [] = [eA y] := fun i y h => by simp [List.getD, h]
    show Lp _ _ _ _
    change Lp _ _ _ _
    unfold stL
    generalize l.filter (stB (foldM t k l)) = S at *
    refine Lp.mapS0 832 7 rfl ?_
    refine Wpc.range mixed hit (by kernel_rfl) rfl [0, 1, 2, 3, 4, 6, 10, 11, 12, 13, 14, 15, 16, 17, 18, 19, 21, 23, 31, 42, 43, 44, 57, 72, 82, 88, 92, 93, 94, 95] S.length [0, 832, 896, 1024, 1088, 1344, 1408, 1600] (fun i => ([(832, .mapS KTi 7 (hM (eF (frM (S.take i))))), (1600, .cells [.fn (.func 33) [] [.ptr 1088 0, .ptr 1408 0]]), (1408, .cells [.ch 1344]), (1344, .chan (l.map eA).length ((iniW who (S.take i)).map eW)), (1088, .cells [.mp 1024]), (1024, .map KTi (eM eI PV.bool (metM (iniW who (S.take i))))), (896, .cells [.mp 832]), (0, .cells [.p (eI who)])], 1984)) rfl (hen_of rfl) (by simp) (by simp) hxs (fun i hi hm => ?_) (fun _ => ?_)
    · rw [List.length_map] at hi
      obtain ⟨y, hy⟩ : ∃ y, S[i]? = some y := ⟨_, List.getElem?_eq_getElem hi⟩
      rw [hget i y hy]
      have hlen : ∀ z, aget y.person (frM (S.take i)) = some z → (z.map eA).length < 1000000 := fun z hz => by have := frM_len hz; rw [List.length_map]; omega
      have hok := ini_ok (S := S) who i
      have hwl := hok.len
      have hpm : y.party ∈ S.map It.party := List.mem_map.2 ⟨y, List.mem_of_getElem? hy, rfl⟩
      have pc := putR_icalls (iniW who (S.take i)) 0 (l.map eA).length ⟨[y.no], y.party⟩ [eI y.no] 1 rfl rfl (Nat.zero_le _) (by omega) (by show 1 < 1000000; decide) (fun hn => by have := hok.room (w := ⟨[y.no], y.party⟩) hn hpm; omega)
      dsimp only
      repeat' (first | exact cl1 | ((with_reducible show Exists _); first | exact exHM _ | refine exU8 ?_) | ((with_reducible show callX _ _ _ _ _); (first | refine call_i [1088, 1024, 1408, 1344, 2816] (pc) (by kernel_rfl) rfl rfl (by decide) cl6 (fun i hi => by match i, hi with | 0, _ => rfl | 1, _ => rfl | 2, _ => rfl | 3, _ => rfl | 4, _ => rfl) cl7 cl8 (by simp [keys]) ?_)) | ((fail_if_success with_reducible first | show LeG _ _ | show Lp _ _ _ _ | show Exists _ | show callX _ _ _ _ _ | show (_ : Int) ≤ _ | show (_ : Int) < _ | show (_ : Nat) ≤ _ | show (_ : Nat) < _); (conv => whnf) <;> (first | exact cl2 | refine Opt.of (frf y.person (frM (S.take i))) (fun z hz => (fun hzl => ?_) (hlen z hz)) (fun hz => ?_) | refine XAlt.l ?_ | refine Sq.pr ?_ | refine Br.dec (fun hc => ?_) (fun hc => ?_) | refine Br.tt ?_ | refine Br.ff ?_ | refine Br.not ?_ | refine Br.mk (fun hc => ?_) (fun hc => ?_) | refine Opt.nn ?_ | refine Opt.ss ?_ | refine AltA.l ?_ | exact PV.leL_nil | refine PV.leL_cons ?_ ?_ | refine And.intro ?_ ?_ | refine ix_map (fun x hx => ?_) | refine exU8 ?_ | refine nilc (fun hn => ?_) ?_ | exact cl3 | refine imp0 (fun hpos => ?_) | refine fits_i64 ?_ ?_ | exact rfl | exact trivial | (with_reducible first | show LeG _ _ | show Lp _ _ _ _ | show Exists _ | show callX _ _ _ _ _)))) <;> (try exact cl5)
      all_goals (refine Ent.ofK [] ?_) <;> (repeat' (first | exact trivial | refine HpLe.dd ?_ | refine HpLe.mk rfl (by simp) rfl (fun h => AObj.noConfusion h) ?_ ?_ | refine And.intro ?_ ?_ | exact cl9 | refine VLe.pe ?_ | refine VLe.agg ?_ | refine VLe.tup ?_ | refine VLe.fn ?_ ?_ | refine VLeL.cons ?_ ?_ | exact VLeL.nil | exact OLe.row _ _ | rfl | refine VLe.rsle rfl ?_ ?_ ?_ | refine OLe.rowe2 ?_ ?_ | refine OLe.mape ?_ ?_ | refine OLe.iter0 ?_ | refine OLe.itere ?_ ?_ | refine OLe.chane ?_ ?_ | refine OLe.mapSe ?_ ?_ ?_ | exact OLe.mapS0 rfl)) <;> try (first | (simp; done) | (congr 1; omega) | (congr 1; (first | (simp; done) | (simp; omega))))
      · rw [frM_of hy hc, hz]
        refine (mput_mput (eqI _) _ _ _).trans ?_
        refine Eq.trans ?_ (fr_put y.person (z ++ [y]) _)
        rw [List.map_append]; rfl
      · rw [iniW_of hy hc]
      · rw [iniW_of hy hc]
      · rw [frM_of hy hc, hz]
        exact fr_put y.person [y] _
      · rw [iniW_of hy hc]
      · rw [iniW_of hy hc]
      · rename_i ho
        rw [frM_no hy ho]
      · rename_i ho
        rw [iniW_yes hy ho hc, List.drop_zero]
      · rename_i ho
        rw [iniW_yes hy ho hc]
      · rename_i ho
        rw [frM_no hy ho]
      · rename_i ho
        rw [iniW_no hy ho hc]
      · rename_i ho
        rw [iniW_no hy ho hc]
    · have eT : S.take (S.map fun y => [eA y]).length = S := by rw [List.length_map, List.take_length]
      show Kt.n _ ⟨_, [(832, .mapS KTi 7 (hM (eF (frM (S.take (S.map fun y => [eA y]).length))))), (1600, .cells [.fn (.func 33) [] [.ptr 1088 0, .ptr 1408 0]]), (1408, .cells [.ch 1344]), (1344, .chan (l.map eA).length ((iniW who (S.take (S.map fun y => [eA y]).length)).map eW)), (1088, .cells [.mp 1024]), (1024, .map KTi (eM eI PV.bool (metM (iniW who (S.take (S.map fun y => [eA y]).length))))), (896, .cells [.mp 832]), (0, _)], 1984, 0⟩
      rw [eT]
      (conv => whnf)
      refine Sq.shut 832 rfl (by decide) ?_
      repeat' (first | exact cl1 | ((with_reducible show Exists _); first | exact exHM _ | refine exU8 ?_) | ((fail_if_success with_reducible first | show LeG _ _ | show Lp _ _ _ _ | show Exists _ | show callX _ _ _ _ _ | show (_ : Int) ≤ _ | show (_ : Int) < _ | show (_ : Nat) ≤ _ | show (_ : Nat) < _); (conv => whnf) <;> (first | exact cl2 | refine XAlt.l ?_ | refine Sq.pr ?_ | refine Br.dec (fun hc => ?_) (fun hc => ?_) | refine Br.tt ?_ | refine Br.ff ?_ | refine Br.not ?_ | refine Br.mk (fun hc => ?_) (fun hc => ?_) | refine Opt.nn ?_ | refine Opt.ss ?_ | refine AltA.l ?_ | exact PV.leL_nil | refine PV.leL_cons ?_ ?_ | refine And.intro ?_ ?_ | refine ix_map (fun x hx => ?_) | refine exU8 ?_ | refine nilc (fun hn => ?_) ?_ | exact cl3 | refine imp0 (fun hpos => ?_) | refine fits_i64 ?_ ?_ | exact rfl | exact trivial | (with_reducible first | show LeG _ _ | show Lp _ _ _ _ | show Exists _ | show callX _ _ _ _ _)))) <;> (try exact cl5)
      have hok0 : OkW S (iniW who S) := by have := ini_ok (S := S) who S.length; rwa [List.take_length] at this
      refine Wpc.loopA (α := {x : List Wy × Nat × List Wy // x.2.2 = x.1.drop x.2.1 ∧ OkW S x.1 ∧ x.2.1 ≤ x.1.length ∧ srch P S (S.length + 1 - x.2.1) x.1 x.2.1 = conF S P who}) mixed [0, 1, 2, 3, 4, 6, 10, 11, 12, 13, 14, 15, 16, 17, 18, 19, 21, 23, 31, 42, 43, 44, 57, 72, 82, 88, 92, 93, 94, 95] (fun _ => []) (fun x => [(1344, .chan (l.map eA).length (x.1.2.2.map eW)), (1024, .map KTi (eM eI PV.bool (metM x.1.1)))]) (fun _ => 0) (fun x => S.length + 1 - x.1.2.1) ⟨(iniW who S, 0, iniW who S), rfl, hok0, Nat.zero_le _, rfl⟩ ?_ ?_
      · (first | refine Ent.ofA [] ?_ | refine Ent.ofC [] ?_) <;> (repeat' (first | exact trivial | refine HpLe.dd ?_ | refine HpLe.mk rfl (by simp) rfl (fun h => AObj.noConfusion h) ?_ ?_ | refine And.intro ?_ ?_ | exact cl9 | refine VLe.pe ?_ | refine VLe.agg ?_ | refine VLe.tup ?_ | refine VLe.fn ?_ ?_ | refine VLeL.cons ?_ ?_ | exact VLeL.nil | exact OLe.row _ _ | rfl | refine VLe.rsle rfl ?_ ?_ ?_ | refine OLe.rowe2 ?_ ?_ | refine OLe.mape ?_ ?_ | refine OLe.iter0 ?_ | refine OLe.itere ?_ ?_ | refine OLe.chane ?_ ?_ | refine OLe.mapSe ?_ ?_ ?_ | exact OLe.mapS0 rfl)) <;> try (first | (simp; done) | (congr 1; omega) | (congr 1; (first | (simp; done) | (simp; omega))))
      rintro ⟨⟨ways, kk, rest⟩, hr, hok, hkk, hq⟩
      have hr : rest = ways.drop kk := hr
      have hok : OkW S ways := hok
      have hkk : kk ≤ ways.length := hkk
      have hq : srch P S (S.length + 1 - kk) ways kk = conF S P who := hq
      have hwl := hok.len
      have hwl2 : ways.length < 1000000 := by omega
      cases rest with
      | nil =>
        have hge : ways.length ≤ kk := List.drop_eq_nil_iff.1 hr.symm
        have hn : ways[kk]? = none := List.getElem?_eq_none hge
        have hno : ¬ (0 : Int) < (([] : List PV).length : Int) := by decide
        repeat' (first | exact cl1 | ((with_reducible show Exists _); first | exact exHM _ | refine exU8 ?_) | ((fail_if_success with_reducible first | show LeG _ _ | show Lp _ _ _ _ | show Exists _ | show callX _ _ _ _ _ | show (_ : Int) ≤ _ | show (_ : Int) < _ | show (_ : Nat) ≤ _ | show (_ : Nat) < _); (conv => whnf) <;> (first | exact cl2 | refine Br.dec (fun hc => absurd hc hno) (fun hc => ?_) | refine XAlt.l ?_ | refine Sq.pr ?_ | refine Br.dec (fun hc => ?_) (fun hc => ?_) | refine Br.tt ?_ | refine Br.ff ?_ | refine Br.not ?_ | refine Br.mk (fun hc => ?_) (fun hc => ?_) | refine Opt.nn ?_ | refine Opt.ss ?_ | refine AltA.l ?_ | exact PV.leL_nil | refine PV.leL_cons ?_ ?_ | refine And.intro ?_ ?_ | refine ix_map (fun x hx => ?_) | refine exU8 ?_ | refine nilc (fun hn => ?_) ?_ | exact cl3 | refine imp0 (fun hpos => ?_) | refine fits_i64 ?_ ?_ | exact rfl | exact trivial | (with_reducible first | show LeG _ _ | show Lp _ _ _ _ | show Exists _ | show callX _ _ _ _ _)))) <;> (try exact cl5)
        show LeG (PV.tup [PV.sl 0 true [], PV.bool false, eI 0]) (eC ((conF S P who).1, (conF S P who).2, 0))
        rw [← hq, show S.length + 1 - kk = (S.length - kk) + 1 by omega, srch_none hn]
        exact LeG.mk (PV.le_tup (PV.leL_cons (PV.le_nil _ _ _) (PV.leL_cons (PV.le_refl _) (PV.leL_cons (PV.le_refl _) PV.leL_nil))))
      | cons w r =>
        have hlt : kk < ways.length := by
          rcases Nat.lt_or_ge kk ways.length with h | h
          · exact h
          · rw [List.drop_eq_nil_of_le h] at hr; cases hr
        have hw2 := List.drop_eq_getElem_cons hlt
        rw [← hr] at hw2
        injection hw2 with hw3 hr2
        have hw : ways[kk]? = some w := by rw [hw3]; exact List.getElem?_eq_getElem hlt
        have hyes : (0 : Int) < (((w :: r).map eW).length : Int) := by rw [List.length_map, List.length_cons]; omega
        have hwm := hok.mem w (List.mem_of_getElem? hw)
        rw [show S.length + 1 - kk = (S.length - kk) + 1 by omega, srch_some hw] at hq
        have qb := bsi_calls w.to P hP hsrt
        rw [hasN_hasB hsrt] at qb
        cases hb : hasB P w.to with
        | true =>
          rw [hb] at qb
          rw [hb, if_pos rfl] at hq
          repeat' (first | exact cl1 | ((with_reducible show Exists _); first | exact exHM _ | refine exU8 ?_) | ((with_reducible show callX _ _ _ _ _); (first | refine call_p (qb) (by kernel_rfl) rfl ?_)) | ((fail_if_success with_reducible first | show LeG _ _ | show Lp _ _ _ _ | show Exists _ | show callX _ _ _ _ _ | show (_ : Int) ≤ _ | show (_ : Int) < _ | show (_ : Nat) ≤ _ | show (_ : Nat) < _); (conv => whnf) <;> (first | exact cl2 | refine Br.dec (fun hc => ?_) (fun hc => absurd hyes hc) | refine XAlt.l ?_ | refine Sq.pr ?_ | refine Br.dec (fun hc => ?_) (fun hc => ?_) | refine Br.tt ?_ | refine Br.ff ?_ | refine Br.not ?_ | refine Br.mk (fun hc => ?_) (fun hc => ?_) | refine Opt.nn ?_ | refine Opt.ss ?_ | refine AltA.l ?_ | exact PV.leL_nil | refine PV.leL_cons ?_ ?_ | refine And.intro ?_ ?_ | refine ix_map (fun x hx => ?_) | refine exU8 ?_ | refine nilc (fun hn => ?_) ?_ | exact cl3 | refine imp0 (fun hpos => ?_) | refine fits_i64 ?_ ?_ | exact rfl | exact trivial | (with_reducible first | show LeG _ _ | show Lp _ _ _ _ | show Exists _ | show callX _ _ _ _ _)))) <;> (try exact cl5)
          show LeG (PV.tup [eIs w.path, PV.bool true, eI 0]) (eC ((conF S P who).1, (conF S P who).2, 0))
          rw [← hq]; exact LeG.refl _
        | false =>
          rw [hb] at qb
          rw [hb, if_neg Bool.false_ne_true] at hq
          by_cases h8 : w.path.length = 8
          · rw [if_pos h8] at hq
            have h8' : ((w.path.map eI).length : Int) = 8 := by rw [List.length_map]; omega
            repeat' (first | exact cl1 | ((with_reducible show Exists _); first | exact exHM _ | refine exU8 ?_) | ((with_reducible show callX _ _ _ _ _); (first | refine call_p (qb) (by kernel_rfl) rfl ?_)) | ((fail_if_success with_reducible first | show LeG _ _ | show Lp _ _ _ _ | show Exists _ | show callX _ _ _ _ _ | show (_ : Int) ≤ _ | show (_ : Int) < _ | show (_ : Nat) ≤ _ | show (_ : Nat) < _); (conv => whnf) <;> (first | exact cl2 | refine Br.dec (fun hc => ?_) (fun hc => absurd hyes hc) | refine Br.dec (fun hc => ?_) (fun hc => absurd h8' hc) | refine XAlt.l ?_ | refine Sq.pr ?_ | refine Br.dec (fun hc => ?_) (fun hc => ?_) | refine Br.tt ?_ | refine Br.ff ?_ | refine Br.not ?_ | refine Br.mk (fun hc => ?_) (fun hc => ?_) | refine Opt.nn ?_ | refine Opt.ss ?_ | refine AltA.l ?_ | exact PV.leL_nil | refine PV.leL_cons ?_ ?_ | refine And.intro ?_ ?_ | refine ix_map (fun x hx => ?_) | refine exU8 ?_ | refine nilc (fun hn => ?_) ?_ | exact cl3 | refine imp0 (fun hpos => ?_) | refine fits_i64 ?_ ?_ | exact rfl | exact trivial | (with_reducible first | show LeG _ _ | show Lp _ _ _ _ | show Exists _ | show callX _ _ _ _ _)))) <;> (try exact cl5)
            refine ⟨⟨(ways, kk + 1, r), hr2, hok, hlt, by rw [show S.length + 1 - (kk + 1) = S.length - kk by omega]; exact hq⟩, by show S.length + 1 - (kk + 1) < S.length + 1 - kk; omega, ?_⟩
            (first | refine Ent.ofA [] ?_ | refine Ent.ofC [] ?_) <;> (repeat' (first | exact trivial | refine HpLe.dd ?_ | refine HpLe.mk rfl (by simp) rfl (fun h => AObj.noConfusion h) ?_ ?_ | refine And.intro ?_ ?_ | exact cl9 | refine VLe.pe ?_ | refine VLe.agg ?_ | refine VLe.tup ?_ | refine VLe.fn ?_ ?_ | refine VLeL.cons ?_ ?_ | exact VLeL.nil | exact OLe.row _ _ | rfl | refine VLe.rsle rfl ?_ ?_ ?_ | refine OLe.rowe2 ?_ ?_ | refine OLe.mape ?_ ?_ | refine OLe.iter0 ?_ | refine OLe.itere ?_ ?_ | refine OLe.chane ?_ ?_ | refine OLe.mapSe ?_ ?_ ?_ | exact OLe.mapS0 rfl)) <;> try (first | (simp; done) | (congr 1; omega) | (congr 1; (first | (simp; done) | (simp; omega))))
          · rw [if_neg h8] at hq
            have h8' : ¬ ((w.path.map eI).length : Int) = 8 := by rw [List.length_map]; omega
            repeat' (first | exact cl1 | ((with_reducible show Exists _); first | exact exHM _ | refine exU8 ?_) | ((with_reducible show callX _ _ _ _ _); (first | refine call_p (qb) (by kernel_rfl) rfl ?_)) | ((fail_if_success with_reducible first | show LeG _ _ | show Lp _ _ _ _ | show Exists _ | show callX _ _ _ _ _ | show (_ : Int) ≤ _ | show (_ : Int) < _ | show (_ : Nat) ≤ _ | show (_ : Nat) < _); (conv => whnf) <;> (first | exact cl2 | refine Br.dec (fun hc => ?_) (fun hc => absurd hyes hc) | refine Br.dec (fun hc => absurd hc h8') (fun hc => ?_) | refine Opt.of (frs w.to (frM S)) (fun z hz => ?_) (fun hz => ?_) | refine XAlt.l ?_ | refine Sq.pr ?_ | refine Br.dec (fun hc => ?_) (fun hc => ?_) | refine Br.tt ?_ | refine Br.ff ?_ | refine Br.not ?_ | refine Br.mk (fun hc => ?_) (fun hc => ?_) | refine Opt.nn ?_ | refine Opt.ss ?_ | refine AltA.l ?_ | exact PV.leL_nil | refine PV.leL_cons ?_ ?_ | refine And.intro ?_ ?_ | refine ix_map (fun x hx => ?_) | refine exU8 ?_ | refine nilc (fun hn => ?_) ?_ | exact cl3 | refine imp0 (fun hpos => ?_) | refine fits_i64 ?_ ?_ | exact rfl | exact trivial | (with_reducible first | show LeG _ _ | show Lp _ _ _ _ | show Exists _ | show callX _ _ _ _ _)))) <;> (try exact cl5)
            · have hfz : frm S w.to = z := by
                have := frM_get S w.to S.length
                rw [List.take_length, hz] at this; exact this.symm
              have hzS : ∀ x ∈ z, x ∈ S := fun x hx => by rw [← hfz] at hx; exact frm_mem hx
              have hzl : z.length < 1000000 := by
                have := List.length_filter_le (fun x : It => x.of_ && decide (x.person = w.to)) S
                unfold frm at hfz; rw [hfz] at this; omega
              have hp7 : w.path.length ≤ 7 := by have := hwm.2; omega
              rw [hfz] at hq
              refine Wpc.loopA (α := {j : Nat // j ≤ z.length}) mixed [0, 1, 2, 3, 4, 6, 10, 11, 12, 13, 14, 15, 16, 17, 18, 19, 21, 23, 31, 42, 43, 44, 57, 72, 82, 88, 92, 93, 94, 95] (fun j => [(94, .p (eI j.1))]) (fun j => [(1344, .chan (l.map eA).length (((expW w (z.take j.1) ways).drop (kk + 1)).map eW)), (1024, .map KTi (eM eI PV.bool (metM (expW w (z.take j.1) ways))))]) (fun _ => 0) (fun j => z.length - j.1) ⟨0, by omega⟩ ?_ ?_
              · (first | refine Ent.ofA [] ?_ | refine Ent.ofC [] ?_) <;> (repeat' (first | exact trivial | refine HpLe.dd ?_ | refine HpLe.mk rfl (by simp) rfl (fun h => AObj.noConfusion h) ?_ ?_ | refine And.intro ?_ ?_ | exact cl9 | refine VLe.pe ?_ | refine VLe.agg ?_ | refine VLe.tup ?_ | refine VLe.fn ?_ ?_ | refine VLeL.cons ?_ ?_ | exact VLeL.nil | exact OLe.row _ _ | rfl | refine VLe.rsle rfl ?_ ?_ ?_ | refine OLe.rowe2 ?_ ?_ | refine OLe.mape ?_ ?_ | refine OLe.iter0 ?_ | refine OLe.itere ?_ ?_ | refine OLe.chane ?_ ?_ | refine OLe.mapSe ?_ ?_ ?_ | exact OLe.mapS0 rfl)) <;> try (first | (simp; done) | (congr 1; omega) | (congr 1; (first | (simp; done) | (simp; omega))))
                show List.map eW r = List.map eW (ways.drop (kk + 1))
                rw [hr2]
              rintro ⟨j, hj⟩
              have hj : j ≤ z.length := hj
              have hokj : OkW S (expW w (z.take j) ways) := exp_ok (L := z) (w := w) hok hzS hp7 j
              obtain ⟨zz, hzz⟩ := exp_pre (L := z) (w := w) (ways := ways) j
              have hkj : kk + 1 ≤ (expW w (z.take j) ways).length := by rw [hzz, List.length_append]; omega
              have hlj : (expW w (z.take j) ways).length ≤ S.length := hokj.len
              have hlj2 : (expW w (z.take j) ways).length < 1000000 := by omega
              cases hxj : z[j]? with
              | none =>
                have hge : z.length ≤ j := List.getElem?_eq_none_iff.1 hxj
                have hno : ¬ ((j : Int) < ((z.map eA).length : Int)) := by rw [List.length_map]; omega
                rw [List.take_of_length_le hge] at hokj hkj
                repeat' (first | exact cl1 | ((with_reducible show Exists _); first | exact exHM _ | refine exU8 ?_) | ((fail_if_success with_reducible first | show LeG _ _ | show Lp _ _ _ _ | show Exists _ | show callX _ _ _ _ _ | show (_ : Int) ≤ _ | show (_ : Int) < _ | show (_ : Nat) ≤ _ | show (_ : Nat) < _); (conv => whnf) <;> (first | exact cl2 | refine Br.dec (fun hc => absurd hc hno) (fun hc => ?_) | refine XAlt.l ?_ | refine Sq.pr ?_ | refine Br.dec (fun hc => ?_) (fun hc => ?_) | refine Br.tt ?_ | refine Br.ff ?_ | refine Br.not ?_ | refine Br.mk (fun hc => ?_) (fun hc => ?_) | refine Opt.nn ?_ | refine Opt.ss ?_ | refine AltA.l ?_ | exact PV.leL_nil | refine PV.leL_cons ?_ ?_ | refine And.intro ?_ ?_ | refine ix_map (fun x hx => ?_) | refine exU8 ?_ | refine nilc (fun hn => ?_) ?_ | exact cl3 | refine imp0 (fun hpos => ?_) | refine fits_i64 ?_ ?_ | exact rfl | exact trivial | (with_reducible first | show LeG _ _ | show Lp _ _ _ _ | show Exists _ | show callX _ _ _ _ _)))) <;> (try exact cl5)
                refine ⟨⟨(expW w z ways, kk + 1, (expW w z ways).drop (kk + 1)), rfl, hokj, hkj, by rw [show S.length + 1 - (kk + 1) = S.length - kk by omega]; exact hq⟩, by show S.length + 1 - (kk + 1) < S.length + 1 - kk; omega, ?_⟩
                (first | refine Ent.ofA [] ?_ | refine Ent.ofC [] ?_) <;> (repeat' (first | exact trivial | refine HpLe.dd ?_ | refine HpLe.mk rfl (by simp) rfl (fun h => AObj.noConfusion h) ?_ ?_ | refine And.intro ?_ ?_ | exact cl9 | refine VLe.pe ?_ | refine VLe.agg ?_ | refine VLe.tup ?_ | refine VLe.fn ?_ ?_ | refine VLeL.cons ?_ ?_ | exact VLeL.nil | exact OLe.row _ _ | rfl | refine VLe.rsle rfl ?_ ?_ ?_ | refine OLe.rowe2 ?_ ?_ | refine OLe.mape ?_ ?_ | refine OLe.iter0 ?_ | refine OLe.itere ?_ ?_ | refine OLe.chane ?_ ?_ | refine OLe.mapSe ?_ ?_ ?_ | exact OLe.mapS0 rfl)) <;> try (first | (simp; done) | (congr 1; omega) | (congr 1; (first | (simp; done) | (simp; omega))))
                · show List.map eW (List.drop (kk + 1) (expW w (z.take j) ways)) = List.map eW (List.drop (kk + 1) (expW w z ways))
                  rw [List.take_of_length_le hge]
                · show eM eI PV.bool (metM (expW w (z.take j) ways)) = eM eI PV.bool (metM (expW w z ways))
                  rw [List.take_of_length_le hge]
              | some x =>
                have hltj : j < z.length := (List.getElem?_eq_some_iff.1 hxj).1
                have hyj : ((j : Int) < ((z.map eA).length : Int)) := by rw [List.length_map]; omega
                have hpm : x.party ∈ S.map It.party := List.mem_map.2 ⟨x, hzS x (List.mem_of_getElem? hxj), rfl⟩
                have qc := clip_calls w.path (by omega)
                have pc := putR_icalls (expW w (z.take j) ways) (kk + 1) (l.map eA).length ⟨w.path ++ [x.no], x.party⟩ (w.path.map eI ++ [eI x.no]) ((w.path.map eI).length + 1) (by simp) (by simp) hkj hlj2 (by simp; omega) (fun hn => by
                  have h1 : (expW w (z.take j) ways).length < S.length := hokj.room (w := ⟨w.path ++ [x.no], x.party⟩) hn hpm
                  omega)
                repeat' (first | exact cl1 | ((with_reducible show Exists _); first | exact exHM _ | refine exU8 ?_) | ((with_reducible show callX _ _ _ _ _); (first | refine call_p (qc) (by kernel_rfl) rfl ?_ | refine call_i [1088, 1024, 1408, 1344, 4480] (pc) (by kernel_rfl) rfl rfl (by decide) cl6 (fun i hi => by match i, hi with | 0, _ => rfl | 1, _ => rfl | 2, _ => rfl | 3, _ => rfl | 4, _ => rfl) cl7 cl8 (by simp [keys]) ?_)) | ((fail_if_success with_reducible first | show LeG _ _ | show Lp _ _ _ _ | show Exists _ | show callX _ _ _ _ _ | show (_ : Int) ≤ _ | show (_ : Int) < _ | show (_ : Nat) ≤ _ | show (_ : Nat) < _); (conv => whnf) <;> (first | exact cl2 | refine Br.dec (fun hc => ?_) (fun hc => absurd hyj hc) | refine ix_at hxj ?_ | refine XAlt.l ?_ | refine Sq.pr ?_ | refine Br.dec (fun hc => ?_) (fun hc => ?_) | refine Br.tt ?_ | refine Br.ff ?_ | refine Br.not ?_ | refine Br.mk (fun hc => ?_) (fun hc => ?_) | refine Opt.nn ?_ | refine Opt.ss ?_ | refine AltA.l ?_ | exact PV.leL_nil | refine PV.leL_cons ?_ ?_ | refine And.intro ?_ ?_ | refine ix_map (fun x hx => ?_) | refine exU8 ?_ | refine nilc (fun hn => ?_) ?_ | exact cl3 | refine imp0 (fun hpos => ?_) | refine fits_i64 ?_ ?_ | exact rfl | exact trivial | (with_reducible first | show LeG _ _ | show Lp _ _ _ _ | show Exists _ | show callX _ _ _ _ _)))) <;> (try exact cl5)
                refine ⟨⟨j + 1, hltj⟩, by show z.length - (j + 1) < z.length - j; omega, ?_⟩
                (first | refine Ent.ofA [] ?_ | refine Ent.ofC [] ?_) <;> (repeat' (first | exact trivial | refine HpLe.dd ?_ | refine HpLe.mk rfl (by simp) rfl (fun h => AObj.noConfusion h) ?_ ?_ | refine And.intro ?_ ?_ | exact cl9 | refine VLe.pe ?_ | refine VLe.agg ?_ | refine VLe.tup ?_ | refine VLe.fn ?_ ?_ | refine VLeL.cons ?_ ?_ | exact VLeL.nil | exact OLe.row _ _ | rfl | refine VLe.rsle rfl ?_ ?_ ?_ | refine OLe.rowe2 ?_ ?_ | refine OLe.mape ?_ ?_ | refine OLe.iter0 ?_ | refine OLe.itere ?_ ?_ | refine OLe.chane ?_ ?_ | refine OLe.mapSe ?_ ?_ ?_ | exact OLe.mapS0 rfl)) <;> try (first | (simp; done) | (congr 1; omega) | (congr 1; (first | (simp; done) | (simp; omega))))
                · show List.map eW (List.drop (kk + 1) (putW (expW w (z.take j) ways) _)) = List.map eW (List.drop (kk + 1) (expW w (z.take (j + 1)) ways))
                  rw [expW_take hxj]
                · show eM eI PV.bool (metM (putW (expW w (z.take j) ways) _)) = eM eI PV.bool (metM (expW w (z.take (j + 1)) ways))
                  rw [expW_take hxj]
            · have hfz : frm S w.to = [] := by
                have := frM_get S w.to S.length
                rw [List.take_length, hz] at this; exact this.symm
              rw [hfz] at hq
              refine Wpc.loopA (α := Unit) mixed [0, 1, 2, 3, 4, 6, 10, 11, 12, 13, 14, 15, 16, 17, 18, 19, 21, 23, 31, 42, 43, 44, 57, 72, 82, 88, 92, 93, 94, 95] (fun _ => []) (fun _ => []) (fun _ => 0) (fun _ => 0) () ?_ ?_
              · (first | refine Ent.ofA [] ?_ | refine Ent.ofC [] ?_) <;> (repeat' (first | exact trivial | refine HpLe.dd ?_ | refine HpLe.mk rfl (by simp) rfl (fun h => AObj.noConfusion h) ?_ ?_ | refine And.intro ?_ ?_ | exact cl9 | refine VLe.pe ?_ | refine VLe.agg ?_ | refine VLe.tup ?_ | refine VLe.fn ?_ ?_ | refine VLeL.cons ?_ ?_ | exact VLeL.nil | exact OLe.row _ _ | rfl | refine VLe.rsle rfl ?_ ?_ ?_ | refine OLe.rowe2 ?_ ?_ | refine OLe.mape ?_ ?_ | refine OLe.iter0 ?_ | refine OLe.itere ?_ ?_ | refine OLe.chane ?_ ?_ | refine OLe.mapSe ?_ ?_ ?_ | exact OLe.mapS0 rfl)) <;> try (first | (simp; done) | (congr 1; omega) | (congr 1; (first | (simp; done) | (simp; omega))))
              intro _
              have hno : ¬ (0 : Int) < (([] : List PV).length : Int) := by decide
              repeat' (first | exact cl1 | ((with_reducible show Exists _); first | exact exHM _ | refine exU8 ?_) | ((fail_if_success with_reducible first | show LeG _ _ | show Lp _ _ _ _ | show Exists _ | show callX _ _ _ _ _ | show (_ : Int) ≤ _ | show (_ : Int) < _ | show (_ : Nat) ≤ _ | show (_ : Nat) < _); (conv => whnf) <;> (first | exact cl2 | refine Br.dec (fun hc => absurd hc hno) (fun hc => ?_) | refine XAlt.l ?_ | refine Sq.pr ?_ | refine Br.dec (fun hc => ?_) (fun hc => ?_) | refine Br.tt ?_ | refine Br.ff ?_ | refine Br.not ?_ | refine Br.mk (fun hc => ?_) (fun hc => ?_) | refine Opt.nn ?_ | refine Opt.ss ?_ | refine AltA.l ?_ | exact PV.leL_nil | refine PV.leL_cons ?_ ?_ | refine And.intro ?_ ?_ | refine ix_map (fun x hx => ?_) | refine exU8 ?_ | refine nilc (fun hn => ?_) ?_ | exact cl3 | refine imp0 (fun hpos => ?_) | refine fits_i64 ?_ ?_ | exact rfl | exact trivial | (with_reducible first | show LeG _ _ | show Lp _ _ _ _ | show Exists _ | show callX _ _ _ _ _)))) <;> (try exact cl5)
              refine ⟨⟨(ways, kk + 1, r), hr2, hok, hlt, by rw [show S.length + 1 - (kk + 1) = S.length - kk by omega]; exact hq⟩, by show S.length + 1 - (kk + 1) < S.length + 1 - kk; omega, ?_⟩
              (first | refine Ent.ofA [] ?_ | refine Ent.ofC [] ?_) <;> (repeat' (first | exact trivial | refine HpLe.dd ?_ | refine HpLe.mk rfl (by simp) rfl (fun h => AObj.noConfusion h) ?_ ?_ | refine And.intro ?_ ?_ | exact cl9 | refine VLe.pe ?_ | refine VLe.agg ?_ | refine VLe.tup ?_ | refine VLe.fn ?_ ?_ | refine VLeL.cons ?_ ?_ | exact VLeL.nil | exact OLe.row _ _ | rfl | refine VLe.rsle rfl ?_ ?_ ?_ | refine OLe.rowe2 ?_ ?_ | refine OLe.mape ?_ ?_ | refine OLe.iter0 ?_ | refine OLe.itere ?_ ?_ | refine OLe.chane ?_ ?_ | refine OLe.mapSe ?_ ?_ ?_ | exact OLe.mapS0 rfl)) <;> try (first | (simp; done) | (congr 1; omega) | (congr 1; (first | (simp; done) | (simp; omega))))
  · rw [if_neg hz]
    refine PCalls.of (N := 111) (res := [.tmp 10, .tmp 11, .tmp 12]) mixed Try.func16 rfl rfl rfl (by kernel_rfl) (by simp) [0, 1, 2, 3, 4, 6, 10, 11, 12, 13, 14, 15, 16, 17, 18, 19, 21, 23, 31, 42, 43, 44, 57, 72, 82, 88, 92, 93, 94, 95] ?_
    repeat' (first | exact cl1 | ((with_reducible show Exists _); first | exact exHM _ | refine exU8 ?_) | ((with_reducible show callX _ _ _ _ _); (first | refine call_p (q1) (by kernel_rfl) rfl ?_)) | ((fail_if_success with_reducible first | show LeG _ _ | show Lp _ _ _ _ | show Exists _ | show callX _ _ _ _ _ | show (_ : Int) ≤ _ | show (_ : Int) < _ | show (_ : Nat) ≤ _ | show (_ : Nat) < _); (conv => whnf) <;> (first | exact cl2 | refine XAlt.l ?_ | refine Sq.pr ?_ | refine Br.dec (fun hc => ?_) (fun hc => ?_) | refine Br.tt ?_ | refine Br.ff ?_ | refine Br.not ?_ | refine Br.mk (fun hc => ?_) (fun hc => ?_) | refine Opt.nn ?_ | refine Opt.ss ?_ | refine AltA.l ?_ | exact PV.leL_nil | refine PV.leL_cons ?_ ?_ | refine And.intro ?_ ?_ | refine ix_map (fun x hx => ?_) | refine exU8 ?_ | refine nilc (fun hn => ?_) ?_ | exact cl3 | refine imp0 (fun hpos => ?_) | refine fits_i64 ?_ ?_ | exact rfl | exact trivial | (with_reducible first | show LeG _ _ | show Lp _ _ _ _ | show Exists _ | show callX _ _ _ _ _)))) <;> (try exact cl5)
    all_goals exact LeG.mk (PV.le_tup (PV.leL_cons (PV.le_nil _ _ _) (PV.leL_cons (PV.le_refl _) (PV.leL_cons (PV.le_refl _) PV.leL_nil))))
end Go.Proofs.Ythlpjjnfcpjgoaa

namespace Go.Proofs.Ythlpjjnfcpjgoaa
open Go Go.Sg
set_option maxRecDepth 100000
set_option maxHeartbeats 20000000
abbrev ByM := List (Int × It)
def byF (F : List It) : ByM := F.foldl (fun m x => aput x.no x m) []
theorem byF_take {F : List It} {i : Nat} {x : It} (h : F[i]? = some x) : byF (F.take (i + 1)) = aput x.no x (byF (F.take i)) := by
  unfold byF; rw [List.take_add_one, h]; simp [List.foldl_append]
/-- The party a path leads to: `b` says whether a step has been taken already. -/
def provF (B : ByM) : Bool → List Int → Int → Option Int
  | _, [], p => some p
  | b, no :: r, p => match aget no B with
    | none => none
    | some x => if x.of_ = b then (if x.person = p then provF B true r x.party else none) else none
def provG (B : ByM) (P path : List Int) (who : Int) : Bool := match provF B false path who with
  | none => false
  | some z => hasB P z
def provA (l : List It) (who : Int) (P : List Int) (t k : Int) (p : List Int) : Bool × Int := if examA l who P t k = 0 then (if 1 ≤ p.length ∧ p.length ≤ 8 then (provG (byF (stL t k l)) P p who, 0) else (false, 0)) else (false, examA l who P t k)
abbrev eP (x : Bool × Int) : PV := .tup [.bool x.1, eI x.2]
theorem proves_calls (l : List It) (who : Int) (P : List Int) (t k : Int) (p : List Int) (hl : l.length < 1000000) (hP : P.length < 1000000) : PCalls Try.prog 18 [eL l, eI who, eIs P, eI t, eI k, eIs p] (eP (provA l who P t k p)) := by
  have q1 := exam_calls l who P t k hl hP
  unfold provA
  by_cases hz : examA l who P t k = 0
  · rw [hz] at q1
    rw [if_pos hz]
    obtain ⟨hchk, harg⟩ := examA_ok hz
    have hsrt := okP_srt (argB_ok harg).1
    have q2 := standing_calls l t k hl
    by_cases hp : 1 ≤ p.length ∧ p.length ≤ 8
    · rw [if_pos hp]
      have hp1 : ¬ ((p.map eI).length : Int) < 1 := by rw [List.length_map]; omega
      have hp9 : ¬ (8 : Int) < ((p.map eI).length : Int) := by rw [List.length_map]; omega
      refine PCalls.of (N := 84) (res := [.tmp 12, .tmp 13]) mixed Try.func18 rfl rfl rfl (by kernel_rfl) (by simp) [0, 1, 2, 3, 4, 5, 12, 13, 14, 15, 16, 17, 18, 19, 20, 21, 29, 38, 43, 44, 50, 51, 52, 53, 77] ?_
      repeat' (first | exact cl1 | ((with_reducible show Exists _); first | exact exHM _ | refine exU8 ?_) | ((with_reducible show callX _ _ _ _ _); (first | refine call_p (q1) (by kernel_rfl) rfl ?_ | refine call_p (q2) (by kernel_rfl) rfl ?_)) | ((fail_if_success with_reducible first | show LeG _ _ | show Lp _ _ _ _ | show Exists _ | show callX _ _ _ _ _ | show (_ : Int) ≤ _ | show (_ : Int) < _ | show (_ : Nat) ≤ _ | show (_ : Nat) < _); (conv => whnf) <;> (first | exact cl2 | refine Br.dec (fun hc => absurd hc hp1) (fun hc => ?_) | refine Br.dec (fun hc => absurd hc hp9) (fun hc => ?_) | refine XAlt.l ?_ | refine Sq.pr ?_ | refine Br.dec (fun hc => ?_) (fun hc => ?_) | refine Br.tt ?_ | refine Br.ff ?_ | refine Br.not ?_ | refine Br.mk (fun hc => ?_) (fun hc => ?_) | refine Opt.nn ?_ | refine Opt.ss ?_ | refine AltA.l ?_ | exact PV.leL_nil | refine PV.leL_cons ?_ ?_ | refine And.intro ?_ ?_ | refine ix_map (fun x hx => ?_) | refine exU8 ?_ | refine nilc (fun hn => ?_) ?_ | exact cl3 | refine imp0 (fun hpos => ?_) | refine fits_i64 ?_ ?_ | exact rfl | exact trivial | (with_reducible first | show LeG _ _ | show Lp _ _ _ _ | show Exists _ | show callX _ _ _ _ _)))) <;> (try exact cl5)
      have hit := stand_iter l (foldM t k l) hl
      have hFl : (l.filter (stB (foldM t k l))).length ≤ (l.map eA).length := by rw [List.length_map]; exact List.length_filter_le _ _
      have hxs : ∀ x ∈ ((l.filter (stB (foldM t k l))).map fun y => [eA y]), x.length = 1 := fun x hx => by
        obtain ⟨y, _, rfl⟩ := List.mem_map.1 hx; rfl
      have hget : ∀ i y, (l.filter (stB (foldM t k l)))[i]? = some y → ((l.filter (stB (foldM t k l))).map fun y => [eA y]).getD i [] = [eA y] := fun i y h => by simp [List.getD, h]
      unfold stL
      generalize l.filter (stB (foldM t k l)) = S at *
      refine Wpc.range mixed hit (by kernel_rfl) rfl [0, 1, 2, 3, 4, 5, 12, 13, 14, 15, 16, 17, 18, 19, 20, 21, 29, 38, 43, 44, 50, 51, 52, 53, 77] S.length [1216, 1280] (fun i => ([(1280, .cells [.mp 1216]), (1216, .map KTi (eM eI eA (byF (S.take i))))], 1664)) rfl (hen_of rfl) (by simp) (by simp) hxs (fun i hi hm => ?_) (fun _ => ?_)
      · rw [List.length_map] at hi
        obtain ⟨y, hy⟩ : ∃ y, S[i]? = some y := ⟨_, List.getElem?_eq_getElem hi⟩
        rw [hget i y hy]
        dsimp only
        repeat' (first | exact cl1 | ((with_reducible show Exists _); first | exact exHM _ | refine exU8 ?_) | ((fail_if_success with_reducible first | show LeG _ _ | show Lp _ _ _ _ | show Exists _ | show callX _ _ _ _ _ | show (_ : Int) ≤ _ | show (_ : Int) < _ | show (_ : Nat) ≤ _ | show (_ : Nat) < _); (conv => whnf) <;> (first | exact cl2 | refine XAlt.l ?_ | refine Sq.pr ?_ | refine Br.dec (fun hc => ?_) (fun hc => ?_) | refine Br.tt ?_ | refine Br.ff ?_ | refine Br.not ?_ | refine Br.mk (fun hc => ?_) (fun hc => ?_) | refine Opt.nn ?_ | refine Opt.ss ?_ | refine AltA.l ?_ | exact PV.leL_nil | refine PV.leL_cons ?_ ?_ | refine And.intro ?_ ?_ | refine ix_map (fun x hx => ?_) | refine exU8 ?_ | refine nilc (fun hn => ?_) ?_ | exact cl3 | refine imp0 (fun hpos => ?_) | refine fits_i64 ?_ ?_ | exact rfl | exact trivial | (with_reducible first | show LeG _ _ | show Lp _ _ _ _ | show Exists _ | show callX _ _ _ _ _)))) <;> (try exact cl5)
        (refine Ent.ofK [] ?_) <;> (repeat' (first | exact trivial | refine HpLe.dd ?_ | refine HpLe.mk rfl (by simp) rfl (fun h => AObj.noConfusion h) ?_ ?_ | refine And.intro ?_ ?_ | exact cl9 | refine VLe.pe ?_ | refine VLe.agg ?_ | refine VLe.tup ?_ | refine VLe.fn ?_ ?_ | refine VLeL.cons ?_ ?_ | exact VLeL.nil | exact OLe.row _ _ | rfl | refine VLe.rsle rfl ?_ ?_ ?_ | refine OLe.rowe2 ?_ ?_ | refine OLe.mape ?_ ?_ | refine OLe.iter0 ?_ | refine OLe.itere ?_ ?_ | refine OLe.chane ?_ ?_ | refine OLe.mapSe ?_ ?_ ?_ | exact OLe.mapS0 rfl)) <;> try (first | (simp; done) | (congr 1; omega) | (congr 1; (first | (simp; done) | (simp; omega))))
        show mput (eI y.no) (eA y) (eM eI eA (byF (S.take i))) = eM eI eA (byF (S.take (i + 1)))
        rw [byF_take hy, mput_map eA keyI]
      · have eF : S.take (S.map fun y => [eA y]).length = S := by rw [List.length_map, List.take_length]
        show Kt.n _ ⟨_, [(1280, .cells [.mp 1216]), (1216, .map KTi (eM eI eA (byF (S.take (S.map fun y => [eA y]).length))))], 1664, 0⟩
        rw [eF]
        generalize byF S = B
        repeat' (first | exact cl1 | ((with_reducible show Exists _); first | exact exHM _ | refine exU8 ?_) | ((fail_if_success with_reducible first | show LeG _ _ | show Lp _ _ _ _ | show Exists _ | show callX _ _ _ _ _ | show (_ : Int) ≤ _ | show (_ : Int) < _ | show (_ : Nat) ≤ _ | show (_ : Nat) < _); (conv => whnf) <;> (first | exact cl2 | refine XAlt.l ?_ | refine Sq.pr ?_ | refine Br.dec (fun hc => ?_) (fun hc => ?_) | refine Br.tt ?_ | refine Br.ff ?_ | refine Br.not ?_ | refine Br.mk (fun hc => ?_) (fun hc => ?_) | refine Opt.nn ?_ | refine Opt.ss ?_ | refine AltA.l ?_ | exact PV.leL_nil | refine PV.leL_cons ?_ ?_ | refine And.intro ?_ ?_ | refine ix_map (fun x hx => ?_) | refine exU8 ?_ | refine nilc (fun hn => ?_) ?_ | exact cl3 | refine imp0 (fun hpos => ?_) | refine fits_i64 ?_ ?_ | exact rfl | exact trivial | (with_reducible first | show LeG _ _ | show Lp _ _ _ _ | show Exists _ | show callX _ _ _ _ _)))) <;> (try exact cl5)
        refine Wpc.loopA (α := {x : Nat × Int // x.1 ≤ p.length ∧ provF B (decide (0 < x.1)) (p.drop x.1) x.2 = provF B false p who}) mixed [0, 1, 2, 3, 4, 5, 12, 13, 14, 15, 16, 17, 18, 19, 20, 21, 29, 38, 43, 44, 50, 51, 52, 53, 77] (fun x => [(17, .p (eI x.1.2)), (52, .p (eI x.1.1))]) (fun _ => []) (fun _ => 0) (fun x => p.length - x.1.1) ⟨(0, who), Nat.zero_le _, rfl⟩ ?_ ?_
        · (first | refine Ent.ofA [] ?_ | refine Ent.ofC [] ?_) <;> (repeat' (first | exact trivial | refine HpLe.dd ?_ | refine HpLe.mk rfl (by simp) rfl (fun h => AObj.noConfusion h) ?_ ?_ | refine And.intro ?_ ?_ | exact cl9 | refine VLe.pe ?_ | refine VLe.agg ?_ | refine VLe.tup ?_ | refine VLe.fn ?_ ?_ | refine VLeL.cons ?_ ?_ | exact VLeL.nil | exact OLe.row _ _ | rfl | refine VLe.rsle rfl ?_ ?_ ?_ | refine OLe.rowe2 ?_ ?_ | refine OLe.mape ?_ ?_ | refine OLe.iter0 ?_ | refine OLe.itere ?_ ?_ | refine OLe.chane ?_ ?_ | refine OLe.mapSe ?_ ?_ ?_ | exact OLe.mapS0 rfl)) <;> try (first | (simp; done) | (congr 1; omega) | (congr 1; (first | (simp; done) | (simp; omega))))
        rintro ⟨⟨i, g⟩, hi, hq⟩
        have hi : i ≤ p.length := hi
        have hq : provF B (decide (0 < i)) (p.drop i) g = provF B false p who := hq
        cases hxi : p[i]? with
        | none =>
          have hge : p.length ≤ i := List.getElem?_eq_none_iff.1 hxi
          have hno : ¬ ((i : Int) < ((p.map eI).length : Int)) := by rw [List.length_map]; omega
          have hd : p.drop i = [] := List.drop_eq_nil_of_le hge
          have q3 := contains_calls P g hP
          rw [hd] at hq
          repeat' (first | exact cl1 | ((with_reducible show Exists _); first | exact exHM _ | refine exU8 ?_) | ((with_reducible show callX _ _ _ _ _); (first | refine call_p (q3) (by kernel_rfl) rfl ?_)) | ((fail_if_success with_reducible first | show LeG _ _ | show Lp _ _ _ _ | show Exists _ | show callX _ _ _ _ _ | show (_ : Int) ≤ _ | show (_ : Int) < _ | show (_ : Nat) ≤ _ | show (_ : Nat) < _); (conv => whnf) <;> (first | exact cl2 | refine Br.dec (fun hc => absurd hc hno) (fun hc => ?_) | refine XAlt.l ?_ | refine Sq.pr ?_ | refine Br.dec (fun hc => ?_) (fun hc => ?_) | refine Br.tt ?_ | refine Br.ff ?_ | refine Br.not ?_ | refine Br.mk (fun hc => ?_) (fun hc => ?_) | refine Opt.nn ?_ | refine Opt.ss ?_ | refine AltA.l ?_ | exact PV.leL_nil | refine PV.leL_cons ?_ ?_ | refine And.intro ?_ ?_ | refine ix_map (fun x hx => ?_) | refine exU8 ?_ | refine nilc (fun hn => ?_) ?_ | exact cl3 | refine imp0 (fun hpos => ?_) | refine fits_i64 ?_ ?_ | exact rfl | exact trivial | (with_reducible first | show LeG _ _ | show Lp _ _ _ _ | show Exists _ | show callX _ _ _ _ _)))) <;> (try exact cl5)
          show LeG (.tup [.bool (hasB P g), eI 0]) (.tup [.bool (provG B P p who), eI 0])
          unfold provG; rw [← hq]; exact LeG.refl _
        | some no =>
          have hlt : i < p.length := (List.getElem?_eq_some_iff.1 hxi).1
          have hyes : ((i : Int) < ((p.map eI).length : Int)) := by rw [List.length_map]; omega
          have hd : p.drop i = no :: p.drop (i + 1) := by
            rw [List.drop_eq_getElem_cons hlt, (List.getElem?_eq_some_iff.1 hxi).2]
          rw [hd] at hq
          repeat' (first | exact cl1 | ((with_reducible show Exists _); first | exact exHM _ | refine exU8 ?_) | ((fail_if_success with_reducible first | show LeG _ _ | show Lp _ _ _ _ | show Exists _ | show callX _ _ _ _ _ | show (_ : Int) ≤ _ | show (_ : Int) < _ | show (_ : Nat) ≤ _ | show (_ : Nat) < _); (conv => whnf) <;> (first | exact cl2 | refine Br.dec (fun hc => ?_) (fun hc => absurd hyes hc) | refine ix_at hxi ?_ | refine Opt.of (mfind_map eA keyI no B) (fun z hz => ?_) (fun hz => ?_) | refine XAlt.l ?_ | refine Sq.pr ?_ | refine Br.dec (fun hc => ?_) (fun hc => ?_) | refine Br.tt ?_ | refine Br.ff ?_ | refine Br.not ?_ | refine Br.mk (fun hc => ?_) (fun hc => ?_) | refine Opt.nn ?_ | refine Opt.ss ?_ | refine AltA.l ?_ | exact PV.leL_nil | refine PV.leL_cons ?_ ?_ | refine And.intro ?_ ?_ | refine ix_map (fun x hx => ?_) | refine exU8 ?_ | refine nilc (fun hn => ?_) ?_ | exact cl3 | refine imp0 (fun hpos => ?_) | refine fits_i64 ?_ ?_ | exact rfl | exact trivial | (with_reducible first | show LeG _ _ | show Lp _ _ _ _ | show Exists _ | show callX _ _ _ _ _)))) <;> (try exact cl5)
          all_goals first
          | (have h0 : provF B (decide (0 < i)) (no :: p.drop (i + 1)) g = none := by simp_all [provF]
             show LeG (.tup [.bool false, eI 0]) (.tup [.bool (provG B P p who), eI 0])
             unfold provG; rw [← hq, h0]; exact LeG.refl _)
          | (rename_i z hz _ _ _
             have hn : provF B (decide (0 < i)) (no :: p.drop (i + 1)) g = provF B true (p.drop (i + 1)) z.party := by simp_all [provF]
             refine ⟨⟨(i + 1, z.party), hlt, by rw [show decide (0 < i + 1) = true from by simp, ← hn]; exact hq⟩, by show p.length - (i + 1) < p.length - i; omega, ?_⟩
             (first | refine Ent.ofA [] ?_ | refine Ent.ofC [] ?_) <;> (repeat' (first | exact trivial | refine HpLe.dd ?_ | refine HpLe.mk rfl (by simp) rfl (fun h => AObj.noConfusion h) ?_ ?_ | refine And.intro ?_ ?_ | exact cl9 | refine VLe.pe ?_ | refine VLe.agg ?_ | refine VLe.tup ?_ | refine VLe.fn ?_ ?_ | refine VLeL.cons ?_ ?_ | exact VLeL.nil | exact OLe.row _ _ | rfl | refine VLe.rsle rfl ?_ ?_ ?_ | refine OLe.rowe2 ?_ ?_ | refine OLe.mape ?_ ?_ | refine OLe.iter0 ?_ | refine OLe.itere ?_ ?_ | refine OLe.chane ?_ ?_ | refine OLe.mapSe ?_ ?_ ?_ | exact OLe.mapS0 rfl)) <;> try (first | (simp; done) | (congr 1; omega) | (congr 1; (first | (simp; done) | (simp; omega)))))
          | trace_state
    · rw [if_neg hp]
      by_cases hp1 : ((p.map eI).length : Int) < 1
      · refine PCalls.of (N := 84) (res := [.tmp 12, .tmp 13]) mixed Try.func18 rfl rfl rfl (by kernel_rfl) (by simp) [0, 1, 2, 3, 4, 5, 12, 13, 14, 15, 16, 17, 18, 19, 20, 21, 29, 38, 43, 44, 50, 51, 52, 53, 77] ?_
        repeat' (first | exact cl1 | ((with_reducible show Exists _); first | exact exHM _ | refine exU8 ?_) | ((with_reducible show callX _ _ _ _ _); (first | refine call_p (q1) (by kernel_rfl) rfl ?_)) | ((fail_if_success with_reducible first | show LeG _ _ | show Lp _ _ _ _ | show Exists _ | show callX _ _ _ _ _ | show (_ : Int) ≤ _ | show (_ : Int) < _ | show (_ : Nat) ≤ _ | show (_ : Nat) < _); (conv => whnf) <;> (first | exact cl2 | refine Br.dec (fun hc => ?_) (fun hc => absurd hp1 hc) | refine XAlt.l ?_ | refine Sq.pr ?_ | refine Br.dec (fun hc => ?_) (fun hc => ?_) | refine Br.tt ?_ | refine Br.ff ?_ | refine Br.not ?_ | refine Br.mk (fun hc => ?_) (fun hc => ?_) | refine Opt.nn ?_ | refine Opt.ss ?_ | refine AltA.l ?_ | exact PV.leL_nil | refine PV.leL_cons ?_ ?_ | refine And.intro ?_ ?_ | refine ix_map (fun x hx => ?_) | refine exU8 ?_ | refine nilc (fun hn => ?_) ?_ | exact cl3 | refine imp0 (fun hpos => ?_) | refine fits_i64 ?_ ?_ | exact rfl | exact trivial | (with_reducible first | show LeG _ _ | show Lp _ _ _ _ | show Exists _ | show callX _ _ _ _ _)))) <;> (try exact cl5)
      · have hp9 : (8 : Int) < ((p.map eI).length : Int) := by rw [List.length_map] at *; omega
        refine PCalls.of (N := 84) (res := [.tmp 12, .tmp 13]) mixed Try.func18 rfl rfl rfl (by kernel_rfl) (by simp) [0, 1, 2, 3, 4, 5, 12, 13, 14, 15, 16, 17, 18, 19, 20, 21, 29, 38, 43, 44, 50, 51, 52, 53, 77] ?_
        repeat' (first | exact cl1 | ((with_reducible show Exists _); first | exact exHM _ | refine exU8 ?_) | ((with_reducible show callX _ _ _ _ _); (first | refine call_p (q1) (by kernel_rfl) rfl ?_)) | ((fail_if_success with_reducible first | show LeG _ _ | show Lp _ _ _ _ | show Exists _ | show callX _ _ _ _ _ | show (_ : Int) ≤ _ | show (_ : Int) < _ | show (_ : Nat) ≤ _ | show (_ : Nat) < _); (conv => whnf) <;> (first | exact cl2 | refine Br.dec (fun hc => absurd hc hp1) (fun hc => ?_) | refine Br.dec (fun hc => ?_) (fun hc => absurd hp9 hc) | refine XAlt.l ?_ | refine Sq.pr ?_ | refine Br.dec (fun hc => ?_) (fun hc => ?_) | refine Br.tt ?_ | refine Br.ff ?_ | refine Br.not ?_ | refine Br.mk (fun hc => ?_) (fun hc => ?_) | refine Opt.nn ?_ | refine Opt.ss ?_ | refine AltA.l ?_ | exact PV.leL_nil | refine PV.leL_cons ?_ ?_ | refine And.intro ?_ ?_ | refine ix_map (fun x hx => ?_) | refine exU8 ?_ | refine nilc (fun hn => ?_) ?_ | exact cl3 | refine imp0 (fun hpos => ?_) | refine fits_i64 ?_ ?_ | exact rfl | exact trivial | (with_reducible first | show LeG _ _ | show Lp _ _ _ _ | show Exists _ | show callX _ _ _ _ _)))) <;> (try exact cl5)
  · rw [if_neg hz]
    refine PCalls.of (N := 84) (res := [.tmp 12, .tmp 13]) mixed Try.func18 rfl rfl rfl (by kernel_rfl) (by simp) [0, 1, 2, 3, 4, 5, 12, 13, 14, 15, 16, 17, 18, 19, 20, 21, 29, 38, 43, 44, 50, 51, 52, 53, 77] ?_
    repeat' (first | exact cl1 | ((with_reducible show Exists _); first | exact exHM _ | refine exU8 ?_) | ((with_reducible show callX _ _ _ _ _); (first | refine call_p (q1) (by kernel_rfl) rfl ?_)) | ((fail_if_success with_reducible first | show LeG _ _ | show Lp _ _ _ _ | show Exists _ | show callX _ _ _ _ _ | show (_ : Int) ≤ _ | show (_ : Int) < _ | show (_ : Nat) ≤ _ | show (_ : Nat) < _); (conv => whnf) <;> (first | exact cl2 | refine XAlt.l ?_ | refine Sq.pr ?_ | refine Br.dec (fun hc => ?_) (fun hc => ?_) | refine Br.tt ?_ | refine Br.ff ?_ | refine Br.not ?_ | refine Br.mk (fun hc => ?_) (fun hc => ?_) | refine Opt.nn ?_ | refine Opt.ss ?_ | refine AltA.l ?_ | exact PV.leL_nil | refine PV.leL_cons ?_ ?_ | refine And.intro ?_ ?_ | refine ix_map (fun x hx => ?_) | refine exU8 ?_ | refine nilc (fun hn => ?_) ?_ | exact cl3 | refine imp0 (fun hpos => ?_) | refine fits_i64 ?_ ?_ | exact rfl | exact trivial | (with_reducible first | show LeG _ _ | show Lp _ _ _ _ | show Exists _ | show callX _ _ _ _ _)))) <;> (try exact cl5)
end Go.Proofs.Ythlpjjnfcpjgoaa
