/- A part of the proof: contracts of the functions that the statement reaches. -/
import Derived.Test.YtghgjobknmddgaaChp0
set_option linter.unusedSimpArgs false
set_option linter.unusedVariables false
set_option linter.unnecessarySimpa false
namespace Go.Proofs.Ytghgjobknmddgaa
open Go Go.Sg
set_option maxRecDepth 100000
set_option maxHeartbeats 4000000
theorem radd_calls (l : List Dp) (u : Dp) (hl : l.length < 1000000) : PCalls Try.prog 12 [eL l, eA u] (eR (addA l u)) := by
  have q1 := rcheck_calls l hl
  by_cases hz : chkA l = 0
  · rw [hz] at q1
    rw [addA_ok hz]
    cases hr : rightA u with
    | false =>
      have q2 := rright_calls u
      rw [hr] at q2
      refine PCalls.of (N := 61) (res := [.tmp 4, .tmp 5]) mixed Try.func12 rfl rfl rfl (by kernel_rfl) (by simp) [0, 1, 3, 4, 5, 6, 7, 11, 15, 29, 45, 48] ?_
      repeat' (first | ((with_reducible show _ = _); exact rfl) | ((with_reducible show (_ : Nat) < _); exact Nat.zero_lt_succ _) | ((with_reducible show (_ : Nat) ≤ _); exact Nat.le_of_ble_eq_true rfl) | ((with_reducible show Exists _); refine exU8 ?_) | ((with_reducible show callX _ _ _ _ _); (first | refine call_p (q1) (by kernel_rfl) rfl ?_ | refine call_p (q2) (by kernel_rfl) rfl ?_)) | ((fail_if_success (first | (with_reducible show LeG _ _) | (with_reducible show Lp _ _ _ _) | (with_reducible show Exists _) | (with_reducible show callX _ _ _ _ _) | (with_reducible show (_ : Int) ≤ _) | (with_reducible show (_ : Int) < _) | (with_reducible show (_ : Nat) ≤ _) | (with_reducible show (_ : Nat) < _))); (conv => whnf) <;> (first | exact OkR.mk (by kernel_rfl) | exact OkC.mk (by kernel_rfl) | refine Sq.pr ?_ | refine Br.dec (fun hc => ?_) (fun hc => ?_) | refine Br.tt ?_ | refine Br.ff ?_ | refine Br.not ?_ | refine Br.mk (fun hc => ?_) (fun hc => ?_) | refine Opt.nn ?_ | refine Opt.ss ?_ | refine AltA.l ?_ | exact PV.leL_nil | refine PV.leL_cons ?_ ?_ | refine And.intro ?_ ?_ | refine ix_map (fun x hx => ?_) | refine exU8 ?_ | refine nilc (fun hn => ?_) ?_ | refine call_p (q1) (by kernel_rfl) rfl ?_ | refine call_p (q2) (by kernel_rfl) rfl ?_ | exact PV.le_refl _ | exact Nat.zero_lt_succ _ | exact Nat.le_of_ble_eq_true rfl | exact onesOf rfl | exact Or.inl rfl | exact noMem | exact onesOfP rfl | exact okAll rfl | exact okMap (fun _ => ⟨rfl, onesOfP rfl⟩) | exact nonz | refine imp0 (fun hpos => ?_) | refine fits_i64 ?_ ?_ | exact rfl | (with_reducible show LeG _ _) | (with_reducible show Lp _ _ _ _) | (with_reducible show Exists _) | (with_reducible show callX _ _ _ _ _)))) <;> (try (first | exact LeG.refl _ | omega | ((first | (with_reducible show (_ : Int) ≤ _) | (with_reducible show (_ : Int) < _) | (with_reducible show (_ : Nat) ≤ _) | (with_reducible show (_ : Nat) < _) | (with_reducible show ¬ _) | (with_reducible show (_ : Int) = _) | (with_reducible show (_ : Nat) = _)); (simp only [List.length_map, List.length_append, List.length_cons, List.length_nil, List.length_replicate, List.length_take, List.length_drop, List.length_set, Int.toNat_natCast, Int.reduceToNat] <;> omega)) | exact of_decide_eq_true rfl))
      all_goals first
      | (exact LeG.mk (PV.le_tup (PV.leL_cons (PV.le_nil _ _ _) (PV.leL_refl _))))
      | (exfalso; simp at hc)
    | true =>
    have q2 := rright_calls u
    rw [hr] at q2
    rw [if_pos rfl]
    refine PCalls.of (N := 61) (res := [.tmp 4, .tmp 5]) mixed Try.func12 rfl rfl rfl (by kernel_rfl) (by simp) [0, 1, 3, 4, 5, 6, 7, 11, 15, 29, 45, 48] ?_
    repeat' (first | ((with_reducible show _ = _); exact rfl) | ((with_reducible show (_ : Nat) < _); exact Nat.zero_lt_succ _) | ((with_reducible show (_ : Nat) ≤ _); exact Nat.le_of_ble_eq_true rfl) | ((with_reducible show Exists _); refine exU8 ?_) | ((with_reducible show callX _ _ _ _ _); (first | refine call_p (q1) (by kernel_rfl) rfl ?_ | refine call_p (q2) (by kernel_rfl) rfl ?_)) | ((fail_if_success (first | (with_reducible show LeG _ _) | (with_reducible show Lp _ _ _ _) | (with_reducible show Exists _) | (with_reducible show callX _ _ _ _ _) | (with_reducible show (_ : Int) ≤ _) | (with_reducible show (_ : Int) < _) | (with_reducible show (_ : Nat) ≤ _) | (with_reducible show (_ : Nat) < _))); (conv => whnf) <;> (first | exact OkR.mk (by kernel_rfl) | exact OkC.mk (by kernel_rfl) | refine Sq.pr ?_ | refine Br.dec (fun hc => ?_) (fun hc => ?_) | refine Br.tt ?_ | refine Br.ff ?_ | refine Br.not ?_ | refine Br.mk (fun hc => ?_) (fun hc => ?_) | refine Opt.nn ?_ | refine Opt.ss ?_ | refine AltA.l ?_ | exact PV.leL_nil | refine PV.leL_cons ?_ ?_ | refine And.intro ?_ ?_ | refine ix_map (fun x hx => ?_) | refine exU8 ?_ | refine nilc (fun hn => ?_) ?_ | refine call_p (q1) (by kernel_rfl) rfl ?_ | refine call_p (q2) (by kernel_rfl) rfl ?_ | exact PV.le_refl _ | exact Nat.zero_lt_succ _ | exact Nat.le_of_ble_eq_true rfl | exact onesOf rfl | exact Or.inl rfl | exact noMem | exact onesOfP rfl | exact okAll rfl | exact okMap (fun _ => ⟨rfl, onesOfP rfl⟩) | exact nonz | refine imp0 (fun hpos => ?_) | refine fits_i64 ?_ ?_ | exact rfl | (with_reducible show LeG _ _) | (with_reducible show Lp _ _ _ _) | (with_reducible show Exists _) | (with_reducible show callX _ _ _ _ _)))) <;> (try (first | exact LeG.refl _ | omega | ((first | (with_reducible show (_ : Int) ≤ _) | (with_reducible show (_ : Int) < _) | (with_reducible show (_ : Nat) ≤ _) | (with_reducible show (_ : Nat) < _) | (with_reducible show ¬ _) | (with_reducible show (_ : Int) = _) | (with_reducible show (_ : Nat) = _)); (simp only [List.length_map, List.length_append, List.length_cons, List.length_nil, List.length_replicate, List.length_take, List.length_drop, List.length_set, Int.toNat_natCast, Int.reduceToNat] <;> omega)) | exact of_decide_eq_true rfl))
    refine Wpc.loopB (α := {i : Nat // i ≤ l.length ∧ ∀ j y, j < i → l[j]? = some y → Dp.no y < Dp.no u}) mixed [0, 1, 3, 4, 5, 6, 7, 11, 15, 29, 45, 48] (fun i => [(7, .p (eI i.1))]) (fun i => l.length - i.1) ⟨0, by omega, fun j y h => absurd h (by omega)⟩ ?_ ?_
    · (first | refine Ent.ofA [] ?_ | refine Ent.ofC [] ?_) <;> (repeat' (first | exact trivial | refine HpLe.dd ?_ | refine HpLe.mk rfl (by simp) rfl (fun h => AObj.noConfusion h) ?_ ?_ | refine And.intro ?_ ?_ | exact VLe.refl _ | exact VLe.msl rfl | exact VLe.rsl rfl | exact VLe.csl rfl | exact VLe.cslr rfl | exact VLe.mp rfl | exact VLe.eptr rfl | exact VLe.ptr rfl | exact VLe.any _ | refine VLe.pe ?_ | refine VLe.agg ?_ | refine VLeL.cons ?_ ?_ | exact VLeL.nil | exact OLe.row _ _ | rfl | refine VLe.rsle rfl ?_ ?_ ?_ | refine OLe.rowe2 ?_ ?_ | refine OLe.mape ?_ ?_ | refine OLe.iter0 ?_ | refine OLe.itere ?_ ?_)) <;> try (first | (simp; done) | (congr 1; omega) | (congr 1; (first | (simp; done) | (simp; omega))))
    rintro ⟨i, hi, hq⟩
    have hi : i ≤ l.length := hi
    have hq : ∀ j y, j < i → l[j]? = some y → Dp.no y < Dp.no u := hq
    have hpos : (∀ y, l[i]? = some y → Dp.no u ≤ Dp.no y) → posN Dp.no (Dp.no u) l = i := fun h => posN_eq Dp.no l _ i hi hq h
    have hfin : posN Dp.no (Dp.no u) l = i → List.take (0 + (List.drop (Int.toNat 0) (List.take ((i : Int)).toNat (l.map eA))).length + 1 + (List.drop ((i : Int)).toNat (List.take (((l.map eA).length : Int)).toNat (l.map eA))).length) (List.drop 0 ([] ++ List.drop (Int.toNat 0) (List.take ((i : Int)).toNat (l.map eA)) ++ List.take 1 (List.drop 0 [eA u]) ++ List.drop ((i : Int)).toNat (List.take (((l.map eA).length : Int)).toNat (l.map eA)))) = (insN Dp.no l u).map eA := fun h => by
      unfold insN
      rw [h]
      simp only [Int.toNat_natCast, Int.reduceToNat, List.drop_zero, List.nil_append, List.take_length, List.take_succ_cons, List.take_zero, List.map_append, List.map_cons, List.map_take, List.map_drop, Nat.zero_add]
      rw [List.take_of_length_le (by simp <;> omega)]
      simp
    repeat' (first | ((with_reducible show _ = _); exact rfl) | ((with_reducible show (_ : Nat) < _); exact Nat.zero_lt_succ _) | ((with_reducible show (_ : Nat) ≤ _); exact Nat.le_of_ble_eq_true rfl) | ((with_reducible show Exists _); refine exU8 ?_) | ((fail_if_success (first | (with_reducible show LeG _ _) | (with_reducible show Lp _ _ _ _) | (with_reducible show Exists _) | (with_reducible show callX _ _ _ _ _) | (with_reducible show (_ : Int) ≤ _) | (with_reducible show (_ : Int) < _) | (with_reducible show (_ : Nat) ≤ _) | (with_reducible show (_ : Nat) < _))); (conv => whnf) <;> (first | exact OkR.mk (by kernel_rfl) | exact OkC.mk (by kernel_rfl) | refine Sq.pr ?_ | refine Br.dec (fun hc => ?_) (fun hc => ?_) | refine Br.tt ?_ | refine Br.ff ?_ | refine Br.not ?_ | refine Br.mk (fun hc => ?_) (fun hc => ?_) | refine Opt.nn ?_ | refine Opt.ss ?_ | refine AltA.l ?_ | exact PV.leL_nil | refine PV.leL_cons ?_ ?_ | refine And.intro ?_ ?_ | refine ix_map (fun x hx => ?_) | refine exU8 ?_ | refine nilc (fun hn => ?_) ?_ | exact PV.le_refl _ | exact Nat.zero_lt_succ _ | exact Nat.le_of_ble_eq_true rfl | exact onesOf rfl | exact Or.inl rfl | exact noMem | exact onesOfP rfl | exact okAll rfl | exact okMap (fun _ => ⟨rfl, onesOfP rfl⟩) | exact nonz | refine imp0 (fun hpos => ?_) | refine fits_i64 ?_ ?_ | exact rfl | (with_reducible show LeG _ _) | (with_reducible show Lp _ _ _ _) | (with_reducible show Exists _) | (with_reducible show callX _ _ _ _ _)))) <;> (try (first | exact LeG.refl _ | omega | ((first | (with_reducible show (_ : Int) ≤ _) | (with_reducible show (_ : Int) < _) | (with_reducible show (_ : Nat) ≤ _) | (with_reducible show (_ : Nat) < _) | (with_reducible show ¬ _) | (with_reducible show (_ : Int) = _) | (with_reducible show (_ : Nat) = _)); (simp only [List.length_map, List.length_append, List.length_cons, List.length_nil, List.length_replicate, List.length_take, List.length_drop, List.length_set, Int.toNat_natCast, Int.reduceToNat] <;> omega)) | exact of_decide_eq_true rfl))
    · have hx : l[i]? = some x := hx
      have hcc : Dp.no x < Dp.no u := hc
      have hlt := (List.getElem?_eq_some_iff.1 hx).1
      refine ⟨⟨i + 1, hlt, fun j y hj hy => ?_⟩, by show l.length - (i + 1) < l.length - i; omega, ?_⟩
      · rcases Nat.lt_succ_iff_lt_or_eq.1 hj with h1 | h1
        · exact hq j y h1 hy
        · subst h1; rw [hx] at hy; injection hy with hy; rw [← hy]; exact hcc
      · (first | refine Ent.ofA [] ?_ | refine Ent.ofC [] ?_) <;> (repeat' (first | exact trivial | refine HpLe.dd ?_ | refine HpLe.mk rfl (by simp) rfl (fun h => AObj.noConfusion h) ?_ ?_ | refine And.intro ?_ ?_ | exact VLe.refl _ | exact VLe.msl rfl | exact VLe.rsl rfl | exact VLe.csl rfl | exact VLe.cslr rfl | exact VLe.mp rfl | exact VLe.eptr rfl | exact VLe.ptr rfl | exact VLe.any _ | refine VLe.pe ?_ | refine VLe.agg ?_ | refine VLeL.cons ?_ ?_ | exact VLeL.nil | exact OLe.row _ _ | rfl | refine VLe.rsle rfl ?_ ?_ ?_ | refine OLe.rowe2 ?_ ?_ | refine OLe.mape ?_ ?_ | refine OLe.iter0 ?_ | refine OLe.itere ?_ ?_)) <;> try (first | (simp; done) | (congr 1; omega) | (congr 1; (first | (simp; done) | (simp; omega))))
    · rename_i c1 y hy c2 c3
      have hx : l[i]? = some x := hx
      have hy : l[i]? = some y := hy
      rw [hx] at hy; injection hy with hy; subst hy
      have hp := hpos fun z hz => by rw [hx] at hz; injection hz with hz; subst hz; omega
      rw [if_pos (by unfold hasN; rw [hp, hx]; simpa using hc)]
      exact LeG.mk (PV.le_tup (PV.leL_cons (PV.le_nil _ _ _) (PV.leL_refl _)))
    · rename_i c1 y hy c2 c3 c4
      have hx : l[i]? = some x := hx
      have hy : l[i]? = some y := hy
      rw [hx] at hy; injection hy with hy; subst hy
      have hp := hpos fun z hz => by rw [hx] at hz; injection hz with hz; subst hz; omega
      rw [if_neg (by unfold hasN; rw [hp, hx]; simpa using c4), if_pos (by simpa using hc)]
      exact LeG.mk (PV.le_tup (PV.leL_cons (PV.le_nil _ _ _) (PV.leL_refl _)))
    · rename_i c1 y hy c2 c3 c4
      have hx : l[i]? = some x := hx
      have hy : l[i]? = some y := hy
      rw [hx] at hy; injection hy with hy; subst hy
      have hp := hpos fun z hz => by rw [hx] at hz; injection hz with hz; subst hz; omega
      rw [if_neg (by unfold hasN; rw [hp, hx]; simpa using c4), if_neg (by simpa using hc)]
      exact LeG.of (congrArg (fun q => PV.tup [PV.sl _ false q, eI 0]) (hfin hp))
    · rename_i c1
      have c1 : ¬ (i : Int) < ((l.map eA).length : Int) := by assumption
      rw [List.length_map] at c1
      have hp := hpos fun z hz => by have := (List.getElem?_eq_some_iff.1 hz).1; omega
      rw [if_neg (by unfold hasN; rw [hp, List.getElem?_eq_none (by omega)]; simp), if_pos (by simpa using hc)]
      exact LeG.mk (PV.le_tup (PV.leL_cons (PV.le_nil _ _ _) (PV.leL_refl _)))
    · rename_i c1
      have c1 : ¬ (i : Int) < ((l.map eA).length : Int) := by assumption
      rw [List.length_map] at c1
      have hp := hpos fun z hz => by have := (List.getElem?_eq_some_iff.1 hz).1; omega
      rw [if_neg (by unfold hasN; rw [hp, List.getElem?_eq_none (by omega)]; simp), if_neg (by simpa using hc)]
      exact LeG.of (congrArg (fun q => PV.tup [PV.sl _ false q, eI 0]) (hfin hp))
  · rw [addA_no hz]
    refine PCalls.of (N := 61) (res := [.tmp 4, .tmp 5]) mixed Try.func12 rfl rfl rfl (by kernel_rfl) (by simp) [0, 1, 3, 4, 5, 6, 7, 11, 15, 29, 45, 48] ?_
    repeat' (first | ((with_reducible show _ = _); exact rfl) | ((with_reducible show (_ : Nat) < _); exact Nat.zero_lt_succ _) | ((with_reducible show (_ : Nat) ≤ _); exact Nat.le_of_ble_eq_true rfl) | ((with_reducible show Exists _); refine exU8 ?_) | ((with_reducible show callX _ _ _ _ _); (first | refine call_p (q1) (by kernel_rfl) rfl ?_)) | ((fail_if_success (first | (with_reducible show LeG _ _) | (with_reducible show Lp _ _ _ _) | (with_reducible show Exists _) | (with_reducible show callX _ _ _ _ _) | (with_reducible show (_ : Int) ≤ _) | (with_reducible show (_ : Int) < _) | (with_reducible show (_ : Nat) ≤ _) | (with_reducible show (_ : Nat) < _))); (conv => whnf) <;> (first | exact OkR.mk (by kernel_rfl) | exact OkC.mk (by kernel_rfl) | refine Sq.pr ?_ | refine Br.dec (fun hc => ?_) (fun hc => ?_) | refine Br.tt ?_ | refine Br.ff ?_ | refine Br.not ?_ | refine Br.mk (fun hc => ?_) (fun hc => ?_) | refine Opt.nn ?_ | refine Opt.ss ?_ | refine AltA.l ?_ | exact PV.leL_nil | refine PV.leL_cons ?_ ?_ | refine And.intro ?_ ?_ | refine ix_map (fun x hx => ?_) | refine exU8 ?_ | refine nilc (fun hn => ?_) ?_ | refine call_p (q1) (by kernel_rfl) rfl ?_ | exact PV.le_refl _ | exact Nat.zero_lt_succ _ | exact Nat.le_of_ble_eq_true rfl | exact onesOf rfl | exact Or.inl rfl | exact noMem | exact onesOfP rfl | exact okAll rfl | exact okMap (fun _ => ⟨rfl, onesOfP rfl⟩) | exact nonz | refine imp0 (fun hpos => ?_) | refine fits_i64 ?_ ?_ | exact rfl | (with_reducible show LeG _ _) | (with_reducible show Lp _ _ _ _) | (with_reducible show Exists _) | (with_reducible show callX _ _ _ _ _)))) <;> (try (first | exact LeG.refl _ | omega | ((first | (with_reducible show (_ : Int) ≤ _) | (with_reducible show (_ : Int) < _) | (with_reducible show (_ : Nat) ≤ _) | (with_reducible show (_ : Nat) < _) | (with_reducible show ¬ _) | (with_reducible show (_ : Int) = _) | (with_reducible show (_ : Nat) = _)); (simp only [List.length_map, List.length_append, List.length_cons, List.length_nil, List.length_replicate, List.length_take, List.length_drop, List.length_set, Int.toNat_natCast, Int.reduceToNat] <;> omega)) | exact of_decide_eq_true rfl))
    · ((all_goals (try simp only [*, ↓reduceIte, Bool.false_eq_true, Bool.not_true, Bool.not_false, Bool.and_true, Bool.true_and, Bool.and_false, Bool.false_and, List.nil_append, List.drop_zero, Nat.zero_add, List.take_length, Int.toNat_natCast, Int.toNat_zero, List.append_nil]))); ((all_goals (try refine LeG.mk ?_)); (repeat' (first | exact PV.le_refl _ | exact PV.le_nil _ _ _ | exact PV.le_clip _ _ _ | exact PV.le_nilF _ _ _ | refine PV.le_agg ?_ | refine PV.le_tup ?_ | exact PV.leL_nil | refine PV.leL_cons ?_ ?_ | refine PV.le_of ?_ | rfl)))
end Go.Proofs.Ytghgjobknmddgaa

namespace Go.Proofs.Ytghgjobknmddgaa
open Go Go.Sg
set_option maxRecDepth 100000
set_option maxHeartbeats 4000000
theorem sameI_calls (a b : List Int) (hl : a.length < 1000000) : PCalls Try.prog 20 [eIs a, eIs b] (.bool (decide (a = b))) := by
  refine PCalls.of (N := 26) (res := [.tmp 4]) mixed Try.func20 rfl rfl rfl (by kernel_rfl) (by simp) [0, 1, 4, 5, 10, 14, 25] ?_
  repeat' (first | ((with_reducible show _ = _); exact rfl) | ((with_reducible show (_ : Nat) < _); exact Nat.zero_lt_succ _) | ((with_reducible show (_ : Nat) ≤ _); exact Nat.le_of_ble_eq_true rfl) | ((with_reducible show Exists _); refine exU8 ?_) | ((fail_if_success (first | (with_reducible show LeG _ _) | (with_reducible show Lp _ _ _ _) | (with_reducible show Exists _) | (with_reducible show callX _ _ _ _ _) | (with_reducible show (_ : Int) ≤ _) | (with_reducible show (_ : Int) < _) | (with_reducible show (_ : Nat) ≤ _) | (with_reducible show (_ : Nat) < _))); (conv => whnf) <;> (first | exact OkR.mk (by kernel_rfl) | exact OkC.mk (by kernel_rfl) | refine Sq.pr ?_ | refine Br.dec (fun hc => ?_) (fun hc => ?_) | refine Br.tt ?_ | refine Br.ff ?_ | refine Br.not ?_ | refine Br.mk (fun hc => ?_) (fun hc => ?_) | refine Opt.nn ?_ | refine Opt.ss ?_ | refine AltA.l ?_ | exact PV.leL_nil | refine PV.leL_cons ?_ ?_ | refine And.intro ?_ ?_ | refine ix_map (fun x hx => ?_) | refine exU8 ?_ | refine nilc (fun hn => ?_) ?_ | exact PV.le_refl _ | exact Nat.zero_lt_succ _ | exact Nat.le_of_ble_eq_true rfl | exact onesOf rfl | exact Or.inl rfl | exact noMem | exact onesOfP rfl | exact okAll rfl | exact okMap (fun _ => ⟨rfl, onesOfP rfl⟩) | exact nonz | refine imp0 (fun hpos => ?_) | refine fits_i64 ?_ ?_ | exact rfl | (with_reducible show LeG _ _) | (with_reducible show Lp _ _ _ _) | (with_reducible show Exists _) | (with_reducible show callX _ _ _ _ _)))) <;> (try (first | exact LeG.refl _ | omega | ((first | (with_reducible show (_ : Int) ≤ _) | (with_reducible show (_ : Int) < _) | (with_reducible show (_ : Nat) ≤ _) | (with_reducible show (_ : Nat) < _) | (with_reducible show ¬ _) | (with_reducible show (_ : Int) = _) | (with_reducible show (_ : Nat) = _)); (simp only [List.length_map, List.length_append, List.length_cons, List.length_nil, List.length_replicate, List.length_take, List.length_drop, List.length_set, Int.toNat_natCast, Int.reduceToNat] <;> omega)) | exact of_decide_eq_true rfl))
  · rw [decide_eq_false (fun e => hc (by rw [e]))]; exact LeG.refl _
  have hab : a.length = b.length := by
    have h : ¬ ((a.map eI).length : Int) ≠ ((b.map eI).length : Int) := by assumption
    simp only [List.length_map] at h; omega
  refine Wpc.loopB (α := {i : Nat // i ≤ a.length ∧ ∀ j, j < i → a[j]? = b[j]?}) mixed [0, 1, 4, 5, 10, 14, 25] (fun i => [(5, .p (eI i.1))]) (fun i => a.length - i.1) ⟨0, by omega, fun j h => absurd h (by omega)⟩ ?_ ?_
  · (first | refine Ent.ofA [] ?_ | refine Ent.ofC [] ?_) <;> (repeat' (first | exact trivial | refine HpLe.dd ?_ | refine HpLe.mk rfl (by simp) rfl (fun h => AObj.noConfusion h) ?_ ?_ | refine And.intro ?_ ?_ | exact VLe.refl _ | exact VLe.msl rfl | exact VLe.rsl rfl | exact VLe.csl rfl | exact VLe.cslr rfl | exact VLe.mp rfl | exact VLe.eptr rfl | exact VLe.ptr rfl | exact VLe.any _ | refine VLe.pe ?_ | refine VLe.agg ?_ | refine VLeL.cons ?_ ?_ | exact VLeL.nil | exact OLe.row _ _ | rfl | refine VLe.rsle rfl ?_ ?_ ?_ | refine OLe.rowe2 ?_ ?_ | refine OLe.mape ?_ ?_ | refine OLe.iter0 ?_ | refine OLe.itere ?_ ?_)) <;> try (first | (simp; done) | (congr 1; omega) | (congr 1; (first | (simp; done) | (simp; omega))))
  rintro ⟨i, hi, hq⟩
  have hi : i ≤ a.length := hi
  have hq : ∀ j, j < i → a[j]? = b[j]? := hq
  repeat' (first | ((with_reducible show _ = _); exact rfl) | ((with_reducible show (_ : Nat) < _); exact Nat.zero_lt_succ _) | ((with_reducible show (_ : Nat) ≤ _); exact Nat.le_of_ble_eq_true rfl) | ((with_reducible show Exists _); refine exU8 ?_) | ((fail_if_success (first | (with_reducible show LeG _ _) | (with_reducible show Lp _ _ _ _) | (with_reducible show Exists _) | (with_reducible show callX _ _ _ _ _) | (with_reducible show (_ : Int) ≤ _) | (with_reducible show (_ : Int) < _) | (with_reducible show (_ : Nat) ≤ _) | (with_reducible show (_ : Nat) < _))); (conv => whnf) <;> (first | exact OkR.mk (by kernel_rfl) | exact OkC.mk (by kernel_rfl) | refine Sq.pr ?_ | refine Br.dec (fun hc => ?_) (fun hc => ?_) | refine Br.tt ?_ | refine Br.ff ?_ | refine Br.not ?_ | refine Br.mk (fun hc => ?_) (fun hc => ?_) | refine Opt.nn ?_ | refine Opt.ss ?_ | refine AltA.l ?_ | exact PV.leL_nil | refine PV.leL_cons ?_ ?_ | refine And.intro ?_ ?_ | refine ix_map (fun x hx => ?_) | refine exU8 ?_ | refine nilc (fun hn => ?_) ?_ | exact PV.le_refl _ | exact Nat.zero_lt_succ _ | exact Nat.le_of_ble_eq_true rfl | exact onesOf rfl | exact Or.inl rfl | exact noMem | exact onesOfP rfl | exact okAll rfl | exact okMap (fun _ => ⟨rfl, onesOfP rfl⟩) | exact nonz | refine imp0 (fun hpos => ?_) | refine fits_i64 ?_ ?_ | exact rfl | (with_reducible show LeG _ _) | (with_reducible show Lp _ _ _ _) | (with_reducible show Exists _) | (with_reducible show callX _ _ _ _ _)))) <;> (try (first | exact LeG.refl _ | omega | ((first | (with_reducible show (_ : Int) ≤ _) | (with_reducible show (_ : Int) < _) | (with_reducible show (_ : Nat) ≤ _) | (with_reducible show (_ : Nat) < _) | (with_reducible show ¬ _) | (with_reducible show (_ : Int) = _) | (with_reducible show (_ : Nat) = _)); (simp only [List.length_map, List.length_append, List.length_cons, List.length_nil, List.length_replicate, List.length_take, List.length_drop, List.length_set, Int.toNat_natCast, Int.reduceToNat] <;> omega)) | exact of_decide_eq_true rfl))
  · rename_i y hy
    have hx : b[i]? = some x := hx
    have hy : a[i]? = some y := hy
    have hc : y ≠ x := hc
    rw [decide_eq_false (fun e => hc (by rw [e, hx] at hy; injection hy with hy; exact hy.symm))]; exact LeG.refl _
  · rename_i y hy
    have hx : b[i]? = some x := hx
    have hy : a[i]? = some y := hy
    have hlt := (List.getElem?_eq_some_iff.1 hy).1
    have hc : y = x := Classical.not_not.1 hc
    subst hc
    refine ⟨⟨i + 1, hlt, fun j hj => ?_⟩, by show a.length - (i + 1) < a.length - i; omega, ?_⟩
    · rcases Nat.lt_succ_iff_lt_or_eq.1 hj with h1 | h1
      · exact hq j h1
      · rw [h1, hx, hy]
    · (first | refine Ent.ofA [] ?_ | refine Ent.ofC [] ?_) <;> (repeat' (first | exact trivial | refine HpLe.dd ?_ | refine HpLe.mk rfl (by simp) rfl (fun h => AObj.noConfusion h) ?_ ?_ | refine And.intro ?_ ?_ | exact VLe.refl _ | exact VLe.msl rfl | exact VLe.rsl rfl | exact VLe.csl rfl | exact VLe.cslr rfl | exact VLe.mp rfl | exact VLe.eptr rfl | exact VLe.ptr rfl | exact VLe.any _ | refine VLe.pe ?_ | refine VLe.agg ?_ | refine VLeL.cons ?_ ?_ | exact VLeL.nil | exact OLe.row _ _ | rfl | refine VLe.rsle rfl ?_ ?_ ?_ | refine OLe.rowe2 ?_ ?_ | refine OLe.mape ?_ ?_ | refine OLe.iter0 ?_ | refine OLe.itere ?_ ?_)) <;> try (first | (simp; done) | (congr 1; omega) | (congr 1; (first | (simp; done) | (simp; omega))))
  · have hc : ¬ (i : Int) < ((a.map eI).length : Int) := hc
    rw [List.length_map] at hc
    rw [decide_eq_true (List.ext_getElem? fun j => by
      rcases Nat.lt_or_ge j i with h1 | h1
      · exact hq j h1
      · rw [List.getElem?_eq_none (by omega), List.getElem?_eq_none (by omega)])]
    exact LeG.refl _
end Go.Proofs.Ytghgjobknmddgaa

namespace Go.Proofs.Ytghgjobknmddgaa
open Go Go.Sg
set_option maxRecDepth 100000
set_option maxHeartbeats 20000000
structure Ak where
  frm : Int
  to : Int
  q : Qn
def eAk (x : Ak) : PV := .agg [eI x.frm, eI x.to, eI x.q.off, eI x.q.kind, eI x.q.val, eI x.q.tm, eI x.q.known]
theorem chainL_calls (l : List Dp) (x : Ak) (hl : l.length < 1000000) : PCalls Try.prog 16 [eL l, eAk x] (eC (chainA l x.frm x.to x.q)) := by
  have q1 := chain_calls l x.frm x.to x.q hl
  refine PCalls.of (N := 26) (res := [.tmp 4, .tmp 5, .tmp 6]) mixed Try.func16 rfl rfl rfl (by kernel_rfl) (by simp) [0, 1, 3, 4, 5, 6] ?_
  repeat' (first | ((with_reducible show _ = _); exact rfl) | ((with_reducible show (_ : Nat) < _); exact Nat.zero_lt_succ _) | ((with_reducible show (_ : Nat) ≤ _); exact Nat.le_of_ble_eq_true rfl) | ((with_reducible show Exists _); refine exU8 ?_) | ((with_reducible show callX _ _ _ _ _); (first | refine call_p (q1) (by kernel_rfl) rfl ?_)) | ((fail_if_success (first | (with_reducible show LeG _ _) | (with_reducible show Lp _ _ _ _) | (with_reducible show Exists _) | (with_reducible show callX _ _ _ _ _) | (with_reducible show (_ : Int) ≤ _) | (with_reducible show (_ : Int) < _) | (with_reducible show (_ : Nat) ≤ _) | (with_reducible show (_ : Nat) < _))); (conv => whnf) <;> (first | exact OkR.mk (by kernel_rfl) | exact OkC.mk (by kernel_rfl) | refine Sq.pr ?_ | refine Br.dec (fun hc => ?_) (fun hc => ?_) | refine Br.tt ?_ | refine Br.ff ?_ | refine Br.not ?_ | refine Br.mk (fun hc => ?_) (fun hc => ?_) | refine Opt.nn ?_ | refine Opt.ss ?_ | refine AltA.l ?_ | exact PV.leL_nil | refine PV.leL_cons ?_ ?_ | refine And.intro ?_ ?_ | refine ix_map (fun x hx => ?_) | refine exU8 ?_ | refine nilc (fun hn => ?_) ?_ | refine call_p (q1) (by kernel_rfl) rfl ?_ | exact PV.le_refl _ | exact Nat.zero_lt_succ _ | exact Nat.le_of_ble_eq_true rfl | exact onesOf rfl | exact Or.inl rfl | exact noMem | exact onesOfP rfl | exact okAll rfl | exact okMap (fun _ => ⟨rfl, onesOfP rfl⟩) | exact nonz | refine imp0 (fun hpos => ?_) | refine fits_i64 ?_ ?_ | exact rfl | (with_reducible show LeG _ _) | (with_reducible show Lp _ _ _ _) | (with_reducible show Exists _) | (with_reducible show callX _ _ _ _ _)))) <;> (try (first | exact LeG.refl _ | omega | ((first | (with_reducible show (_ : Int) ≤ _) | (with_reducible show (_ : Int) < _) | (with_reducible show (_ : Nat) ≤ _) | (with_reducible show (_ : Nat) < _) | (with_reducible show ¬ _) | (with_reducible show (_ : Int) = _) | (with_reducible show (_ : Nat) = _)); (simp only [List.length_map, List.length_append, List.length_cons, List.length_nil, List.length_replicate, List.length_take, List.length_drop, List.length_set, Int.toNat_natCast, Int.reduceToNat] <;> omega)) | exact of_decide_eq_true rfl))
theorem provesL_calls (l : List Dp) (x : Ak) (p : List Int) (hl : l.length < 1000000) : PCalls Try.prog 18 [eL l, eAk x, eIs p] (.tup [.bool (provA l x.frm x.to x.q p).1, eI (provA l x.frm x.to x.q p).2]) := by
  have q1 := proves_calls l x.frm x.to x.q p hl
  refine PCalls.of (N := 27) (res := [.tmp 6, .tmp 7]) mixed Try.func18 rfl rfl rfl (by kernel_rfl) (by simp) [0, 1, 2, 4, 6, 7] ?_
  repeat' (first | ((with_reducible show _ = _); exact rfl) | ((with_reducible show (_ : Nat) < _); exact Nat.zero_lt_succ _) | ((with_reducible show (_ : Nat) ≤ _); exact Nat.le_of_ble_eq_true rfl) | ((with_reducible show Exists _); refine exU8 ?_) | ((with_reducible show callX _ _ _ _ _); (first | refine call_p (q1) (by kernel_rfl) rfl ?_)) | ((fail_if_success (first | (with_reducible show LeG _ _) | (with_reducible show Lp _ _ _ _) | (with_reducible show Exists _) | (with_reducible show callX _ _ _ _ _) | (with_reducible show (_ : Int) ≤ _) | (with_reducible show (_ : Int) < _) | (with_reducible show (_ : Nat) ≤ _) | (with_reducible show (_ : Nat) < _))); (conv => whnf) <;> (first | exact OkR.mk (by kernel_rfl) | exact OkC.mk (by kernel_rfl) | refine Sq.pr ?_ | refine Br.dec (fun hc => ?_) (fun hc => ?_) | refine Br.tt ?_ | refine Br.ff ?_ | refine Br.not ?_ | refine Br.mk (fun hc => ?_) (fun hc => ?_) | refine Opt.nn ?_ | refine Opt.ss ?_ | refine AltA.l ?_ | exact PV.leL_nil | refine PV.leL_cons ?_ ?_ | refine And.intro ?_ ?_ | refine ix_map (fun x hx => ?_) | refine exU8 ?_ | refine nilc (fun hn => ?_) ?_ | refine call_p (q1) (by kernel_rfl) rfl ?_ | exact PV.le_refl _ | exact Nat.zero_lt_succ _ | exact Nat.le_of_ble_eq_true rfl | exact onesOf rfl | exact Or.inl rfl | exact noMem | exact onesOfP rfl | exact okAll rfl | exact okMap (fun _ => ⟨rfl, onesOfP rfl⟩) | exact nonz | refine imp0 (fun hpos => ?_) | refine fits_i64 ?_ ?_ | exact rfl | (with_reducible show LeG _ _) | (with_reducible show Lp _ _ _ _) | (with_reducible show Exists _) | (with_reducible show callX _ _ _ _ _)))) <;> (try (first | exact LeG.refl _ | omega | ((first | (with_reducible show (_ : Int) ≤ _) | (with_reducible show (_ : Int) < _) | (with_reducible show (_ : Nat) ≤ _) | (with_reducible show (_ : Nat) < _) | (with_reducible show ¬ _) | (with_reducible show (_ : Int) = _) | (with_reducible show (_ : Nat) = _)); (simp only [List.length_map, List.length_append, List.length_cons, List.length_nil, List.length_replicate, List.length_take, List.length_drop, List.length_set, Int.toNat_natCast, Int.reduceToNat] <;> omega)) | exact of_decide_eq_true rfl))
theorem lets_calls (n f t m : Int) : PCalls Try.prog 23 [eI n, eI f, eI t, eI m] (eA ⟨n, 0, 0, 1099511627776, f, t, 0, -1, m, false⟩) := by
  refine PCalls.of (N := 14) (res := [.cell 8 24]) mixed Try.func23 rfl rfl rfl (by kernel_rfl) (by simp) [0, 1, 2, 3, 8] ?_
  repeat' (first | ((with_reducible show _ = _); exact rfl) | ((with_reducible show (_ : Nat) < _); exact Nat.zero_lt_succ _) | ((with_reducible show (_ : Nat) ≤ _); exact Nat.le_of_ble_eq_true rfl) | ((with_reducible show Exists _); refine exU8 ?_) | ((fail_if_success (first | (with_reducible show LeG _ _) | (with_reducible show Lp _ _ _ _) | (with_reducible show Exists _) | (with_reducible show callX _ _ _ _ _) | (with_reducible show (_ : Int) ≤ _) | (with_reducible show (_ : Int) < _) | (with_reducible show (_ : Nat) ≤ _) | (with_reducible show (_ : Nat) < _))); (conv => whnf) <;> (first | exact OkR.mk (by kernel_rfl) | exact OkC.mk (by kernel_rfl) | refine Sq.pr ?_ | refine Br.dec (fun hc => ?_) (fun hc => ?_) | refine Br.tt ?_ | refine Br.ff ?_ | refine Br.not ?_ | refine Br.mk (fun hc => ?_) (fun hc => ?_) | refine Opt.nn ?_ | refine Opt.ss ?_ | refine AltA.l ?_ | exact PV.leL_nil | refine PV.leL_cons ?_ ?_ | refine And.intro ?_ ?_ | refine ix_map (fun x hx => ?_) | refine exU8 ?_ | refine nilc (fun hn => ?_) ?_ | exact PV.le_refl _ | exact Nat.zero_lt_succ _ | exact Nat.le_of_ble_eq_true rfl | exact onesOf rfl | exact Or.inl rfl | exact noMem | exact onesOfP rfl | exact okAll rfl | exact okMap (fun _ => ⟨rfl, onesOfP rfl⟩) | exact nonz | refine imp0 (fun hpos => ?_) | refine fits_i64 ?_ ?_ | exact rfl | (with_reducible show LeG _ _) | (with_reducible show Lp _ _ _ _) | (with_reducible show Exists _) | (with_reducible show callX _ _ _ _ _)))) <;> (try (first | exact LeG.refl _ | omega | ((first | (with_reducible show (_ : Int) ≤ _) | (with_reducible show (_ : Int) < _) | (with_reducible show (_ : Nat) ≤ _) | (with_reducible show (_ : Nat) < _) | (with_reducible show ¬ _) | (with_reducible show (_ : Int) = _) | (with_reducible show (_ : Nat) = _)); (simp only [List.length_map, List.length_append, List.length_cons, List.length_nil, List.length_replicate, List.length_take, List.length_drop, List.length_set, Int.toNat_natCast, Int.reduceToNat] <;> omega)) | exact of_decide_eq_true rfl))
  ((all_goals (try simp only [*, ↓reduceIte, Bool.false_eq_true, Bool.not_true, Bool.not_false, Bool.and_true, Bool.true_and, Bool.and_false, Bool.false_and, List.nil_append, List.drop_zero, Nat.zero_add, List.take_length, Int.toNat_natCast, Int.toNat_zero, List.append_nil]))); ((all_goals (try refine LeG.mk ?_)); (repeat' (first | exact PV.le_refl _ | exact PV.le_nil _ _ _ | exact PV.le_clip _ _ _ | exact PV.le_nilF _ _ _ | refine PV.le_agg ?_ | refine PV.le_tup ?_ | exact PV.leL_nil | refine PV.leL_cons ?_ ?_ | refine PV.le_of ?_ | rfl)))
theorem rfew_calls (l : List Dp) : PCalls Try.prog 10 [eL l] (.bool (decide (l.length ≤ 12) || decide (4096 < l.length) && decide (l.length ≤ 4200))) := by
  refine PCalls.of (N := 16) (res := [.tmp 2]) mixed Try.func10 rfl rfl rfl (by kernel_rfl) (by simp) [0, 2] ?_
  repeat' (first | ((with_reducible show _ = _); exact rfl) | ((with_reducible show (_ : Nat) < _); exact Nat.zero_lt_succ _) | ((with_reducible show (_ : Nat) ≤ _); exact Nat.le_of_ble_eq_true rfl) | ((with_reducible show Exists _); refine exU8 ?_) | ((fail_if_success (first | (with_reducible show LeG _ _) | (with_reducible show Lp _ _ _ _) | (with_reducible show Exists _) | (with_reducible show callX _ _ _ _ _) | (with_reducible show (_ : Int) ≤ _) | (with_reducible show (_ : Int) < _) | (with_reducible show (_ : Nat) ≤ _) | (with_reducible show (_ : Nat) < _))); (conv => whnf) <;> (first | exact OkR.mk (by kernel_rfl) | exact OkC.mk (by kernel_rfl) | refine Sq.pr ?_ | refine Br.dec (fun hc => ?_) (fun hc => ?_) | refine Br.tt ?_ | refine Br.ff ?_ | refine Br.not ?_ | refine Br.mk (fun hc => ?_) (fun hc => ?_) | refine Opt.nn ?_ | refine Opt.ss ?_ | refine AltA.l ?_ | exact PV.leL_nil | refine PV.leL_cons ?_ ?_ | refine And.intro ?_ ?_ | refine ix_map (fun x hx => ?_) | refine exU8 ?_ | refine nilc (fun hn => ?_) ?_ | exact PV.le_refl _ | exact Nat.zero_lt_succ _ | exact Nat.le_of_ble_eq_true rfl | exact onesOf rfl | exact Or.inl rfl | exact noMem | exact onesOfP rfl | exact okAll rfl | exact okMap (fun _ => ⟨rfl, onesOfP rfl⟩) | exact nonz | refine imp0 (fun hpos => ?_) | refine fits_i64 ?_ ?_ | exact rfl | (with_reducible show LeG _ _) | (with_reducible show Lp _ _ _ _) | (with_reducible show Exists _) | (with_reducible show callX _ _ _ _ _)))) <;> (try (first | exact LeG.refl _ | omega | ((first | (with_reducible show (_ : Int) ≤ _) | (with_reducible show (_ : Int) < _) | (with_reducible show (_ : Nat) ≤ _) | (with_reducible show (_ : Nat) < _) | (with_reducible show ¬ _) | (with_reducible show (_ : Int) = _) | (with_reducible show (_ : Nat) = _)); (simp only [List.length_map, List.length_append, List.length_cons, List.length_nil, List.length_replicate, List.length_take, List.length_drop, List.length_set, Int.toNat_natCast, Int.reduceToNat] <;> omega)) | exact of_decide_eq_true rfl))
  all_goals (refine LeG.bool ?_; rw [Bool.eq_iff_iff]; simp at * <;> omega)
def isA (l : List Dp) (x : Ak) (w : List Int) : Bool := decide ((chainA l x.frm x.to x.q).2.2 = 0) && decide ((chainA l x.frm x.to x.q).2.1 = decide (0 < w.length)) && decide ((chainA l x.frm x.to x.q).1 = w)
theorem is_calls (l : List Dp) (x : Ak) (w : List Int) (hl : l.length < 1000000) (hc : (chainA l x.frm x.to x.q).1.length < 1000000) : PCalls Try.prog 24 [eL l, eAk x, eIs w] (.bool (isA l x w)) := by
  have q1 := chainL_calls l x hl
  have q2 := sameI_calls (chainA l x.frm x.to x.q).1 w hc
  unfold isA
  generalize chainA l x.frm x.to x.q = r at *
  obtain ⟨r1, r2, r3⟩ := r
  refine PCalls.of (N := 31) (res := [.tmp 6]) mixed Try.func24 rfl rfl rfl (by kernel_rfl) (by simp) [0, 1, 2, 4, 6, 7, 8, 9] ?_
  repeat' (first | ((with_reducible show _ = _); exact rfl) | ((with_reducible show (_ : Nat) < _); exact Nat.zero_lt_succ _) | ((with_reducible show (_ : Nat) ≤ _); exact Nat.le_of_ble_eq_true rfl) | ((with_reducible show Exists _); refine exU8 ?_) | ((with_reducible show callX _ _ _ _ _); (first | refine call_p (q1) (by kernel_rfl) rfl ?_ | refine call_p (q2) (by kernel_rfl) rfl ?_)) | ((fail_if_success (first | (with_reducible show LeG _ _) | (with_reducible show Lp _ _ _ _) | (with_reducible show Exists _) | (with_reducible show callX _ _ _ _ _) | (with_reducible show (_ : Int) ≤ _) | (with_reducible show (_ : Int) < _) | (with_reducible show (_ : Nat) ≤ _) | (with_reducible show (_ : Nat) < _))); (conv => whnf) <;> (first | exact OkR.mk (by kernel_rfl) | exact OkC.mk (by kernel_rfl) | refine Sq.pr ?_ | refine Br.dec (fun hc => ?_) (fun hc => ?_) | refine Br.tt ?_ | refine Br.ff ?_ | refine Br.not ?_ | refine Br.mk (fun hc => ?_) (fun hc => ?_) | refine Opt.nn ?_ | refine Opt.ss ?_ | refine AltA.l ?_ | exact PV.leL_nil | refine PV.leL_cons ?_ ?_ | refine And.intro ?_ ?_ | refine ix_map (fun x hx => ?_) | refine exU8 ?_ | refine nilc (fun hn => ?_) ?_ | refine call_p (q1) (by kernel_rfl) rfl ?_ | refine call_p (q2) (by kernel_rfl) rfl ?_ | exact PV.le_refl _ | exact Nat.zero_lt_succ _ | exact Nat.le_of_ble_eq_true rfl | exact onesOf rfl | exact Or.inl rfl | exact noMem | exact onesOfP rfl | exact okAll rfl | exact okMap (fun _ => ⟨rfl, onesOfP rfl⟩) | exact nonz | refine imp0 (fun hpos => ?_) | refine fits_i64 ?_ ?_ | exact rfl | (with_reducible show LeG _ _) | (with_reducible show Lp _ _ _ _) | (with_reducible show Exists _) | (with_reducible show callX _ _ _ _ _)))) <;> (try (first | exact LeG.refl _ | omega | ((first | (with_reducible show (_ : Int) ≤ _) | (with_reducible show (_ : Int) < _) | (with_reducible show (_ : Nat) ≤ _) | (with_reducible show (_ : Nat) < _) | (with_reducible show ¬ _) | (with_reducible show (_ : Int) = _) | (with_reducible show (_ : Nat) = _)); (simp only [List.length_map, List.length_append, List.length_cons, List.length_nil, List.length_replicate, List.length_take, List.length_drop, List.length_set, Int.toNat_natCast, Int.reduceToNat] <;> omega)) | exact of_decide_eq_true rfl))
  all_goals (refine LeG.bool ?_; dsimp only at *)
  all_goals first
  | (have h3 : r3 = 0 := by assumption
     have h2 : r2 = decide (0 < w.length) := by
       have h : r2 = decide ((0 : Int) < ((w.map eI).length : Int)) := by assumption
       rw [List.length_map] at h
       rw [h]; exact decide_eq_decide.2 (by omega)
     rw [decide_eq_true h3, decide_eq_true h2]; simp; done)
  | (have h3 : r3 = 0 := by assumption
     have h2 : ¬ r2 = decide (0 < w.length) := by
       have h : ¬ r2 = decide ((0 : Int) < ((w.map eI).length : Int)) := by assumption
       rw [List.length_map] at h
       have h' : decide (0 < w.length) = decide ((0 : Int) < (w.length : Int)) := decide_eq_decide.2 (by omega)
       rw [h']; exact h
     rw [decide_eq_true h3, decide_eq_false h2]; simp; done)
  | (have h3 : ¬ r3 = 0 := by assumption
     rw [decide_eq_false h3]; simp; done)
end Go.Proofs.Ytghgjobknmddgaa

namespace Go.Proofs.Ytghgjobknmddgaa
open Go Go.Sg
set_option maxRecDepth 100000
set_option maxHeartbeats 20000000
def lt (n f t m : Int) : Dp := ⟨n, 0, 0, 1099511627776, f, t, 0, -1, m, false⟩
def d4 : Dp := lt 4 1 2 500
def d7 : Dp := lt 7 2 3 100
def d5 : Dp := ⟨5, 9, 0, 0, 2, 3, 0, -1, 0, true⟩
def q0 : Qn := ⟨0, 0, 0, 0, 0⟩
def qv (v t : Int) : Qn := ⟨0, 0, v, t, 0⟩
def a33 : Ak := ⟨3, 3, q0⟩
def a34 : Ak := ⟨3, 4, q0⟩
def a13 : Ak := ⟨1, 3, qv 100 0⟩
def a64 : Ak := ⟨64, 0, q0⟩
def aq : Ak := ⟨1, 3, qv 100 9⟩
def aov : Ak := ⟨1, 3, qv 101 9⟩
def aer : Ak := ⟨1, 3, qv 100 8⟩
theorem l1 : PCalls Try.prog 23 [eI 4, eI 1, eI 2, eI 500] (eA d4) := lets_calls 4 1 2 500
theorem l2 : PCalls Try.prog 23 [eI 7, eI 2, eI 3, eI 100] (eA d7) := lets_calls 7 2 3 100
theorem l3 : PCalls Try.prog 23 [eI 4, eI 1, eI 2, eI 0] (eA (lt 4 1 2 0)) := lets_calls 4 1 2 0
theorem l4 : PCalls Try.prog 23 [eI 0, eI 1, eI 1, eI 0] (eA (lt 0 1 1 0)) := lets_calls 0 1 1 0
theorem c1 : PCalls Try.prog 16 [eL [], eAk a33] (eC ([], true, 0)) := by have h := chainL_calls [] a33 (by decide); rwa [show chainA [] a33.frm a33.to a33.q = ([], true, 0) from by kernel_rfl] at h
theorem c2 : PCalls Try.prog 16 [eL [], eAk a64] (eC ([], false, 1)) := by have h := chainL_calls [] a64 (by decide); rwa [show chainA [] a64.frm a64.to a64.q = ([], false, 1) from by kernel_rfl] at h
theorem p1 : PCalls Try.prog 18 [eL [], eAk a34, eIs []] (.tup [.bool false, eI 0]) := by have h := provesL_calls [] a34 [] (by decide); rwa [show provA [] a34.frm a34.to a34.q [] = (false, 0) from by kernel_rfl] at h
theorem p2 : PCalls Try.prog 18 [eL [d4, d7], eAk a13, eIs [4, 7]] (.tup [.bool true, eI 0]) := by have h := provesL_calls [d4, d7] a13 [4, 7] (by decide); rwa [show provA [d4, d7] a13.frm a13.to a13.q [4, 7] = (true, 0) from by kernel_rfl] at h
theorem s1 : PCalls Try.prog 11 [eL [d4, d7], eA d5] (eR ([d4, d5, d7], 0)) := by have h := add_calls [d4, d7] d5 (by decide); rwa [show addA [d4, d7] d5 = ([d4, d5, d7], 0) from by kernel_rfl] at h
theorem s2 : PCalls Try.prog 11 [eL [d4, d7], eA (lt 4 1 2 0)] (eR ([], 151)) := by have h := add_calls [d4, d7] (lt 4 1 2 0) (by decide); rwa [show addA [d4, d7] (lt 4 1 2 0) = ([], 151) from by kernel_rfl] at h
theorem s3 : PCalls Try.prog 13 [eL [lt 0 1 1 0]] (eI 160) := by have h := check_calls [lt 0 1 1 0] (by decide); rwa [show chkA [lt 0 1 1 0] = 160 from by kernel_rfl] at h
theorem s4 : PCalls Try.prog 13 [eL [d4, d7]] (eI 0) := by have h := check_calls [d4, d7] (by decide); rwa [show chkA [d4, d7] = 0 from by kernel_rfl] at h
theorem i1 : PCalls Try.prog 24 [eL [], eAk a34, eIs []] (.bool true) := by have h := is_calls [] a34 [] (by decide) (of_decide_eq_true (by kernel_rfl)); rwa [show isA [] a34 [] = true from by kernel_rfl] at h
theorem i2 : PCalls Try.prog 24 [eL [d4, d7], eAk aq, eIs [4, 7]] (.bool true) := by have h := is_calls [d4, d7] aq [4, 7] (by decide) (of_decide_eq_true (by kernel_rfl)); rwa [show isA [d4, d7] aq [4, 7] = true from by kernel_rfl] at h
theorem i3 : PCalls Try.prog 24 [eL [d4, d7], eAk aov, eIs []] (.bool true) := by have h := is_calls [d4, d7] aov [] (by decide) (of_decide_eq_true (by kernel_rfl)); rwa [show isA [d4, d7] aov [] = true from by kernel_rfl] at h
theorem i4 : PCalls Try.prog 24 [eL [d4, d5, d7], eAk aq, eIs []] (.bool true) := by have h := is_calls [d4, d5, d7] aq [] (by decide) (of_decide_eq_true (by kernel_rfl)); rwa [show isA [d4, d5, d7] aq [] = true from by kernel_rfl] at h
theorem i5 : PCalls Try.prog 24 [eL [d4, d5, d7], eAk aer, eIs [4, 7]] (.bool true) := by have h := is_calls [d4, d5, d7] aer [4, 7] (by decide) (of_decide_eq_true (by kernel_rfl)); rwa [show isA [d4, d5, d7] aer [4, 7] = true from by kernel_rfl] at h
theorem sane_calls : PCalls Try.prog 9 [] (.bool true) := by
  refine PCalls.of (N := 141) (res := [.tmp 0]) mixed Try.func9 rfl rfl rfl (by kernel_rfl) (by simp) [0, 1, 2, 3, 4, 5, 6, 7, 8, 9, 10, 12, 15, 16, 17, 18, 100] ?_
  repeat' (first | ((with_reducible show _ = _); exact rfl) | ((with_reducible show (_ : Nat) < _); exact Nat.zero_lt_succ _) | ((with_reducible show (_ : Nat) ≤ _); exact Nat.le_of_ble_eq_true rfl) | ((with_reducible show Exists _); refine exU8 ?_) | ((with_reducible show callX _ _ _ _ _); (first | refine call_p (l1) (by kernel_rfl) rfl ?_ | refine call_p (l2) (by kernel_rfl) rfl ?_ | refine call_p (l3) (by kernel_rfl) rfl ?_ | refine call_p (l4) (by kernel_rfl) rfl ?_ | (refine call_z (c1) (by kernel_rfl) rfl ?_; (repeat' (first | exact PV.leL_nil | refine PV.leL_cons ?_ ?_ | refine And.intro ?_ ?_ | exact Nat.zero_lt_succ _ | exact Nat.le_of_ble_eq_true rfl | exact PV.le_refl _ | exact PV.le_nil _ _ _ | exact PV.le_clip _ _ _ | refine PV.le_agg ?_ | refine PV.le_tup ?_ | rfl)); fail_if_success (any_goals (refine PV.le_of ?_))) | (refine call_z (c2) (by kernel_rfl) rfl ?_; (repeat' (first | exact PV.leL_nil | refine PV.leL_cons ?_ ?_ | refine And.intro ?_ ?_ | exact Nat.zero_lt_succ _ | exact Nat.le_of_ble_eq_true rfl | exact PV.le_refl _ | exact PV.le_nil _ _ _ | exact PV.le_clip _ _ _ | refine PV.le_agg ?_ | refine PV.le_tup ?_ | rfl)); fail_if_success (any_goals (refine PV.le_of ?_))) | (refine call_z (p1) (by kernel_rfl) rfl ?_; (repeat' (first | exact PV.leL_nil | refine PV.leL_cons ?_ ?_ | refine And.intro ?_ ?_ | exact Nat.zero_lt_succ _ | exact Nat.le_of_ble_eq_true rfl | exact PV.le_refl _ | exact PV.le_nil _ _ _ | exact PV.le_clip _ _ _ | refine PV.le_agg ?_ | refine PV.le_tup ?_ | rfl)); fail_if_success (any_goals (refine PV.le_of ?_))) | (refine call_z (p2) (by kernel_rfl) rfl ?_; (repeat' (first | exact PV.leL_nil | refine PV.leL_cons ?_ ?_ | refine And.intro ?_ ?_ | exact Nat.zero_lt_succ _ | exact Nat.le_of_ble_eq_true rfl | exact PV.le_refl _ | exact PV.le_nil _ _ _ | exact PV.le_clip _ _ _ | refine PV.le_agg ?_ | refine PV.le_tup ?_ | rfl)); fail_if_success (any_goals (refine PV.le_of ?_))) | (refine call_z (s1) (by kernel_rfl) rfl ?_; (repeat' (first | exact PV.leL_nil | refine PV.leL_cons ?_ ?_ | refine And.intro ?_ ?_ | exact Nat.zero_lt_succ _ | exact Nat.le_of_ble_eq_true rfl | exact PV.le_refl _ | exact PV.le_nil _ _ _ | exact PV.le_clip _ _ _ | refine PV.le_agg ?_ | refine PV.le_tup ?_ | rfl)); fail_if_success (any_goals (refine PV.le_of ?_))) | (refine call_z (s2) (by kernel_rfl) rfl ?_; (repeat' (first | exact PV.leL_nil | refine PV.leL_cons ?_ ?_ | refine And.intro ?_ ?_ | exact Nat.zero_lt_succ _ | exact Nat.le_of_ble_eq_true rfl | exact PV.le_refl _ | exact PV.le_nil _ _ _ | exact PV.le_clip _ _ _ | refine PV.le_agg ?_ | refine PV.le_tup ?_ | rfl)); fail_if_success (any_goals (refine PV.le_of ?_))) | (refine call_z (s3) (by kernel_rfl) rfl ?_; (repeat' (first | exact PV.leL_nil | refine PV.leL_cons ?_ ?_ | refine And.intro ?_ ?_ | exact Nat.zero_lt_succ _ | exact Nat.le_of_ble_eq_true rfl | exact PV.le_refl _ | exact PV.le_nil _ _ _ | exact PV.le_clip _ _ _ | refine PV.le_agg ?_ | refine PV.le_tup ?_ | rfl)); fail_if_success (any_goals (refine PV.le_of ?_))) | (refine call_z (s4) (by kernel_rfl) rfl ?_; (repeat' (first | exact PV.leL_nil | refine PV.leL_cons ?_ ?_ | refine And.intro ?_ ?_ | exact Nat.zero_lt_succ _ | exact Nat.le_of_ble_eq_true rfl | exact PV.le_refl _ | exact PV.le_nil _ _ _ | exact PV.le_clip _ _ _ | refine PV.le_agg ?_ | refine PV.le_tup ?_ | rfl)); fail_if_success (any_goals (refine PV.le_of ?_))) | (refine call_z (i1) (by kernel_rfl) rfl ?_; (repeat' (first | exact PV.leL_nil | refine PV.leL_cons ?_ ?_ | refine And.intro ?_ ?_ | exact Nat.zero_lt_succ _ | exact Nat.le_of_ble_eq_true rfl | exact PV.le_refl _ | exact PV.le_nil _ _ _ | exact PV.le_clip _ _ _ | refine PV.le_agg ?_ | refine PV.le_tup ?_ | rfl)); fail_if_success (any_goals (refine PV.le_of ?_))) | (refine call_z (i2) (by kernel_rfl) rfl ?_; (repeat' (first | exact PV.leL_nil | refine PV.leL_cons ?_ ?_ | refine And.intro ?_ ?_ | exact Nat.zero_lt_succ _ | exact Nat.le_of_ble_eq_true rfl | exact PV.le_refl _ | exact PV.le_nil _ _ _ | exact PV.le_clip _ _ _ | refine PV.le_agg ?_ | refine PV.le_tup ?_ | rfl)); fail_if_success (any_goals (refine PV.le_of ?_))) | (refine call_z (i3) (by kernel_rfl) rfl ?_; (repeat' (first | exact PV.leL_nil | refine PV.leL_cons ?_ ?_ | refine And.intro ?_ ?_ | exact Nat.zero_lt_succ _ | exact Nat.le_of_ble_eq_true rfl | exact PV.le_refl _ | exact PV.le_nil _ _ _ | exact PV.le_clip _ _ _ | refine PV.le_agg ?_ | refine PV.le_tup ?_ | rfl)); fail_if_success (any_goals (refine PV.le_of ?_))) | (refine call_z (i4) (by kernel_rfl) rfl ?_; (repeat' (first | exact PV.leL_nil | refine PV.leL_cons ?_ ?_ | refine And.intro ?_ ?_ | exact Nat.zero_lt_succ _ | exact Nat.le_of_ble_eq_true rfl | exact PV.le_refl _ | exact PV.le_nil _ _ _ | exact PV.le_clip _ _ _ | refine PV.le_agg ?_ | refine PV.le_tup ?_ | rfl)); fail_if_success (any_goals (refine PV.le_of ?_))) | (refine call_z (i5) (by kernel_rfl) rfl ?_; (repeat' (first | exact PV.leL_nil | refine PV.leL_cons ?_ ?_ | refine And.intro ?_ ?_ | exact Nat.zero_lt_succ _ | exact Nat.le_of_ble_eq_true rfl | exact PV.le_refl _ | exact PV.le_nil _ _ _ | exact PV.le_clip _ _ _ | refine PV.le_agg ?_ | refine PV.le_tup ?_ | rfl)); fail_if_success (any_goals (refine PV.le_of ?_))) | exact of_decide_eq_true rfl)) | ((fail_if_success (first | (with_reducible show LeG _ _) | (with_reducible show Lp _ _ _ _) | (with_reducible show Exists _) | (with_reducible show callX _ _ _ _ _) | (with_reducible show (_ : Int) ≤ _) | (with_reducible show (_ : Int) < _) | (with_reducible show (_ : Nat) ≤ _) | (with_reducible show (_ : Nat) < _))); (conv => whnf) <;> (first | exact OkR.mk (by kernel_rfl) | exact OkC.mk (by kernel_rfl) | refine Br.tt ?_ | refine Br.ff ?_ | refine ix_lit rfl ?_ | refine Sq.fz (id := 2) [(1, false)] ?_ | refine Sq.pr ?_ | refine Br.dec (fun hc => ?_) (fun hc => ?_) | refine Br.tt ?_ | refine Br.ff ?_ | refine Br.not ?_ | refine Br.mk (fun hc => ?_) (fun hc => ?_) | refine Opt.nn ?_ | refine Opt.ss ?_ | refine AltA.l ?_ | exact PV.leL_nil | refine PV.leL_cons ?_ ?_ | refine And.intro ?_ ?_ | refine ix_map (fun x hx => ?_) | refine exU8 ?_ | refine nilc (fun hn => ?_) ?_ | refine call_p (l1) (by kernel_rfl) rfl ?_ | refine call_p (l2) (by kernel_rfl) rfl ?_ | refine call_p (l3) (by kernel_rfl) rfl ?_ | refine call_p (l4) (by kernel_rfl) rfl ?_ | (refine call_z (c1) (by kernel_rfl) rfl ?_; (repeat' (first | exact PV.leL_nil | refine PV.leL_cons ?_ ?_ | refine And.intro ?_ ?_ | exact Nat.zero_lt_succ _ | exact Nat.le_of_ble_eq_true rfl | exact PV.le_refl _ | exact PV.le_nil _ _ _ | exact PV.le_clip _ _ _ | refine PV.le_agg ?_ | refine PV.le_tup ?_ | rfl)); fail_if_success (any_goals (refine PV.le_of ?_))) | (refine call_z (c2) (by kernel_rfl) rfl ?_; (repeat' (first | exact PV.leL_nil | refine PV.leL_cons ?_ ?_ | refine And.intro ?_ ?_ | exact Nat.zero_lt_succ _ | exact Nat.le_of_ble_eq_true rfl | exact PV.le_refl _ | exact PV.le_nil _ _ _ | exact PV.le_clip _ _ _ | refine PV.le_agg ?_ | refine PV.le_tup ?_ | rfl)); fail_if_success (any_goals (refine PV.le_of ?_))) | (refine call_z (p1) (by kernel_rfl) rfl ?_; (repeat' (first | exact PV.leL_nil | refine PV.leL_cons ?_ ?_ | refine And.intro ?_ ?_ | exact Nat.zero_lt_succ _ | exact Nat.le_of_ble_eq_true rfl | exact PV.le_refl _ | exact PV.le_nil _ _ _ | exact PV.le_clip _ _ _ | refine PV.le_agg ?_ | refine PV.le_tup ?_ | rfl)); fail_if_success (any_goals (refine PV.le_of ?_))) | (refine call_z (p2) (by kernel_rfl) rfl ?_; (repeat' (first | exact PV.leL_nil | refine PV.leL_cons ?_ ?_ | refine And.intro ?_ ?_ | exact Nat.zero_lt_succ _ | exact Nat.le_of_ble_eq_true rfl | exact PV.le_refl _ | exact PV.le_nil _ _ _ | exact PV.le_clip _ _ _ | refine PV.le_agg ?_ | refine PV.le_tup ?_ | rfl)); fail_if_success (any_goals (refine PV.le_of ?_))) | (refine call_z (s1) (by kernel_rfl) rfl ?_; (repeat' (first | exact PV.leL_nil | refine PV.leL_cons ?_ ?_ | refine And.intro ?_ ?_ | exact Nat.zero_lt_succ _ | exact Nat.le_of_ble_eq_true rfl | exact PV.le_refl _ | exact PV.le_nil _ _ _ | exact PV.le_clip _ _ _ | refine PV.le_agg ?_ | refine PV.le_tup ?_ | rfl)); fail_if_success (any_goals (refine PV.le_of ?_))) | (refine call_z (s2) (by kernel_rfl) rfl ?_; (repeat' (first | exact PV.leL_nil | refine PV.leL_cons ?_ ?_ | refine And.intro ?_ ?_ | exact Nat.zero_lt_succ _ | exact Nat.le_of_ble_eq_true rfl | exact PV.le_refl _ | exact PV.le_nil _ _ _ | exact PV.le_clip _ _ _ | refine PV.le_agg ?_ | refine PV.le_tup ?_ | rfl)); fail_if_success (any_goals (refine PV.le_of ?_))) | (refine call_z (s3) (by kernel_rfl) rfl ?_; (repeat' (first | exact PV.leL_nil | refine PV.leL_cons ?_ ?_ | refine And.intro ?_ ?_ | exact Nat.zero_lt_succ _ | exact Nat.le_of_ble_eq_true rfl | exact PV.le_refl _ | exact PV.le_nil _ _ _ | exact PV.le_clip _ _ _ | refine PV.le_agg ?_ | refine PV.le_tup ?_ | rfl)); fail_if_success (any_goals (refine PV.le_of ?_))) | (refine call_z (s4) (by kernel_rfl) rfl ?_; (repeat' (first | exact PV.leL_nil | refine PV.leL_cons ?_ ?_ | refine And.intro ?_ ?_ | exact Nat.zero_lt_succ _ | exact Nat.le_of_ble_eq_true rfl | exact PV.le_refl _ | exact PV.le_nil _ _ _ | exact PV.le_clip _ _ _ | refine PV.le_agg ?_ | refine PV.le_tup ?_ | rfl)); fail_if_success (any_goals (refine PV.le_of ?_))) | (refine call_z (i1) (by kernel_rfl) rfl ?_; (repeat' (first | exact PV.leL_nil | refine PV.leL_cons ?_ ?_ | refine And.intro ?_ ?_ | exact Nat.zero_lt_succ _ | exact Nat.le_of_ble_eq_true rfl | exact PV.le_refl _ | exact PV.le_nil _ _ _ | exact PV.le_clip _ _ _ | refine PV.le_agg ?_ | refine PV.le_tup ?_ | rfl)); fail_if_success (any_goals (refine PV.le_of ?_))) | (refine call_z (i2) (by kernel_rfl) rfl ?_; (repeat' (first | exact PV.leL_nil | refine PV.leL_cons ?_ ?_ | refine And.intro ?_ ?_ | exact Nat.zero_lt_succ _ | exact Nat.le_of_ble_eq_true rfl | exact PV.le_refl _ | exact PV.le_nil _ _ _ | exact PV.le_clip _ _ _ | refine PV.le_agg ?_ | refine PV.le_tup ?_ | rfl)); fail_if_success (any_goals (refine PV.le_of ?_))) | (refine call_z (i3) (by kernel_rfl) rfl ?_; (repeat' (first | exact PV.leL_nil | refine PV.leL_cons ?_ ?_ | refine And.intro ?_ ?_ | exact Nat.zero_lt_succ _ | exact Nat.le_of_ble_eq_true rfl | exact PV.le_refl _ | exact PV.le_nil _ _ _ | exact PV.le_clip _ _ _ | refine PV.le_agg ?_ | refine PV.le_tup ?_ | rfl)); fail_if_success (any_goals (refine PV.le_of ?_))) | (refine call_z (i4) (by kernel_rfl) rfl ?_; (repeat' (first | exact PV.leL_nil | refine PV.leL_cons ?_ ?_ | refine And.intro ?_ ?_ | exact Nat.zero_lt_succ _ | exact Nat.le_of_ble_eq_true rfl | exact PV.le_refl _ | exact PV.le_nil _ _ _ | exact PV.le_clip _ _ _ | refine PV.le_agg ?_ | refine PV.le_tup ?_ | rfl)); fail_if_success (any_goals (refine PV.le_of ?_))) | (refine call_z (i5) (by kernel_rfl) rfl ?_; (repeat' (first | exact PV.leL_nil | refine PV.leL_cons ?_ ?_ | refine And.intro ?_ ?_ | exact Nat.zero_lt_succ _ | exact Nat.le_of_ble_eq_true rfl | exact PV.le_refl _ | exact PV.le_nil _ _ _ | exact PV.le_clip _ _ _ | refine PV.le_agg ?_ | refine PV.le_tup ?_ | rfl)); fail_if_success (any_goals (refine PV.le_of ?_))) | exact of_decide_eq_true rfl | exact PV.le_refl _ | exact Nat.zero_lt_succ _ | exact Nat.le_of_ble_eq_true rfl | exact onesOf rfl | exact Or.inl rfl | exact noMem | exact onesOfP rfl | exact okAll rfl | exact okMap (fun _ => ⟨rfl, onesOfP rfl⟩) | exact nonz | refine imp0 (fun hpos => ?_) | refine fits_i64 ?_ ?_ | exact rfl | (with_reducible show LeG _ _) | (with_reducible show Lp _ _ _ _) | (with_reducible show Exists _) | (with_reducible show callX _ _ _ _ _)))) <;> (try (first | exact LeG.refl _ | omega | ((first | (with_reducible show (_ : Int) ≤ _) | (with_reducible show (_ : Int) < _) | (with_reducible show (_ : Nat) ≤ _) | (with_reducible show (_ : Nat) < _) | (with_reducible show ¬ _) | (with_reducible show (_ : Int) = _) | (with_reducible show (_ : Nat) = _)); (simp only [List.length_map, List.length_append, List.length_cons, List.length_nil, List.length_replicate, List.length_take, List.length_drop, List.length_set, Int.toNat_natCast, Int.reduceToNat] <;> omega)) | exact of_decide_eq_true rfl))
  all_goals trace_state
end Go.Proofs.Ytghgjobknmddgaa

namespace Go.Proofs.Ytghgjobknmddgaa
open Go Go.Sg
set_option maxRecDepth 100000
set_option maxHeartbeats 20000000
def fewL (l : List Dp) : Bool := decide (l.length ≤ 12) || decide (4096 < l.length) && decide (l.length ≤ 4200)
theorem fewL_len {l : List Dp} (h : fewL l = true) : l.length < 1000000 := by simp [fewL] at h; omega
theorem few2_calls (l : List Dp) : PCalls Try.prog 10 [eL l] (.bool (fewL l)) := rfew_calls l
theorem spec_calls (l : List Dp) (x : Dp) : PCalls Try.prog 3 [eL l, eA x] (.bool true) := by
  have q0 := few2_calls l
  cases hf : fewL l with
  | false =>
    rw [hf] at q0
    refine PCalls.of (N := 41) (res := [.tmp 4]) mixed Try.func3 rfl rfl rfl (by kernel_rfl) (by simp) [0, 1, 3, 4, 5, 6, 7, 8, 10, 13] ?_
    repeat' (first | ((with_reducible show _ = _); exact rfl) | ((with_reducible show (_ : Nat) < _); exact Nat.zero_lt_succ _) | ((with_reducible show (_ : Nat) ≤ _); exact Nat.le_of_ble_eq_true rfl) | ((with_reducible show Exists _); refine exU8 ?_) | ((with_reducible show callX _ _ _ _ _); (first | refine call_p (sane_calls) (by kernel_rfl) rfl ?_ | refine call_p (q0) (by kernel_rfl) rfl ?_)) | ((fail_if_success (first | (with_reducible show LeG _ _) | (with_reducible show Lp _ _ _ _) | (with_reducible show Exists _) | (with_reducible show callX _ _ _ _ _) | (with_reducible show (_ : Int) ≤ _) | (with_reducible show (_ : Int) < _) | (with_reducible show (_ : Nat) ≤ _) | (with_reducible show (_ : Nat) < _))); (conv => whnf) <;> (first | exact OkR.mk (by kernel_rfl) | exact OkC.mk (by kernel_rfl) | refine Sq.pr ?_ | refine Br.dec (fun hc => ?_) (fun hc => ?_) | refine Br.tt ?_ | refine Br.ff ?_ | refine Br.not ?_ | refine Br.mk (fun hc => ?_) (fun hc => ?_) | refine Opt.nn ?_ | refine Opt.ss ?_ | refine AltA.l ?_ | exact PV.leL_nil | refine PV.leL_cons ?_ ?_ | refine And.intro ?_ ?_ | refine ix_map (fun x hx => ?_) | refine exU8 ?_ | refine nilc (fun hn => ?_) ?_ | refine call_p (sane_calls) (by kernel_rfl) rfl ?_ | refine call_p (q0) (by kernel_rfl) rfl ?_ | exact PV.le_refl _ | exact Nat.zero_lt_succ _ | exact Nat.le_of_ble_eq_true rfl | exact onesOf rfl | exact Or.inl rfl | exact noMem | exact onesOfP rfl | exact okAll rfl | exact okMap (fun _ => ⟨rfl, onesOfP rfl⟩) | exact nonz | refine imp0 (fun hpos => ?_) | refine fits_i64 ?_ ?_ | exact rfl | (with_reducible show LeG _ _) | (with_reducible show Lp _ _ _ _) | (with_reducible show Exists _) | (with_reducible show callX _ _ _ _ _)))) <;> (try (first | exact LeG.refl _ | omega | ((first | (with_reducible show (_ : Int) ≤ _) | (with_reducible show (_ : Int) < _) | (with_reducible show (_ : Nat) ≤ _) | (with_reducible show (_ : Nat) < _) | (with_reducible show ¬ _) | (with_reducible show (_ : Int) = _) | (with_reducible show (_ : Nat) = _)); (simp only [List.length_map, List.length_append, List.length_cons, List.length_nil, List.length_replicate, List.length_take, List.length_drop, List.length_set, Int.toNat_natCast, Int.reduceToNat] <;> omega)) | exact of_decide_eq_true rfl))
  | true =>
    rw [hf] at q0
    have hl := fewL_len hf
    have h2 : (addA l x).1.length < 1000000 := by
      unfold addA addL
      split; split; split; simp; split; simp; rw [length_insN]; simp [fewL] at hf; omega; simp; simp
    have q5 := same_calls (addA l x).1 (addA l x).1 h2
    rw [decide_eq_true rfl] at q5
    refine PCalls.of (N := 41) (res := [.tmp 4]) mixed Try.func3 rfl rfl rfl (by kernel_rfl) (by simp) [0, 1, 3, 4, 5, 6, 7, 8, 10, 13] ?_
    repeat' (first | ((with_reducible show _ = _); exact rfl) | ((with_reducible show (_ : Nat) < _); exact Nat.zero_lt_succ _) | ((with_reducible show (_ : Nat) ≤ _); exact Nat.le_of_ble_eq_true rfl) | ((with_reducible show Exists _); refine exU8 ?_) | ((with_reducible show callX _ _ _ _ _); (first | refine call_p (sane_calls) (by kernel_rfl) rfl ?_ | refine call_p (q0) (by kernel_rfl) rfl ?_ | refine call_p (add_calls l x hl) (by kernel_rfl) rfl ?_ | refine call_p (radd_calls l x hl) (by kernel_rfl) rfl ?_ | refine call_p (check_calls l hl) (by kernel_rfl) rfl ?_ | refine call_p (rcheck_calls l hl) (by kernel_rfl) rfl ?_ | refine call_p (q5) (by kernel_rfl) rfl ?_)) | ((fail_if_success (first | (with_reducible show LeG _ _) | (with_reducible show Lp _ _ _ _) | (with_reducible show Exists _) | (with_reducible show callX _ _ _ _ _) | (with_reducible show (_ : Int) ≤ _) | (with_reducible show (_ : Int) < _) | (with_reducible show (_ : Nat) ≤ _) | (with_reducible show (_ : Nat) < _))); (conv => whnf) <;> (first | exact OkR.mk (by kernel_rfl) | exact OkC.mk (by kernel_rfl) | refine Sq.pr ?_ | refine Br.dec (fun hc => ?_) (fun hc => ?_) | refine Br.tt ?_ | refine Br.ff ?_ | refine Br.not ?_ | refine Br.mk (fun hc => ?_) (fun hc => ?_) | refine Opt.nn ?_ | refine Opt.ss ?_ | refine AltA.l ?_ | exact PV.leL_nil | refine PV.leL_cons ?_ ?_ | refine And.intro ?_ ?_ | refine ix_map (fun x hx => ?_) | refine exU8 ?_ | refine nilc (fun hn => ?_) ?_ | refine call_p (sane_calls) (by kernel_rfl) rfl ?_ | refine call_p (q0) (by kernel_rfl) rfl ?_ | refine call_p (add_calls l x hl) (by kernel_rfl) rfl ?_ | refine call_p (radd_calls l x hl) (by kernel_rfl) rfl ?_ | refine call_p (check_calls l hl) (by kernel_rfl) rfl ?_ | refine call_p (rcheck_calls l hl) (by kernel_rfl) rfl ?_ | refine call_p (q5) (by kernel_rfl) rfl ?_ | exact PV.le_refl _ | exact Nat.zero_lt_succ _ | exact Nat.le_of_ble_eq_true rfl | exact onesOf rfl | exact Or.inl rfl | exact noMem | exact onesOfP rfl | exact okAll rfl | exact okMap (fun _ => ⟨rfl, onesOfP rfl⟩) | exact nonz | refine imp0 (fun hpos => ?_) | refine fits_i64 ?_ ?_ | exact rfl | (with_reducible show LeG _ _) | (with_reducible show Lp _ _ _ _) | (with_reducible show Exists _) | (with_reducible show callX _ _ _ _ _)))) <;> (try (first | exact LeG.refl _ | omega | ((first | (with_reducible show (_ : Int) ≤ _) | (with_reducible show (_ : Int) < _) | (with_reducible show (_ : Nat) ≤ _) | (with_reducible show (_ : Nat) < _) | (with_reducible show ¬ _) | (with_reducible show (_ : Int) = _) | (with_reducible show (_ : Nat) = _)); (simp only [List.length_map, List.length_append, List.length_cons, List.length_nil, List.length_replicate, List.length_take, List.length_drop, List.length_set, Int.toNat_natCast, Int.reduceToNat] <;> omega)) | exact of_decide_eq_true rfl))
    all_goals exact LeG.bool (decide_eq_true rfl)
end Go.Proofs.Ytghgjobknmddgaa

namespace Go.Proofs.Ytghgjobknmddgaa
open Go Go.Sg
set_option maxRecDepth 100000
set_option maxHeartbeats 20000000
theorem foldM_get (q : Qn) (l : List Dp) (k : Ky) : ∀ i, aget k (foldM q (l.take i)) = lastF (cntA q) keyA Dp.tm (l.take i) k := by
  intro i
  induction i with
  | zero => rfl
  | succ i ih =>
    cases hx : l[i]? with
    | none => rw [List.take_add_one, hx]; simpa using ih
    | some x =>
      rw [foldM_take hx, lastF_take _ _ _ hx, ← ih]
      unfold updM lstep
      cases hd : cntA q x with
      | false => simp
      | true =>
      simp only [if_true, true_and]
      by_cases hk : keyA x = k
      · subst hk
        simp only [if_true]
        cases hg : aget (keyA x) (foldM q (l.take i)) with
        | none => simp [aget_put]
        | some z =>
          simp only
          split
          · simp [aget_put]
          · exact hg
      · simp only [hk, if_false]
        cases hg : aget (keyA x) (foldM q (l.take i)) with
        | none => simp only [aget_put]; rw [if_neg (fun e => hk e.symm)]
        | some z =>
          simp only
          split
          · rw [aget_put, if_neg (fun e => hk e.symm)]
          · rfl
theorem cov_facts {l : List Dp} {q : Qn} {x : Dp} (hz : chkA l = 0) (hx : x ∈ covL q l) : x ∈ l ∧ cntA q x = true ∧ covA q x = true ∧ ∀ z ∈ l, cntA q z = true → keyA z = keyA x → ¬ after Dp.no Dp.tm z x := by
  obtain ⟨_, hr, hs⟩ := chkA_srt hz
  obtain ⟨h1, h2⟩ := List.mem_filter.1 hx
  unfold covB at h2
  simp only [Bool.and_eq_true, decide_eq_true_eq] at h2
  obtain ⟨⟨h3, h4⟩, h5⟩ := h2
  have hg := foldM_get q l (keyA x) l.length
  rw [List.take_length] at hg
  have hsome : aget (keyA x) (foldM q l) = some x := by
    cases ha : aget (keyA x) (foldM q l) with
    | none =>
      rw [ha] at h3
      have hrx := hr x h1
      have h3 : zDp = x := h3
      rw [← h3] at hrx
      exact absurd hrx (by decide)
    | some z =>
      rw [ha] at h3
      have h3 : z = x := h3
      rw [h3]
  rw [hg] at hsome
  exact ⟨h1, h4, h5, ((lastF_self Dp.no (cntA q) keyA Dp.tm hs h1).1 hsome).2⟩
theorem byF_mem {F : List Dp} {n : Int} {x : Dp} : ∀ i, aget n (byF (F.take i)) = some x → x ∈ F ∧ x.no = n := by
  intro i
  induction i with
  | zero => intro h; cases h
  | succ i ih =>
    cases hx : F[i]? with
    | none => rw [List.take_add_one, hx]; simpa using ih
    | some y =>
      intro h
      rw [byF_take hx, aget_put] at h
      split at h
      · rename_i e
        injection h with h
        subst h
        exact ⟨List.mem_of_getElem? hx, e.symm⟩
      · exact ih h
theorem prov_step {B : ByM} {t no g : Int} {r : List Int} {m : List (Int × Bool)} (h : provF B t (no :: r) g m = true) :
    ∃ x, aget no B = some x ∧ x.frm = g ∧ (aget x.to m).getD false = false ∧ provF B t r x.to (aput x.to true m) = true := by
  unfold provF at h
  cases ha : aget no B with
  | none => rw [ha] at h; cases h
  | some x =>
    rw [ha] at h
    simp only at h
    split at h
    · rename_i hf
      split at h
      · cases h
      · rename_i hm
        exact ⟨x, rfl, hf, by simpa using hm, h⟩
    · cases h
def rightB (l : List Dp) (x : Ak) : Bool := decide (l.length ≤ 40) && decide (askA l x.frm x.to x.q = 0)
theorem right_law (l : List Dp) (x : Ak) : PCalls Try.prog 21 [eL l, eAk x] (.bool (rightB l x)) := by
  by_cases hl : l.length ≤ 40
  · have q1 := rError_calls l x.frm x.to x.q (by omega)
    have h40 : ((l.map eA).length : Int) ≤ 40 := by rw [List.length_map]; omega
    refine PCalls.of (N := 27) (res := [.tmp 4]) mixed Try.func21 rfl rfl rfl (by kernel_rfl) (by simp) [0, 1, 3, 4] ?_
    repeat' (first | ((with_reducible show _ = _); exact rfl) | ((with_reducible show (_ : Nat) < _); exact Nat.zero_lt_succ _) | ((with_reducible show (_ : Nat) ≤ _); exact Nat.le_of_ble_eq_true rfl) | ((with_reducible show Exists _); refine exU8 ?_) | ((with_reducible show callX _ _ _ _ _); (first | refine call_p (q1) (by kernel_rfl) rfl ?_)) | ((fail_if_success (first | (with_reducible show LeG _ _) | (with_reducible show Lp _ _ _ _) | (with_reducible show Exists _) | (with_reducible show callX _ _ _ _ _) | (with_reducible show (_ : Int) ≤ _) | (with_reducible show (_ : Int) < _) | (with_reducible show (_ : Nat) ≤ _) | (with_reducible show (_ : Nat) < _))); (conv => whnf) <;> (first | exact OkR.mk (by kernel_rfl) | exact OkC.mk (by kernel_rfl) | refine Br.dec (fun hc => ?_) (fun hc => absurd h40 hc) | refine Sq.pr ?_ | refine Br.dec (fun hc => ?_) (fun hc => ?_) | refine Br.tt ?_ | refine Br.ff ?_ | refine Br.not ?_ | refine Br.mk (fun hc => ?_) (fun hc => ?_) | refine Opt.nn ?_ | refine Opt.ss ?_ | refine AltA.l ?_ | exact PV.leL_nil | refine PV.leL_cons ?_ ?_ | refine And.intro ?_ ?_ | refine ix_map (fun x hx => ?_) | refine exU8 ?_ | refine nilc (fun hn => ?_) ?_ | refine call_p (q1) (by kernel_rfl) rfl ?_ | exact PV.le_refl _ | exact Nat.zero_lt_succ _ | exact Nat.le_of_ble_eq_true rfl | exact onesOf rfl | exact Or.inl rfl | exact noMem | exact onesOfP rfl | exact okAll rfl | exact okMap (fun _ => ⟨rfl, onesOfP rfl⟩) | exact nonz | refine imp0 (fun hpos => ?_) | refine fits_i64 ?_ ?_ | exact rfl | (with_reducible show LeG _ _) | (with_reducible show Lp _ _ _ _) | (with_reducible show Exists _) | (with_reducible show callX _ _ _ _ _)))) <;> (try (first | exact LeG.refl _ | omega | ((first | (with_reducible show (_ : Int) ≤ _) | (with_reducible show (_ : Int) < _) | (with_reducible show (_ : Nat) ≤ _) | (with_reducible show (_ : Nat) < _) | (with_reducible show ¬ _) | (with_reducible show (_ : Int) = _) | (with_reducible show (_ : Nat) = _)); (simp only [List.length_map, List.length_append, List.length_cons, List.length_nil, List.length_replicate, List.length_take, List.length_drop, List.length_set, Int.toNat_natCast, Int.reduceToNat] <;> omega)) | exact of_decide_eq_true rfl))
    all_goals (refine LeG.bool ?_; unfold rightB; rw [decide_eq_true hl]; rfl)
  · have h40 : ¬ ((l.map eA).length : Int) ≤ 40 := by rw [List.length_map]; omega
    refine PCalls.of (N := 27) (res := [.tmp 4]) mixed Try.func21 rfl rfl rfl (by kernel_rfl) (by simp) [0, 1, 3, 4] ?_
    repeat' (first | ((with_reducible show _ = _); exact rfl) | ((with_reducible show (_ : Nat) < _); exact Nat.zero_lt_succ _) | ((with_reducible show (_ : Nat) ≤ _); exact Nat.le_of_ble_eq_true rfl) | ((with_reducible show Exists _); refine exU8 ?_) | ((fail_if_success (first | (with_reducible show LeG _ _) | (with_reducible show Lp _ _ _ _) | (with_reducible show Exists _) | (with_reducible show callX _ _ _ _ _) | (with_reducible show (_ : Int) ≤ _) | (with_reducible show (_ : Int) < _) | (with_reducible show (_ : Nat) ≤ _) | (with_reducible show (_ : Nat) < _))); (conv => whnf) <;> (first | exact OkR.mk (by kernel_rfl) | exact OkC.mk (by kernel_rfl) | refine Br.dec (fun hc => absurd hc h40) (fun hc => ?_) | refine Sq.pr ?_ | refine Br.dec (fun hc => ?_) (fun hc => ?_) | refine Br.tt ?_ | refine Br.ff ?_ | refine Br.not ?_ | refine Br.mk (fun hc => ?_) (fun hc => ?_) | refine Opt.nn ?_ | refine Opt.ss ?_ | refine AltA.l ?_ | exact PV.leL_nil | refine PV.leL_cons ?_ ?_ | refine And.intro ?_ ?_ | refine ix_map (fun x hx => ?_) | refine exU8 ?_ | refine nilc (fun hn => ?_) ?_ | exact PV.le_refl _ | exact Nat.zero_lt_succ _ | exact Nat.le_of_ble_eq_true rfl | exact onesOf rfl | exact Or.inl rfl | exact noMem | exact onesOfP rfl | exact okAll rfl | exact okMap (fun _ => ⟨rfl, onesOfP rfl⟩) | exact nonz | refine imp0 (fun hpos => ?_) | refine fits_i64 ?_ ?_ | exact rfl | (with_reducible show LeG _ _) | (with_reducible show Lp _ _ _ _) | (with_reducible show Exists _) | (with_reducible show callX _ _ _ _ _)))) <;> (try (first | exact LeG.refl _ | omega | ((first | (with_reducible show (_ : Int) ≤ _) | (with_reducible show (_ : Int) < _) | (with_reducible show (_ : Nat) ≤ _) | (with_reducible show (_ : Nat) < _) | (with_reducible show ¬ _) | (with_reducible show (_ : Int) = _) | (with_reducible show (_ : Nat) = _)); (simp only [List.length_map, List.length_append, List.length_cons, List.length_nil, List.length_replicate, List.length_take, List.length_drop, List.length_set, Int.toNat_natCast, Int.reduceToNat] <;> omega)) | exact of_decide_eq_true rfl))
    refine LeG.bool ?_; unfold rightB; rw [decide_eq_false hl]; rfl
end Go.Proofs.Ytghgjobknmddgaa

namespace Go.Proofs.Ytghgjobknmddgaa
open Go Go.Sg
set_option maxRecDepth 100000
/-! ### Chains, plainly -/
/-- From p to t by exactly so many delegations. -/
def rch (S : List Dp) (t : Int) : Nat → Int → Prop
  | 0, p => p = t
  | n + 1, p => ∃ x ∈ S, x.frm = p ∧ rch S t n x.to
def dst (S : List Dp) (t : Int) (n : Nat) (p : Int) : Prop := rch S t n p ∧ ∀ m, m < n → ¬ rch S t m p
theorem dst_inj {S : List Dp} {t p : Int} {n m : Nat} (h : dst S t n p) (k : dst S t m p) : n = m := by
  rcases Nat.lt_trichotomy n m with e | e | e
  · exact absurd h.1 (k.2 n e)
  · exact e
  · exact absurd k.1 (h.2 m e)
theorem dst_of_rch {S : List Dp} {t p : Int} : ∀ {n : Nat}, rch S t n p → ∃ k, k ≤ n ∧ dst S t k p := by
  intro n
  induction n using Nat.strongRecOn with
  | ind n ih =>
    intro h
    by_cases hm : ∃ m, m < n ∧ rch S t m p
    · obtain ⟨m, h1, h2⟩ := hm
      obtain ⟨k, h3, h4⟩ := ih m h1 h2
      exact ⟨k, by omega, h4⟩
    · exact ⟨n, Nat.le_refl _, h, fun m h1 h2 => hm ⟨m, h1, h2⟩⟩
theorem dst_succ {S : List Dp} {t p : Int} {n : Nat} {x : Dp} (h : dst S t (n + 1) p) (hx : x ∈ S) (hf : x.frm = p) (hr : rch S t n x.to) : dst S t n x.to :=
  ⟨hr, fun m hm hr2 => h.2 (m + 1) (by omega) ⟨x, hx, hf, hr2⟩⟩
theorem rch_mono {S S' : List Dp} {t : Int} (hs : ∀ x ∈ S', x ∈ S) : ∀ {n : Nat} {p : Int}, rch S' t n p → rch S t n p
  | 0, _, h => h
  | n + 1, p, ⟨x, h1, h2, h3⟩ => ⟨x, hs x h1, h2, rch_mono hs h3⟩
theorem rch_trans {S : List Dp} {t u : Int} : ∀ {n m : Nat} {p : Int}, rch S t n p → rch S u m t → rch S u (n + m) p
  | 0, m, p, h, k => by
    have h : p = t := h
    subst h; rw [Nat.zero_add]; exact k
  | n + 1, m, p, ⟨x, h1, h2, h3⟩, k => by
    rw [Nat.add_right_comm]
    exact ⟨x, h1, h2, rch_trans h3 k⟩
theorem fold_get {r : Nat} {S : List Dp} {m : Far} (hm : ∀ p v, aget p m = some v → v ≤ (r : Int)) : ∀ j p v, aget p ((S.take j).foldl (stepF r) m) = some v ↔
    aget p m = some v ∨ (aget p m = none ∧ v = (r : Int) + 1 ∧ ∃ x ∈ S.take j, x.frm = p ∧ aget x.to m = some (r : Int)) := by
  intro j
  induction j with
  | zero => intro p v; simp
  | succ j ih =>
    intro p v
    cases hx : S[j]? with
    | none => rw [List.take_add_one, hx]; simpa using ih p v
    | some x =>
      have ht : S.take (j + 1) = S.take j ++ [x] := by rw [List.take_add_one, hx]; rfl
      rw [fold_take hx]
      have e1 : aget x.to ((S.take j).foldl (stepF r) m) = some (r : Int) ↔ aget x.to m = some (r : Int) := by
        rw [ih]
        constructor
        · rintro (h | ⟨_, h, _⟩)
          · exact h
          · omega
        · exact fun h => .inl h
      have mem : ∀ p, (∃ y ∈ S.take (j + 1), y.frm = p ∧ aget y.to m = some (r : Int)) ↔ (∃ y ∈ S.take j, y.frm = p ∧ aget y.to m = some (r : Int)) ∨ (x.frm = p ∧ aget x.to m = some (r : Int)) := by
        intro p
        rw [ht]
        constructor
        · rintro ⟨y, hy, h⟩
          rcases List.mem_append.1 hy with hy | hy
          · exact .inl ⟨y, hy, h⟩
          · simp at hy; subst hy; exact .inr h
        · rintro (⟨y, hy, h⟩ | h)
          · exact ⟨y, List.mem_append.2 (.inl hy), h⟩
          · exact ⟨x, by simp, h⟩
      rw [mem]
      rw [stepF_eq]
      by_cases hc : aget x.to ((S.take j).foldl (stepF r) m) = some (r : Int) ∧ aget x.frm ((S.take j).foldl (stepF r) m) = none
      · rw [if_pos hc, aget_put]
        have hmx : aget x.frm m = none := by
          cases h : aget x.frm m with
          | none => rfl
          | some u => have := (ih x.frm u).2 (.inl h); rw [hc.2] at this; cases this
        by_cases hp : p = x.frm
        · subst hp
          rw [if_pos rfl, hmx]
          constructor
          · intro h; injection h with h; exact .inr ⟨rfl, h.symm, .inr ⟨rfl, e1.1 hc.1⟩⟩
          · rintro (h | ⟨_, h, _⟩)
            · cases h
            · rw [h]
        · rw [if_neg hp, ih]
          constructor
          · rintro (h | ⟨h1, h2, h3⟩)
            · exact .inl h
            · exact .inr ⟨h1, h2, .inl h3⟩
          · rintro (h | ⟨h1, h2, h3 | h3⟩)
            · exact .inl h
            · exact .inr ⟨h1, h2, h3⟩
            · exact absurd h3.1.symm hp
      · rw [if_neg hc, ih]
        constructor
        · rintro (h | ⟨h1, h2, h3⟩)
          · exact .inl h
          · exact .inr ⟨h1, h2, .inl h3⟩
        · rintro (h | ⟨h1, h2, h3 | h3⟩)
          · exact .inl h
          · exact .inr ⟨h1, h2, h3⟩
          · -- p was met in this round already
            obtain ⟨h4, h5⟩ := h3
            subst h4
            have h6 : ¬ aget x.frm ((S.take j).foldl (stepF r) m) = none := fun h => hc ⟨e1.2 h5, h⟩
            cases h7 : aget x.frm ((S.take j).foldl (stepF r) m) with
            | none => exact absurd h7 h6
            | some u =>
              rcases (ih x.frm u).1 h7 with h8 | ⟨_, _, h8⟩
              · rw [h1] at h8; cases h8
              · exact .inr ⟨h1, h2, h8⟩
theorem far_spec (S : List Dp) (t : Int) : ∀ (r : Nat) (p v : Int), aget p (farF S t r) = some v ↔ ∃ k : Nat, v = (k : Int) ∧ k ≤ r ∧ dst S t k p
  | 0, p, v => by
    simp only [farF, aget]
    by_cases hp : p = t
    · subst hp
      rw [if_pos rfl]
      constructor
      · intro h; injection h with h; exact ⟨0, h.symm, Nat.le_refl _, rfl, fun m hm => absurd hm (by omega)⟩
      · rintro ⟨k, h1, h2, _⟩
        have : k = 0 := by omega
        subst this; rw [h1]; rfl
    · rw [if_neg hp]
      constructor
      · intro h; cases h
      · rintro ⟨k, h1, h2, h3, _⟩
        have : k = 0 := by omega
        subst this
        exact absurd h3 hp
  | r + 1, p, v => by
    have ih := far_spec S t r
    have hg := fold_get (S := S) (m := farF S t r) (r := r) (fun p v h => by
      obtain ⟨k, h1, h2, _⟩ := (ih p v).1 h
      omega) S.length p v
    rw [List.take_length] at hg
    show aget p (S.foldl (stepF r) (farF S t r)) = some v ↔ _
    rw [hg]
    constructor
    · rintro (h | ⟨h1, h2, x, hx, hf, h3⟩)
      · obtain ⟨k, h1, h2, h3⟩ := (ih p v).1 h
        exact ⟨k, h1, by omega, h3⟩
      · obtain ⟨k, h4, h5, h6⟩ := (ih _ _).1 h3
        have : k = r := by omega
        subst this
        refine ⟨k + 1, by omega, Nat.le_refl _, ⟨x, hx, hf, h6.1⟩, fun m hm hr => ?_⟩
        obtain ⟨k2, h7, h8⟩ := dst_of_rch hr
        have := (ih p k2).2 ⟨k2, rfl, by omega, h8⟩
        rw [h1] at this; cases this
    · rintro ⟨k, h1, h2, h3⟩
      by_cases hk : k ≤ r
      · exact .inl ((ih p v).2 ⟨k, h1, hk, h3⟩)
      · have : k = r + 1 := by omega
        subst this
        obtain ⟨x, hx, hf, hr⟩ := h3.1
        refine .inr ⟨?_, by omega, x, hx, hf, (ih _ _).2 ⟨r, rfl, Nat.le_refl _, dst_succ h3 hx hf hr⟩⟩
        cases h : aget p (farF S t r) with
        | none => rfl
        | some u =>
          obtain ⟨k2, _, h5, h6⟩ := (ih p u).1 h
          have := dst_inj h6 h3
          omega
theorem far_none {S : List Dp} {t p : Int} {r : Nat} (h : aget p (farF S t r) = none) : ∀ n, n ≤ r → ¬ rch S t n p := fun n hn hr => by
  obtain ⟨k, h1, h2⟩ := dst_of_rch hr
  have := (far_spec S t r p k).2 ⟨k, rfl, by omega, h2⟩
  rw [h] at this; cases this
/-- A path. -/
def isP (S : List Dp) (t : Int) : Int → List Dp → Prop
  | p, [] => p = t
  | p, x :: r => x ∈ S ∧ x.frm = p ∧ isP S t x.to r
theorem isP_rch {S : List Dp} {t : Int} : ∀ {p : Int} {xs : List Dp}, isP S t p xs → rch S t xs.length p
  | _, [], h => h
  | _, x :: r, ⟨h1, h2, h3⟩ => ⟨x, h1, h2, isP_rch h3⟩
def befB : List Int → List Int → Bool
  | [], [] => false
  | [], _ :: _ => true
  | _ :: _, [] => false
  | a :: x, b :: y => if a = b then befB x y else decide (a < b)
theorem near_iff {S : List Dp} {t p : Int} {k : Nat} {x : Dp} (hk : k ≤ 8) : nearB (farF S t 8) p k x = true ↔ x.frm = p ∧ dst S t k x.to := by
  unfold nearB
  simp only [Bool.and_eq_true, decide_eq_true_eq, far_spec]
  constructor
  · rintro ⟨h1, k2, h2, _, h3⟩
    have : k2 = k := by omega
    subst this; exact ⟨h1, h3⟩
  · rintro ⟨h1, h2⟩
    exact ⟨h1, k, rfl, hk, h2⟩
/-- What the search finds: a first path, of as few as possible. -/
theorem go_spec {S : List Dp} {t : Int} (hs : S.Pairwise (fun a b => a.no < b.no)) : ∀ {k : Nat} {p : Int}, k ≤ 8 → dst S t k p →
    ∃ xs, isP S t p xs ∧ xs.length = k ∧ goF S (farF S t 8) k p = xs.map Dp.no ∧ (∀ i x, xs[i]? = some x → dst S t (k - (i + 1)) x.to) ∧ ∀ ys, isP S t p ys → ys.length = k → befB (ys.map Dp.no) (xs.map Dp.no) = false
  | 0, p, _, h => ⟨[], h.1, rfl, rfl, fun i x hx => by simp at hx, fun ys _ hl => by
    have : ys = [] := List.length_eq_zero_iff.1 hl
    subst this; rfl⟩
  | k + 1, p, hk, h => by
    obtain ⟨x0, hx0, hf0, hr0⟩ := h.1
    have hsome : (S.find? (nearB (farF S t 8) p k)).isSome = true := by
      rw [List.find?_isSome]
      exact ⟨x0, hx0, (near_iff (by omega)).2 ⟨hf0, dst_succ h hx0 hf0 hr0⟩⟩
    obtain ⟨x, hx⟩ := Option.isSome_iff_exists.1 hsome
    have hxS := List.mem_of_find?_eq_some hx
    obtain ⟨hxf, hxd⟩ := (near_iff (by omega)).1 (List.find?_some hx)
    obtain ⟨xs, h1, h2, h3, h4, h5⟩ := go_spec hs (k := k) (p := x.to) (by omega) hxd
    refine ⟨x :: xs, ⟨hxS, hxf, h1⟩, by simp [h2], ?_, fun i y hy => ?_, fun ys hy hl => ?_⟩
    · rw [goF, hx]; simp [h3]
    · cases i with
      | zero => simp at hy; subst hy; simpa using hxd
      | succ i =>
        simp at hy
        have := h4 i y hy
        rwa [show k + 1 - (i + 1 + 1) = k - (i + 1) by omega]
    · cases ys with
      | nil => simp at hl
      | cons y ys =>
        obtain ⟨hyS, hyf, hy2⟩ := hy
        have hl : ys.length = k := by simpa using hl
        have hyd : dst S t k y.to := dst_succ h hyS hyf (by rw [← hl]; exact isP_rch hy2)
        have hyn : nearB (farF S t 8) p k y = true := (near_iff (by omega)).2 ⟨hyf, hyd⟩
        simp only [List.map_cons, befB]
        by_cases he : y.no = x.no
        · have : y = x := srt_inj Dp.no hs hyS hxS he
          subst this
          rw [if_pos rfl]
          exact h5 ys hy2 hl
        · rw [if_neg he]
          rw [decide_eq_false_iff_not]
          intro hlt
          obtain ⟨_, j, hj, hjx, hj2⟩ := List.find?_eq_some_iff_getElem.1 hx
          obtain ⟨i, hi, hiy⟩ := List.getElem_of_mem hyS
          rcases Nat.lt_trichotomy i j with e | e | e
          · have := hj2 i e
            rw [hiy, hyn] at this; cases this
          · subst e; rw [hjx] at hiy; exact he (by rw [hiy])
          · have := List.pairwise_iff_getElem.1 hs j i hj hi e
            rw [hjx, hiy] at this; omega
theorem isP_nodup {S : List Dp} {t p : Int} {k : Nat} {xs : List Dp} (hd : dst S t k p) (hl : xs.length = k) (h : ∀ i x, xs[i]? = some x → dst S t (k - (i + 1)) x.to) : (p :: xs.map Dp.to).Nodup := by
  rw [List.nodup_cons]
  constructor
  · intro hm
    obtain ⟨x, hx, e⟩ := List.mem_map.1 hm
    obtain ⟨i, hi⟩ := List.getElem?_of_mem hx
    have h1 := h i x hi
    rw [e] at h1
    have := dst_inj h1 hd
    have := (List.getElem?_eq_some_iff.1 hi).1
    omega
  · rw [List.nodup_iff_pairwise_ne, List.pairwise_map, List.pairwise_iff_getElem]
    intro i j hi hj hij e
    have h1 := h i xs[i] (List.getElem?_eq_getElem hi)
    have h2 := h j xs[j] (List.getElem?_eq_getElem hj)
    rw [e] at h1
    have := dst_inj h1 h2
    omega
/-! ### What Proves accepts -/
theorem byF_nodup {F : List Dp} : ∀ i, ((byF (F.take i)).map Prod.fst).Nodup := by
  intro i
  induction i with
  | zero => simp [byF]
  | succ i ih =>
    cases hx : F[i]? with
    | none => rw [List.take_add_one, hx]; simpa using ih
    | some x => rw [byF_take hx]; exact aput_nodup ih
theorem byF_get {F : List Dp} (hs : F.Pairwise (fun a b => a.no < b.no)) {n : Int} {x : Dp} : aget n (byF F) = some x ↔ x ∈ F ∧ x.no = n := by
  constructor
  · intro h
    have := byF_mem (F := F) (n := n) (x := x) F.length
    rw [List.take_length] at this
    exact this h
  · rintro ⟨hx, hn⟩
    obtain ⟨j, hj⟩ := List.getElem?_of_mem hx
    have key : ∀ i, j < i → aget n (byF (F.take i)) = some x := by
      intro i
      induction i with
      | zero => intro h; omega
      | succ i ih =>
        intro hji
        cases hy : F[i]? with
        | none =>
          have := (List.getElem?_eq_some_iff.1 hj).1
          have := List.getElem?_eq_none_iff.1 hy
          rw [List.take_add_one, hy, Option.toList_none, List.append_nil]
          exact ih (by omega)
        | some y =>
          rw [byF_take hy, aget_put]
          by_cases hij : i = j
          · subst hij
            rw [hj] at hy; injection hy with hy; subst hy
            rw [if_pos hn.symm]
          · have hlt := srt_lt Dp.no hs (show j < i by omega) hj hy
            rw [if_neg (by omega)]
            exact ih (by omega)
    have := key F.length (List.getElem?_eq_some_iff.1 hj).1
    rwa [List.take_length] at this
theorem prov_iff {S : List Dp} (hs : S.Pairwise (fun a b => a.no < b.no)) {t : Int} : ∀ {path : List Int} {p : Int} {m : List (Int × Bool)}, (∀ v b, aget v m = some b → b = true) →
    (provF (byF S) t path p m = true ↔ ∃ xs, isP S t p xs ∧ xs.map Dp.no = path ∧ (xs.map Dp.to).Nodup ∧ ∀ x ∈ xs, aget x.to m = none)
  | [], p, m, _ => by
    simp only [provF, decide_eq_true_eq]
    constructor
    · intro h; exact ⟨[], h, rfl, by simp, by simp⟩
    · rintro ⟨xs, h1, h2, _⟩
      have : xs = [] := by simpa using h2
      subst this; exact h1
  | no :: r, p, m, hm => by
    have ih : ∀ {q : Int} {m : List (Int × Bool)}, _ := fun {q m} => prov_iff hs (t := t) (path := r) (p := q) (m := m)
    simp only [provF]
    have hmt : ∀ v, (aget v m).getD false = false ↔ aget v m = none := fun v => by
      cases h : aget v m with
      | none => simp
      | some b => have := hm v b h; subst this; simp
    cases hg : aget no (byF S) with
    | none =>
      simp only [Bool.false_eq_true, false_iff, not_exists, not_and]
      intro xs h1 h2
      cases xs with
      | nil => simp at h2
      | cons x xs =>
        simp only [List.map_cons, List.cons.injEq] at h2
        have := (byF_get hs).2 ⟨h1.1, h2.1⟩
        rw [hg] at this; cases this
    | some x =>
      obtain ⟨hxS, hxn⟩ := (byF_get hs).1 hg
      simp only
      have hm2 : ∀ v b, aget v (aput x.to true m) = some b → b = true := fun v b h => by
        rw [aget_put] at h
        split at h
        · injection h with h; exact h.symm
        · exact hm v b h
      have hx1 : ∀ {ys : List Dp}, isP S t p ys → ys.map Dp.no = no :: r → ∃ zs, ys = x :: zs ∧ x.frm = p ∧ isP S t x.to zs ∧ zs.map Dp.no = r := fun {ys} h1 h2 => by
        cases ys with
        | nil => simp at h2
        | cons y ys =>
          simp only [List.map_cons, List.cons.injEq] at h2
          have : y = x := srt_inj Dp.no hs h1.1 hxS (by rw [h2.1, hxn])
          subst this
          exact ⟨ys, rfl, h1.2.1, h1.2.2, h2.2⟩
      by_cases hf : x.frm = p
      · rw [if_pos hf]
        by_cases hmet : (aget x.to m).getD false = true
        · rw [if_pos hmet]
          simp only [Bool.false_eq_true, false_iff, not_exists, not_and]
          intro ys h1 h2 _ h4
          obtain ⟨zs, e, _⟩ := hx1 h1 h2
          subst e
          have := h4 x (by simp)
          rw [this] at hmet; cases hmet
        · rw [if_neg hmet, ih hm2]
          have hmn : aget x.to m = none := (hmt _).1 (by simpa using hmet)
          constructor
          · rintro ⟨zs, h1, h2, h3, h4⟩
            refine ⟨x :: zs, ⟨hxS, hf, h1⟩, by simp [hxn, h2], ?_, fun y hy => ?_⟩
            · rw [List.map_cons, List.nodup_cons]
              refine ⟨fun hmem => ?_, h3⟩
              obtain ⟨z, hz, e⟩ := List.mem_map.1 hmem
              have := h4 z hz
              rw [aget_put, if_pos e] at this; cases this
            · rcases List.mem_cons.1 hy with e | e
              · subst e; exact hmn
              · have := h4 y e
                rw [aget_put] at this
                split at this
                · cases this
                · exact this
          · rintro ⟨ys, h1, h2, h3, h4⟩
            obtain ⟨zs, e, _, h5, h6⟩ := hx1 h1 h2
            subst e
            rw [List.map_cons, List.nodup_cons] at h3
            refine ⟨zs, h5, h6, h3.2, fun z hz => ?_⟩
            rw [aget_put, if_neg (fun e => h3.1 (List.mem_map.2 ⟨z, hz, e⟩))]
            exact h4 z (by simp [hz])
      · rw [if_neg hf]
        simp only [Bool.false_eq_true, false_iff, not_exists, not_and]
        intro ys h1 h2
        obtain ⟨zs, _, e, _⟩ := hx1 h1 h2
        exact absurd e hf
/-- Proves accepts the paths on which nobody is met twice. -/
theorem prov_path {S : List Dp} (hs : S.Pairwise (fun a b => a.no < b.no)) {t p : Int} {path : List Int} : provF (byF S) t path p [(p, true)] = true ↔ ∃ xs, isP S t p xs ∧ xs.map Dp.no = path ∧ (p :: xs.map Dp.to).Nodup := by
  rw [prov_iff hs (fun v b h => by simp only [aget] at h; split at h; (injection h with h; exact h.symm); cases h)]
  constructor
  · rintro ⟨xs, h1, h2, h3, h4⟩
    refine ⟨xs, h1, h2, List.nodup_cons.2 ⟨fun hm => ?_, h3⟩⟩
    obtain ⟨x, hx, e⟩ := List.mem_map.1 hm
    have := h4 x hx
    simp [aget, e] at this
  · rintro ⟨xs, h1, h2, h3⟩
    rw [List.nodup_cons] at h3
    refine ⟨xs, h1, h2, h3.2, fun x hx => ?_⟩
    have : ¬ x.to = p := fun e => h3.1 (List.mem_map.2 ⟨x, hx, e⟩)
    simp [aget, this]
theorem chain_cases (S : List Dp) (f t : Int) : (chainF S f t = ([], false, 0) ∧ ∀ n, n ≤ 8 → ¬ rch S t n f) ∨ ∃ k : Nat, k ≤ 8 ∧ dst S t k f ∧ chainF S f t = (goF S (farF S t 8) k f, true, 0) := by
  unfold chainF
  cases h : aget f (farF S t 8) with
  | none => exact .inl ⟨rfl, far_none h⟩
  | some n =>
    obtain ⟨k, h1, h2, h3⟩ := (far_spec S t 8 f n).1 h
    subst h1
    exact .inr ⟨k, h2, h3, by simp⟩
end Go.Proofs.Ytghgjobknmddgaa

namespace Go.Proofs.Ytghgjobknmddgaa
open Go Go.Sg
set_option maxRecDepth 100000
set_option maxHeartbeats 20000000
theorem before_calls (a b : List Int) (ha : a.length < 1000000) : PCalls Try.prog 22 [eIs a, eIs b] (.bool (befB a b)) := by
  refine PCalls.of (N := 41) (res := [.tmp 4]) mixed Try.func22 rfl rfl rfl (by kernel_rfl) (by simp) [0, 1, 4, 5, 15, 26] ?_
  repeat' (first | ((with_reducible show _ = _); exact rfl) | ((with_reducible show (_ : Nat) < _); exact Nat.zero_lt_succ _) | ((with_reducible show (_ : Nat) ≤ _); exact Nat.le_of_ble_eq_true rfl) | ((with_reducible show Exists _); refine exU8 ?_) | ((fail_if_success (first | (with_reducible show LeG _ _) | (with_reducible show Lp _ _ _ _) | (with_reducible show Exists _) | (with_reducible show callX _ _ _ _ _) | (with_reducible show (_ : Int) ≤ _) | (with_reducible show (_ : Int) < _) | (with_reducible show (_ : Nat) ≤ _) | (with_reducible show (_ : Nat) < _))); (conv => whnf) <;> (first | exact OkR.mk (by kernel_rfl) | exact OkC.mk (by kernel_rfl) | refine Sq.pr ?_ | refine Br.dec (fun hc => ?_) (fun hc => ?_) | refine Br.tt ?_ | refine Br.ff ?_ | refine Br.not ?_ | refine Br.mk (fun hc => ?_) (fun hc => ?_) | refine Opt.nn ?_ | refine Opt.ss ?_ | refine AltA.l ?_ | exact PV.leL_nil | refine PV.leL_cons ?_ ?_ | refine And.intro ?_ ?_ | refine ix_map (fun x hx => ?_) | refine exU8 ?_ | refine nilc (fun hn => ?_) ?_ | exact PV.le_refl _ | exact Nat.zero_lt_succ _ | exact Nat.le_of_ble_eq_true rfl | exact onesOf rfl | exact Or.inl rfl | exact noMem | exact onesOfP rfl | exact okAll rfl | exact okMap (fun _ => ⟨rfl, onesOfP rfl⟩) | exact nonz | refine imp0 (fun hpos => ?_) | refine fits_i64 ?_ ?_ | exact rfl | (with_reducible show LeG _ _) | (with_reducible show Lp _ _ _ _) | (with_reducible show Exists _) | (with_reducible show callX _ _ _ _ _)))) <;> (try (first | exact LeG.refl _ | omega | ((first | (with_reducible show (_ : Int) ≤ _) | (with_reducible show (_ : Int) < _) | (with_reducible show (_ : Nat) ≤ _) | (with_reducible show (_ : Nat) < _) | (with_reducible show ¬ _) | (with_reducible show (_ : Int) = _) | (with_reducible show (_ : Nat) = _)); (simp only [List.length_map, List.length_append, List.length_cons, List.length_nil, List.length_replicate, List.length_take, List.length_drop, List.length_set, Int.toNat_natCast, Int.reduceToNat] <;> omega)) | exact of_decide_eq_true rfl))
  refine Wpc.loopB (α := {i : Nat // i ≤ a.length ∧ i ≤ b.length ∧ befB (a.drop i) (b.drop i) = befB a b}) mixed [0, 1, 4, 5, 15, 26] (fun i => [(5, .p (eI i.1))]) (fun i => a.length - i.1) ⟨0, by omega, by omega, rfl⟩ ?_ ?_
  · (first | refine Ent.ofA [] ?_ | refine Ent.ofC [] ?_) <;> (repeat' (first | exact trivial | refine HpLe.dd ?_ | refine HpLe.mk rfl (by simp) rfl (fun h => AObj.noConfusion h) ?_ ?_ | refine And.intro ?_ ?_ | exact VLe.refl _ | exact VLe.msl rfl | exact VLe.rsl rfl | exact VLe.csl rfl | exact VLe.cslr rfl | exact VLe.mp rfl | exact VLe.eptr rfl | exact VLe.ptr rfl | exact VLe.any _ | refine VLe.pe ?_ | refine VLe.agg ?_ | refine VLeL.cons ?_ ?_ | exact VLeL.nil | exact OLe.row _ _ | rfl | refine VLe.rsle rfl ?_ ?_ ?_ | refine OLe.rowe2 ?_ ?_ | refine OLe.mape ?_ ?_ | refine OLe.iter0 ?_ | refine OLe.itere ?_ ?_)) <;> try (first | (simp; done) | (congr 1; omega) | (congr 1; (first | (simp; done) | (simp; omega))))
  rintro ⟨i, hi, hj, hq⟩
  have hi : i ≤ a.length := hi
  have hj : i ≤ b.length := hj
  have hq : befB (a.drop i) (b.drop i) = befB a b := hq
  cases hxa : a[i]? with
  | none =>
    have hge : a.length ≤ i := List.getElem?_eq_none_iff.1 hxa
    have hno : ¬ ((i : Int) < ((a.map eI).length : Int)) := by rw [List.length_map]; omega
    have hda : a.drop i = [] := List.drop_eq_nil_of_le hge
    repeat' (first | ((with_reducible show _ = _); exact rfl) | ((with_reducible show (_ : Nat) < _); exact Nat.zero_lt_succ _) | ((with_reducible show (_ : Nat) ≤ _); exact Nat.le_of_ble_eq_true rfl) | ((with_reducible show Exists _); refine exU8 ?_) | ((fail_if_success (first | (with_reducible show LeG _ _) | (with_reducible show Lp _ _ _ _) | (with_reducible show Exists _) | (with_reducible show callX _ _ _ _ _) | (with_reducible show (_ : Int) ≤ _) | (with_reducible show (_ : Int) < _) | (with_reducible show (_ : Nat) ≤ _) | (with_reducible show (_ : Nat) < _))); (conv => whnf) <;> (first | exact OkR.mk (by kernel_rfl) | exact OkC.mk (by kernel_rfl) | refine Br.dec (fun hc => absurd hc hno) (fun hc => ?_) | refine Sq.pr ?_ | refine Br.dec (fun hc => ?_) (fun hc => ?_) | refine Br.tt ?_ | refine Br.ff ?_ | refine Br.not ?_ | refine Br.mk (fun hc => ?_) (fun hc => ?_) | refine Opt.nn ?_ | refine Opt.ss ?_ | refine AltA.l ?_ | exact PV.leL_nil | refine PV.leL_cons ?_ ?_ | refine And.intro ?_ ?_ | refine ix_map (fun x hx => ?_) | refine exU8 ?_ | refine nilc (fun hn => ?_) ?_ | exact PV.le_refl _ | exact Nat.zero_lt_succ _ | exact Nat.le_of_ble_eq_true rfl | exact onesOf rfl | exact Or.inl rfl | exact noMem | exact onesOfP rfl | exact okAll rfl | exact okMap (fun _ => ⟨rfl, onesOfP rfl⟩) | exact nonz | refine imp0 (fun hpos => ?_) | refine fits_i64 ?_ ?_ | exact rfl | (with_reducible show LeG _ _) | (with_reducible show Lp _ _ _ _) | (with_reducible show Exists _) | (with_reducible show callX _ _ _ _ _)))) <;> (try (first | exact LeG.refl _ | omega | ((first | (with_reducible show (_ : Int) ≤ _) | (with_reducible show (_ : Int) < _) | (with_reducible show (_ : Nat) ≤ _) | (with_reducible show (_ : Nat) < _) | (with_reducible show ¬ _) | (with_reducible show (_ : Int) = _) | (with_reducible show (_ : Nat) = _)); (simp only [List.length_map, List.length_append, List.length_cons, List.length_nil, List.length_replicate, List.length_take, List.length_drop, List.length_set, Int.toNat_natCast, Int.reduceToNat] <;> omega)) | exact of_decide_eq_true rfl))
    refine LeG.bool ?_
    rw [← hq, hda]
    have hl : ((a.map eI).length : Int) < ((b.map eI).length : Int) ↔ i < b.length := by rw [List.length_map, List.length_map]; omega
    cases hxb : b[i]? with
    | none =>
      have := List.getElem?_eq_none_iff.1 hxb
      rw [List.drop_eq_nil_of_le this]
      exact decide_eq_false (fun h => by rw [hl] at h; omega)
    | some y =>
      have hlt := (List.getElem?_eq_some_iff.1 hxb).1
      rw [List.drop_eq_getElem_cons hlt]
      exact decide_eq_true (hl.2 hlt)
  | some x =>
    have hlt : i < a.length := (List.getElem?_eq_some_iff.1 hxa).1
    have hyes : ((i : Int) < ((a.map eI).length : Int)) := by rw [List.length_map]; omega
    have hda : a.drop i = x :: a.drop (i + 1) := by rw [List.drop_eq_getElem_cons hlt, (List.getElem?_eq_some_iff.1 hxa).2]
    cases hxb : b[i]? with
    | none =>
      have hge : b.length ≤ i := List.getElem?_eq_none_iff.1 hxb
      have hno : ¬ ((i : Int) < ((b.map eI).length : Int)) := by rw [List.length_map]; omega
      repeat' (first | ((with_reducible show _ = _); exact rfl) | ((with_reducible show (_ : Nat) < _); exact Nat.zero_lt_succ _) | ((with_reducible show (_ : Nat) ≤ _); exact Nat.le_of_ble_eq_true rfl) | ((with_reducible show Exists _); refine exU8 ?_) | ((fail_if_success (first | (with_reducible show LeG _ _) | (with_reducible show Lp _ _ _ _) | (with_reducible show Exists _) | (with_reducible show callX _ _ _ _ _) | (with_reducible show (_ : Int) ≤ _) | (with_reducible show (_ : Int) < _) | (with_reducible show (_ : Nat) ≤ _) | (with_reducible show (_ : Nat) < _))); (conv => whnf) <;> (first | exact OkR.mk (by kernel_rfl) | exact OkC.mk (by kernel_rfl) | refine Br.dec (fun hc => ?_) (fun hc => absurd hyes hc) | refine Br.dec (fun hc => absurd hc hno) (fun hc => ?_) | refine Sq.pr ?_ | refine Br.dec (fun hc => ?_) (fun hc => ?_) | refine Br.tt ?_ | refine Br.ff ?_ | refine Br.not ?_ | refine Br.mk (fun hc => ?_) (fun hc => ?_) | refine Opt.nn ?_ | refine Opt.ss ?_ | refine AltA.l ?_ | exact PV.leL_nil | refine PV.leL_cons ?_ ?_ | refine And.intro ?_ ?_ | refine ix_map (fun x hx => ?_) | refine exU8 ?_ | refine nilc (fun hn => ?_) ?_ | exact PV.le_refl _ | exact Nat.zero_lt_succ _ | exact Nat.le_of_ble_eq_true rfl | exact onesOf rfl | exact Or.inl rfl | exact noMem | exact onesOfP rfl | exact okAll rfl | exact okMap (fun _ => ⟨rfl, onesOfP rfl⟩) | exact nonz | refine imp0 (fun hpos => ?_) | refine fits_i64 ?_ ?_ | exact rfl | (with_reducible show LeG _ _) | (with_reducible show Lp _ _ _ _) | (with_reducible show Exists _) | (with_reducible show callX _ _ _ _ _)))) <;> (try (first | exact LeG.refl _ | omega | ((first | (with_reducible show (_ : Int) ≤ _) | (with_reducible show (_ : Int) < _) | (with_reducible show (_ : Nat) ≤ _) | (with_reducible show (_ : Nat) < _) | (with_reducible show ¬ _) | (with_reducible show (_ : Int) = _) | (with_reducible show (_ : Nat) = _)); (simp only [List.length_map, List.length_append, List.length_cons, List.length_nil, List.length_replicate, List.length_take, List.length_drop, List.length_set, Int.toNat_natCast, Int.reduceToNat] <;> omega)) | exact of_decide_eq_true rfl))
      refine LeG.bool ?_
      rw [← hq, hda, List.drop_eq_nil_of_le hge]
      exact decide_eq_false (fun h => by rw [List.length_map, List.length_map] at h; omega)
    | some y =>
      have hlb : i < b.length := (List.getElem?_eq_some_iff.1 hxb).1
      have hyes2 : ((i : Int) < ((b.map eI).length : Int)) := by rw [List.length_map]; omega
      have hdb : b.drop i = y :: b.drop (i + 1) := by rw [List.drop_eq_getElem_cons hlb, (List.getElem?_eq_some_iff.1 hxb).2]
      rw [hda, hdb] at hq
      by_cases hxy : x = y
      · have hq2 : befB (a.drop (i + 1)) (b.drop (i + 1)) = befB a b := by
          rw [← hq]; simp only [befB]; rw [if_pos hxy]
        repeat' (first | ((with_reducible show _ = _); exact rfl) | ((with_reducible show (_ : Nat) < _); exact Nat.zero_lt_succ _) | ((with_reducible show (_ : Nat) ≤ _); exact Nat.le_of_ble_eq_true rfl) | ((with_reducible show Exists _); refine exU8 ?_) | ((fail_if_success (first | (with_reducible show LeG _ _) | (with_reducible show Lp _ _ _ _) | (with_reducible show Exists _) | (with_reducible show callX _ _ _ _ _) | (with_reducible show (_ : Int) ≤ _) | (with_reducible show (_ : Int) < _) | (with_reducible show (_ : Nat) ≤ _) | (with_reducible show (_ : Nat) < _))); (conv => whnf) <;> (first | exact OkR.mk (by kernel_rfl) | exact OkC.mk (by kernel_rfl) | refine Br.dec (fun hc => ?_) (fun hc => absurd hyes hc) | refine Br.dec (fun hc => ?_) (fun hc => absurd hyes2 hc) | refine Br.dec (fun hc => absurd hxy hc) (fun hc => ?_) | refine ix_at hxa ?_ | refine ix_at hxb ?_ | refine Sq.pr ?_ | refine Br.dec (fun hc => ?_) (fun hc => ?_) | refine Br.tt ?_ | refine Br.ff ?_ | refine Br.not ?_ | refine Br.mk (fun hc => ?_) (fun hc => ?_) | refine Opt.nn ?_ | refine Opt.ss ?_ | refine AltA.l ?_ | exact PV.leL_nil | refine PV.leL_cons ?_ ?_ | refine And.intro ?_ ?_ | refine ix_map (fun x hx => ?_) | refine exU8 ?_ | refine nilc (fun hn => ?_) ?_ | exact PV.le_refl _ | exact Nat.zero_lt_succ _ | exact Nat.le_of_ble_eq_true rfl | exact onesOf rfl | exact Or.inl rfl | exact noMem | exact onesOfP rfl | exact okAll rfl | exact okMap (fun _ => ⟨rfl, onesOfP rfl⟩) | exact nonz | refine imp0 (fun hpos => ?_) | refine fits_i64 ?_ ?_ | exact rfl | (with_reducible show LeG _ _) | (with_reducible show Lp _ _ _ _) | (with_reducible show Exists _) | (with_reducible show callX _ _ _ _ _)))) <;> (try (first | exact LeG.refl _ | omega | ((first | (with_reducible show (_ : Int) ≤ _) | (with_reducible show (_ : Int) < _) | (with_reducible show (_ : Nat) ≤ _) | (with_reducible show (_ : Nat) < _) | (with_reducible show ¬ _) | (with_reducible show (_ : Int) = _) | (with_reducible show (_ : Nat) = _)); (simp only [List.length_map, List.length_append, List.length_cons, List.length_nil, List.length_replicate, List.length_take, List.length_drop, List.length_set, Int.toNat_natCast, Int.reduceToNat] <;> omega)) | exact of_decide_eq_true rfl))
        refine ⟨⟨i + 1, hlt, hlb, hq2⟩, by show a.length - (i + 1) < a.length - i; omega, ?_⟩
        (first | refine Ent.ofA [] ?_ | refine Ent.ofC [] ?_) <;> (repeat' (first | exact trivial | refine HpLe.dd ?_ | refine HpLe.mk rfl (by simp) rfl (fun h => AObj.noConfusion h) ?_ ?_ | refine And.intro ?_ ?_ | exact VLe.refl _ | exact VLe.msl rfl | exact VLe.rsl rfl | exact VLe.csl rfl | exact VLe.cslr rfl | exact VLe.mp rfl | exact VLe.eptr rfl | exact VLe.ptr rfl | exact VLe.any _ | refine VLe.pe ?_ | refine VLe.agg ?_ | refine VLeL.cons ?_ ?_ | exact VLeL.nil | exact OLe.row _ _ | rfl | refine VLe.rsle rfl ?_ ?_ ?_ | refine OLe.rowe2 ?_ ?_ | refine OLe.mape ?_ ?_ | refine OLe.iter0 ?_ | refine OLe.itere ?_ ?_)) <;> try (first | (simp; done) | (congr 1; omega) | (congr 1; (first | (simp; done) | (simp; omega))))
      · repeat' (first | ((with_reducible show _ = _); exact rfl) | ((with_reducible show (_ : Nat) < _); exact Nat.zero_lt_succ _) | ((with_reducible show (_ : Nat) ≤ _); exact Nat.le_of_ble_eq_true rfl) | ((with_reducible show Exists _); refine exU8 ?_) | ((fail_if_success (first | (with_reducible show LeG _ _) | (with_reducible show Lp _ _ _ _) | (with_reducible show Exists _) | (with_reducible show callX _ _ _ _ _) | (with_reducible show (_ : Int) ≤ _) | (with_reducible show (_ : Int) < _) | (with_reducible show (_ : Nat) ≤ _) | (with_reducible show (_ : Nat) < _))); (conv => whnf) <;> (first | exact OkR.mk (by kernel_rfl) | exact OkC.mk (by kernel_rfl) | refine Br.dec (fun hc => ?_) (fun hc => absurd hyes hc) | refine Br.dec (fun hc => ?_) (fun hc => absurd hyes2 hc) | refine Br.dec (fun hc => ?_) (fun hc => absurd hxy hc) | refine ix_at hxa ?_ | refine ix_at hxb ?_ | refine Sq.pr ?_ | refine Br.dec (fun hc => ?_) (fun hc => ?_) | refine Br.tt ?_ | refine Br.ff ?_ | refine Br.not ?_ | refine Br.mk (fun hc => ?_) (fun hc => ?_) | refine Opt.nn ?_ | refine Opt.ss ?_ | refine AltA.l ?_ | exact PV.leL_nil | refine PV.leL_cons ?_ ?_ | refine And.intro ?_ ?_ | refine ix_map (fun x hx => ?_) | refine exU8 ?_ | refine nilc (fun hn => ?_) ?_ | exact PV.le_refl _ | exact Nat.zero_lt_succ _ | exact Nat.le_of_ble_eq_true rfl | exact onesOf rfl | exact Or.inl rfl | exact noMem | exact onesOfP rfl | exact okAll rfl | exact okMap (fun _ => ⟨rfl, onesOfP rfl⟩) | exact nonz | refine imp0 (fun hpos => ?_) | refine fits_i64 ?_ ?_ | exact rfl | (with_reducible show LeG _ _) | (with_reducible show Lp _ _ _ _) | (with_reducible show Exists _) | (with_reducible show callX _ _ _ _ _)))) <;> (try (first | exact LeG.refl _ | omega | ((first | (with_reducible show (_ : Int) ≤ _) | (with_reducible show (_ : Int) < _) | (with_reducible show (_ : Nat) ≤ _) | (with_reducible show (_ : Nat) < _) | (with_reducible show ¬ _) | (with_reducible show (_ : Int) = _) | (with_reducible show (_ : Nat) = _)); (simp only [List.length_map, List.length_append, List.length_cons, List.length_nil, List.length_replicate, List.length_take, List.length_drop, List.length_set, Int.toNat_natCast, Int.reduceToNat] <;> omega)) | exact of_decide_eq_true rfl))
        refine LeG.bool ?_
        rw [← hq]; simp only [befB]; rw [if_neg hxy]
/-- What of the arguments is right. -/
theorem right_facts {l : List Dp} {x : Ak} (h : rightB l x = true) : l.length ≤ 40 ∧ askA l x.frm x.to x.q = 0 ∧ chkA l = 0 ∧ argA x.frm x.to x.q = true ∧ (covL x.q l).Pairwise (fun a b => a.no < b.no) := by
  unfold rightB at h
  simp only [Bool.and_eq_true, decide_eq_true_eq] at h
  have hz : chkA l = 0 := by
    have := h.2
    unfold askA at this
    split at this
    · assumption
    · assumption
  refine ⟨h.1, h.2, hz, ?_, ?_⟩
  · have h2 := h.2
    unfold askA at h2
    rw [if_pos hz] at h2
    by_cases ha : argA x.frm x.to x.q = true
    · exact ha
    · rw [if_neg ha] at h2; omega
  · obtain ⟨_, _, hs⟩ := chkA_srt hz
    exact hs.sublist List.filter_sublist
theorem shortest_calls (l : List Dp) (x : Ak) (p : List Int) : PCalls Try.prog 5 [eL l, eAk x, eIs p] (.bool true) := by
  have q0 := right_law l x
  cases hf : rightB l x with
  | false =>
    rw [hf] at q0
    refine PCalls.of (N := 95) (res := [.tmp 6]) mixed Try.func5 rfl rfl rfl (by kernel_rfl) (by simp) [0, 1, 2, 4, 6, 7, 8, 9, 10, 11, 12, 13, 15, 19, 69] ?_
    repeat' (first | ((with_reducible show _ = _); exact rfl) | ((with_reducible show (_ : Nat) < _); exact Nat.zero_lt_succ _) | ((with_reducible show (_ : Nat) ≤ _); exact Nat.le_of_ble_eq_true rfl) | ((with_reducible show Exists _); refine exU8 ?_) | ((with_reducible show callX _ _ _ _ _); (first | refine call_p (sane_calls) (by kernel_rfl) rfl ?_ | refine call_p (q0) (by kernel_rfl) rfl ?_)) | ((fail_if_success (first | (with_reducible show LeG _ _) | (with_reducible show Lp _ _ _ _) | (with_reducible show Exists _) | (with_reducible show callX _ _ _ _ _) | (with_reducible show (_ : Int) ≤ _) | (with_reducible show (_ : Int) < _) | (with_reducible show (_ : Nat) ≤ _) | (with_reducible show (_ : Nat) < _))); (conv => whnf) <;> (first | exact OkR.mk (by kernel_rfl) | exact OkC.mk (by kernel_rfl) | refine Sq.pr ?_ | refine Br.dec (fun hc => ?_) (fun hc => ?_) | refine Br.tt ?_ | refine Br.ff ?_ | refine Br.not ?_ | refine Br.mk (fun hc => ?_) (fun hc => ?_) | refine Opt.nn ?_ | refine Opt.ss ?_ | refine AltA.l ?_ | exact PV.leL_nil | refine PV.leL_cons ?_ ?_ | refine And.intro ?_ ?_ | refine ix_map (fun x hx => ?_) | refine exU8 ?_ | refine nilc (fun hn => ?_) ?_ | refine call_p (sane_calls) (by kernel_rfl) rfl ?_ | refine call_p (q0) (by kernel_rfl) rfl ?_ | exact PV.le_refl _ | exact Nat.zero_lt_succ _ | exact Nat.le_of_ble_eq_true rfl | exact onesOf rfl | exact Or.inl rfl | exact noMem | exact onesOfP rfl | exact okAll rfl | exact okMap (fun _ => ⟨rfl, onesOfP rfl⟩) | exact nonz | refine imp0 (fun hpos => ?_) | refine fits_i64 ?_ ?_ | exact rfl | (with_reducible show LeG _ _) | (with_reducible show Lp _ _ _ _) | (with_reducible show Exists _) | (with_reducible show callX _ _ _ _ _)))) <;> (try (first | exact LeG.refl _ | omega | ((first | (with_reducible show (_ : Int) ≤ _) | (with_reducible show (_ : Int) < _) | (with_reducible show (_ : Nat) ≤ _) | (with_reducible show (_ : Nat) < _) | (with_reducible show ¬ _) | (with_reducible show (_ : Int) = _) | (with_reducible show (_ : Nat) = _)); (simp only [List.length_map, List.length_append, List.length_cons, List.length_nil, List.length_replicate, List.length_take, List.length_drop, List.length_set, Int.toNat_natCast, Int.reduceToNat] <;> omega)) | exact of_decide_eq_true rfl))
  | true =>
    rw [hf] at q0
    obtain ⟨hl, ha, hz, _, hs⟩ := right_facts hf
    have q1 := chainL_calls l x (by omega)
    have q2 := fun r => provesL_calls l x r (by omega)
    unfold chainA at q1
    rw [if_pos ha] at q1
    have q2 : ∀ r : List Int, PCalls Try.prog 18 [eL l, eAk x, eIs r] (.tup [.bool (if r.length ≤ 8 then provF (byF (covL x.q l)) x.to r x.frm [(x.frm, true)] else false), eI 0]) := fun r => by
      have := q2 r
      unfold provA at this
      rw [if_pos ha] at this
      split at this
      · rename_i h; rw [if_pos h]; exact this
      · rename_i h; rw [if_neg h]; exact this
    generalize covL x.q l = S at *
    have q3 := q2 p
    -- what the other list is, if it is accepted
    have hoth : (if p.length ≤ 8 then provF (byF S) x.to p x.frm [(x.frm, true)] else false) = true → ∃ ys, isP S x.to x.frm ys ∧ ys.map Dp.no = p ∧ p.length ≤ 8 := fun h => by
      split at h
      · rename_i h8
        obtain ⟨ys, h1, h2, _⟩ := (prov_path hs).1 h
        exact ⟨ys, h1, h2, h8⟩
      · cases h
    generalize hO : (if p.length ≤ 8 then provF (byF S) x.to p x.frm [(x.frm, true)] else false) = O at *
    rcases chain_cases S x.frm x.to with ⟨hc0, hno⟩ | ⟨k, hk8, hd, hc0⟩
    · rw [hc0] at q1
      have hO2 : O = false := by
        cases O with
        | false => rfl
        | true =>
          obtain ⟨ys, h1, h2, h3⟩ := hoth rfl
          have := isP_rch h1
          refine absurd this (hno _ ?_)
          have := congrArg List.length h2
          simp at this; omega
      subst hO2
      have q4 := q2 []
      have e0 : (if ([] : List Int).length ≤ 8 then provF (byF S) x.to [] x.frm [(x.frm, true)] else false) = false := by
        rw [if_pos (by simp)]
        show decide (x.frm = x.to) = false
        exact decide_eq_false (fun h => hno 0 (by omega) h)
      rw [e0] at q4
      refine PCalls.of (N := 95) (res := [.tmp 6]) mixed Try.func5 rfl rfl rfl (by kernel_rfl) (by simp) [0, 1, 2, 4, 6, 7, 8, 9, 10, 11, 12, 13, 15, 19, 69] ?_
      repeat' (first | ((with_reducible show _ = _); exact rfl) | ((with_reducible show (_ : Nat) < _); exact Nat.zero_lt_succ _) | ((with_reducible show (_ : Nat) ≤ _); exact Nat.le_of_ble_eq_true rfl) | ((with_reducible show Exists _); refine exU8 ?_) | ((with_reducible show callX _ _ _ _ _); (first | refine call_p (sane_calls) (by kernel_rfl) rfl ?_ | refine call_p (q0) (by kernel_rfl) rfl ?_ | refine call_p (q1) (by kernel_rfl) rfl ?_ | refine call_p (q3) (by kernel_rfl) rfl ?_ | refine call_p (q4) (by kernel_rfl) rfl ?_)) | ((fail_if_success (first | (with_reducible show LeG _ _) | (with_reducible show Lp _ _ _ _) | (with_reducible show Exists _) | (with_reducible show callX _ _ _ _ _) | (with_reducible show (_ : Int) ≤ _) | (with_reducible show (_ : Int) < _) | (with_reducible show (_ : Nat) ≤ _) | (with_reducible show (_ : Nat) < _))); (conv => whnf) <;> (first | exact OkR.mk (by kernel_rfl) | exact OkC.mk (by kernel_rfl) | refine Sq.pr ?_ | refine Br.dec (fun hc => ?_) (fun hc => ?_) | refine Br.tt ?_ | refine Br.ff ?_ | refine Br.not ?_ | refine Br.mk (fun hc => ?_) (fun hc => ?_) | refine Opt.nn ?_ | refine Opt.ss ?_ | refine AltA.l ?_ | exact PV.leL_nil | refine PV.leL_cons ?_ ?_ | refine And.intro ?_ ?_ | refine ix_map (fun x hx => ?_) | refine exU8 ?_ | refine nilc (fun hn => ?_) ?_ | refine call_p (sane_calls) (by kernel_rfl) rfl ?_ | refine call_p (q0) (by kernel_rfl) rfl ?_ | refine call_p (q1) (by kernel_rfl) rfl ?_ | refine call_p (q3) (by kernel_rfl) rfl ?_ | refine call_p (q4) (by kernel_rfl) rfl ?_ | exact PV.le_refl _ | exact Nat.zero_lt_succ _ | exact Nat.le_of_ble_eq_true rfl | exact onesOf rfl | exact Or.inl rfl | exact noMem | exact onesOfP rfl | exact okAll rfl | exact okMap (fun _ => ⟨rfl, onesOfP rfl⟩) | exact nonz | refine imp0 (fun hpos => ?_) | refine fits_i64 ?_ ?_ | exact rfl | (with_reducible show LeG _ _) | (with_reducible show Lp _ _ _ _) | (with_reducible show Exists _) | (with_reducible show callX _ _ _ _ _)))) <;> (try (first | exact LeG.refl _ | omega | ((first | (with_reducible show (_ : Int) ≤ _) | (with_reducible show (_ : Int) < _) | (with_reducible show (_ : Nat) ≤ _) | (with_reducible show (_ : Nat) < _) | (with_reducible show ¬ _) | (with_reducible show (_ : Int) = _) | (with_reducible show (_ : Nat) = _)); (simp only [List.length_map, List.length_append, List.length_cons, List.length_nil, List.length_replicate, List.length_take, List.length_drop, List.length_set, Int.toNat_natCast, Int.reduceToNat] <;> omega)) | exact of_decide_eq_true rfl))
      all_goals (exfalso; first | exact absurd rfl hc | (simp at hc; done))
    · rw [hc0] at q1
      obtain ⟨xs, h1, h2, h3, h4, h5⟩ := go_spec hs hk8 hd
      rw [h3] at q1
      have q4 := q2 (xs.map Dp.no)
      have hml : (xs.map Dp.no).length = k := by rw [List.length_map, h2]
      have e0 : (if (xs.map Dp.no).length ≤ 8 then provF (byF S) x.to (xs.map Dp.no) x.frm [(x.frm, true)] else false) = true := by
        rw [if_pos (by omega)]
        exact (prov_path hs).2 ⟨xs, h1, rfl, isP_nodup hd h2 h4⟩
      rw [e0] at q4
      have hb : ∀ ys, isP S x.to x.frm ys → ys.length = k → befB (ys.map Dp.no) (xs.map Dp.no) = false := h5
      generalize xs.map Dp.no = w at *
      have hw8 : ¬ (8 : Int) < ((w.map eI).length : Int) := by rw [List.length_map]; omega
      cases O with
      | false =>
        refine PCalls.of (N := 95) (res := [.tmp 6]) mixed Try.func5 rfl rfl rfl (by kernel_rfl) (by simp) [0, 1, 2, 4, 6, 7, 8, 9, 10, 11, 12, 13, 15, 19, 69] ?_
        repeat' (first | ((with_reducible show _ = _); exact rfl) | ((with_reducible show (_ : Nat) < _); exact Nat.zero_lt_succ _) | ((with_reducible show (_ : Nat) ≤ _); exact Nat.le_of_ble_eq_true rfl) | ((with_reducible show Exists _); refine exU8 ?_) | ((with_reducible show callX _ _ _ _ _); (first | refine call_p (sane_calls) (by kernel_rfl) rfl ?_ | refine call_p (q0) (by kernel_rfl) rfl ?_ | refine call_p (q1) (by kernel_rfl) rfl ?_ | refine call_p (q3) (by kernel_rfl) rfl ?_ | refine call_p (q4) (by kernel_rfl) rfl ?_)) | ((fail_if_success (first | (with_reducible show LeG _ _) | (with_reducible show Lp _ _ _ _) | (with_reducible show Exists _) | (with_reducible show callX _ _ _ _ _) | (with_reducible show (_ : Int) ≤ _) | (with_reducible show (_ : Int) < _) | (with_reducible show (_ : Nat) ≤ _) | (with_reducible show (_ : Nat) < _))); (conv => whnf) <;> (first | exact OkR.mk (by kernel_rfl) | exact OkC.mk (by kernel_rfl) | refine Br.dec (fun hc => absurd hc hw8) (fun hc => ?_) | refine Sq.pr ?_ | refine Br.dec (fun hc => ?_) (fun hc => ?_) | refine Br.tt ?_ | refine Br.ff ?_ | refine Br.not ?_ | refine Br.mk (fun hc => ?_) (fun hc => ?_) | refine Opt.nn ?_ | refine Opt.ss ?_ | refine AltA.l ?_ | exact PV.leL_nil | refine PV.leL_cons ?_ ?_ | refine And.intro ?_ ?_ | refine ix_map (fun x hx => ?_) | refine exU8 ?_ | refine nilc (fun hn => ?_) ?_ | refine call_p (sane_calls) (by kernel_rfl) rfl ?_ | refine call_p (q0) (by kernel_rfl) rfl ?_ | refine call_p (q1) (by kernel_rfl) rfl ?_ | refine call_p (q3) (by kernel_rfl) rfl ?_ | refine call_p (q4) (by kernel_rfl) rfl ?_ | exact PV.le_refl _ | exact Nat.zero_lt_succ _ | exact Nat.le_of_ble_eq_true rfl | exact onesOf rfl | exact Or.inl rfl | exact noMem | exact onesOfP rfl | exact okAll rfl | exact okMap (fun _ => ⟨rfl, onesOfP rfl⟩) | exact nonz | refine imp0 (fun hpos => ?_) | refine fits_i64 ?_ ?_ | exact rfl | (with_reducible show LeG _ _) | (with_reducible show Lp _ _ _ _) | (with_reducible show Exists _) | (with_reducible show callX _ _ _ _ _)))) <;> (try (first | exact LeG.refl _ | omega | ((first | (with_reducible show (_ : Int) ≤ _) | (with_reducible show (_ : Int) < _) | (with_reducible show (_ : Nat) ≤ _) | (with_reducible show (_ : Nat) < _) | (with_reducible show ¬ _) | (with_reducible show (_ : Int) = _) | (with_reducible show (_ : Nat) = _)); (simp only [List.length_map, List.length_append, List.length_cons, List.length_nil, List.length_replicate, List.length_take, List.length_drop, List.length_set, Int.toNat_natCast, Int.reduceToNat] <;> omega)) | exact of_decide_eq_true rfl))
        all_goals (exfalso; first | exact absurd rfl hc | (simp at hc; done))
      | true =>
        obtain ⟨ys, g1, g2, g3⟩ := hoth rfl
        have hyl : ys.length = p.length := by rw [← g2, List.length_map]
        have hge : k ≤ p.length := by
          have hr := isP_rch g1
          rw [hyl] at hr
          rcases Nat.lt_or_ge p.length k with h | h
          · exact absurd hr (hd.2 _ h)
          · exact h
        by_cases hkp : p.length = k
        · have q5 := before_calls p w (by omega)
          have := hb ys g1 (by omega)
          rw [g2] at this
          rw [this] at q5
          have hlt : ¬ ((w.map eI).length : Int) < ((p.map eI).length : Int) := by rw [List.length_map, List.length_map]; omega
          have heq : ((w.map eI).length : Int) = ((p.map eI).length : Int) := by rw [List.length_map, List.length_map]; omega
          refine PCalls.of (N := 95) (res := [.tmp 6]) mixed Try.func5 rfl rfl rfl (by kernel_rfl) (by simp) [0, 1, 2, 4, 6, 7, 8, 9, 10, 11, 12, 13, 15, 19, 69] ?_
          repeat' (first | ((with_reducible show _ = _); exact rfl) | ((with_reducible show (_ : Nat) < _); exact Nat.zero_lt_succ _) | ((with_reducible show (_ : Nat) ≤ _); exact Nat.le_of_ble_eq_true rfl) | ((with_reducible show Exists _); refine exU8 ?_) | ((with_reducible show callX _ _ _ _ _); (first | refine call_p (sane_calls) (by kernel_rfl) rfl ?_ | refine call_p (q0) (by kernel_rfl) rfl ?_ | refine call_p (q1) (by kernel_rfl) rfl ?_ | refine call_p (q3) (by kernel_rfl) rfl ?_ | refine call_p (q4) (by kernel_rfl) rfl ?_ | refine call_p (q5) (by kernel_rfl) rfl ?_)) | ((fail_if_success (first | (with_reducible show LeG _ _) | (with_reducible show Lp _ _ _ _) | (with_reducible show Exists _) | (with_reducible show callX _ _ _ _ _) | (with_reducible show (_ : Int) ≤ _) | (with_reducible show (_ : Int) < _) | (with_reducible show (_ : Nat) ≤ _) | (with_reducible show (_ : Nat) < _))); (conv => whnf) <;> (first | exact OkR.mk (by kernel_rfl) | exact OkC.mk (by kernel_rfl) | refine Br.dec (fun hc => absurd hc hw8) (fun hc => ?_) | refine Br.dec (fun hc => absurd hc hlt) (fun hc => ?_) | refine Br.dec (fun hc => ?_) (fun hc => absurd heq hc) | refine Sq.pr ?_ | refine Br.dec (fun hc => ?_) (fun hc => ?_) | refine Br.tt ?_ | refine Br.ff ?_ | refine Br.not ?_ | refine Br.mk (fun hc => ?_) (fun hc => ?_) | refine Opt.nn ?_ | refine Opt.ss ?_ | refine AltA.l ?_ | exact PV.leL_nil | refine PV.leL_cons ?_ ?_ | refine And.intro ?_ ?_ | refine ix_map (fun x hx => ?_) | refine exU8 ?_ | refine nilc (fun hn => ?_) ?_ | refine call_p (sane_calls) (by kernel_rfl) rfl ?_ | refine call_p (q0) (by kernel_rfl) rfl ?_ | refine call_p (q1) (by kernel_rfl) rfl ?_ | refine call_p (q3) (by kernel_rfl) rfl ?_ | refine call_p (q4) (by kernel_rfl) rfl ?_ | refine call_p (q5) (by kernel_rfl) rfl ?_ | exact PV.le_refl _ | exact Nat.zero_lt_succ _ | exact Nat.le_of_ble_eq_true rfl | exact onesOf rfl | exact Or.inl rfl | exact noMem | exact onesOfP rfl | exact okAll rfl | exact okMap (fun _ => ⟨rfl, onesOfP rfl⟩) | exact nonz | refine imp0 (fun hpos => ?_) | refine fits_i64 ?_ ?_ | exact rfl | (with_reducible show LeG _ _) | (with_reducible show Lp _ _ _ _) | (with_reducible show Exists _) | (with_reducible show callX _ _ _ _ _)))) <;> (try (first | exact LeG.refl _ | omega | ((first | (with_reducible show (_ : Int) ≤ _) | (with_reducible show (_ : Int) < _) | (with_reducible show (_ : Nat) ≤ _) | (with_reducible show (_ : Nat) < _) | (with_reducible show ¬ _) | (with_reducible show (_ : Int) = _) | (with_reducible show (_ : Nat) = _)); (simp only [List.length_map, List.length_append, List.length_cons, List.length_nil, List.length_replicate, List.length_take, List.length_drop, List.length_set, Int.toNat_natCast, Int.reduceToNat] <;> omega)) | exact of_decide_eq_true rfl))
          all_goals (exfalso; first | exact absurd rfl hc | (simp at hc; done))
        · have hlt : ((w.map eI).length : Int) < ((p.map eI).length : Int) := by rw [List.length_map, List.length_map]; omega
          refine PCalls.of (N := 95) (res := [.tmp 6]) mixed Try.func5 rfl rfl rfl (by kernel_rfl) (by simp) [0, 1, 2, 4, 6, 7, 8, 9, 10, 11, 12, 13, 15, 19, 69] ?_
          repeat' (first | ((with_reducible show _ = _); exact rfl) | ((with_reducible show (_ : Nat) < _); exact Nat.zero_lt_succ _) | ((with_reducible show (_ : Nat) ≤ _); exact Nat.le_of_ble_eq_true rfl) | ((with_reducible show Exists _); refine exU8 ?_) | ((with_reducible show callX _ _ _ _ _); (first | refine call_p (sane_calls) (by kernel_rfl) rfl ?_ | refine call_p (q0) (by kernel_rfl) rfl ?_ | refine call_p (q1) (by kernel_rfl) rfl ?_ | refine call_p (q3) (by kernel_rfl) rfl ?_ | refine call_p (q4) (by kernel_rfl) rfl ?_)) | ((fail_if_success (first | (with_reducible show LeG _ _) | (with_reducible show Lp _ _ _ _) | (with_reducible show Exists _) | (with_reducible show callX _ _ _ _ _) | (with_reducible show (_ : Int) ≤ _) | (with_reducible show (_ : Int) < _) | (with_reducible show (_ : Nat) ≤ _) | (with_reducible show (_ : Nat) < _))); (conv => whnf) <;> (first | exact OkR.mk (by kernel_rfl) | exact OkC.mk (by kernel_rfl) | refine Br.dec (fun hc => absurd hc hw8) (fun hc => ?_) | refine Br.dec (fun hc => ?_) (fun hc => absurd hlt hc) | refine Sq.pr ?_ | refine Br.dec (fun hc => ?_) (fun hc => ?_) | refine Br.tt ?_ | refine Br.ff ?_ | refine Br.not ?_ | refine Br.mk (fun hc => ?_) (fun hc => ?_) | refine Opt.nn ?_ | refine Opt.ss ?_ | refine AltA.l ?_ | exact PV.leL_nil | refine PV.leL_cons ?_ ?_ | refine And.intro ?_ ?_ | refine ix_map (fun x hx => ?_) | refine exU8 ?_ | refine nilc (fun hn => ?_) ?_ | refine call_p (sane_calls) (by kernel_rfl) rfl ?_ | refine call_p (q0) (by kernel_rfl) rfl ?_ | refine call_p (q1) (by kernel_rfl) rfl ?_ | refine call_p (q3) (by kernel_rfl) rfl ?_ | refine call_p (q4) (by kernel_rfl) rfl ?_ | exact PV.le_refl _ | exact Nat.zero_lt_succ _ | exact Nat.le_of_ble_eq_true rfl | exact onesOf rfl | exact Or.inl rfl | exact noMem | exact onesOfP rfl | exact okAll rfl | exact okMap (fun _ => ⟨rfl, onesOfP rfl⟩) | exact nonz | refine imp0 (fun hpos => ?_) | refine fits_i64 ?_ ?_ | exact rfl | (with_reducible show LeG _ _) | (with_reducible show Lp _ _ _ _) | (with_reducible show Exists _) | (with_reducible show callX _ _ _ _ _)))) <;> (try (first | exact LeG.refl _ | omega | ((first | (with_reducible show (_ : Int) ≤ _) | (with_reducible show (_ : Int) < _) | (with_reducible show (_ : Nat) ≤ _) | (with_reducible show (_ : Nat) < _) | (with_reducible show ¬ _) | (with_reducible show (_ : Int) = _) | (with_reducible show (_ : Nat) = _)); (simp only [List.length_map, List.length_append, List.length_cons, List.length_nil, List.length_replicate, List.length_take, List.length_drop, List.length_set, Int.toNat_natCast, Int.reduceToNat] <;> omega)) | exact of_decide_eq_true rfl))
          all_goals (exfalso; first | exact absurd rfl hc | (simp at hc; done))
end Go.Proofs.Ytghgjobknmddgaa

namespace Go.Proofs.Ytghgjobknmddgaa
open Go Go.Sg
set_option maxRecDepth 100000
set_option maxHeartbeats 20000000
theorem wrapAt {k : IntKind} {A : Prop} {K : AV → Prop} (n m : Int) (h : K (.p (.int k (k.wrap (n + m))))) : AltA A (wrapK (.p (.int k n)) (.p (.int k m)) K) := ⟨.inr ⟨rfl, h⟩⟩
theorem wrap_small {s : Int} (h : 0 ≤ s ∧ s ≤ 1125899906842624) : IntKind.i64.wrap s = s := by
  exact fits_i64 (by omega) (by omega)
/-- With a greater value there is no delegation more. -/
theorem cov_mono {l : List Dp} {q q' : Qn} (h1 : q'.off = q.off) (h2 : q'.kind = q.kind) (h3 : q'.tm = q.tm) (h4 : q'.known = q.known) (h5 : q.val ≤ q'.val) : ∀ x ∈ covL q' l, x ∈ covL q l := by
  have hc : cntA q' = cntA q := by funext x; unfold cntA; rw [h3, h4]
  have hM : foldM q' l = foldM q l := by unfold foldM updM; rw [hc]
  intro x hx
  obtain ⟨g1, g2⟩ := List.mem_filter.1 hx
  refine List.mem_filter.2 ⟨g1, ?_⟩
  unfold covB at *
  rw [hM, hc] at g2
  simp only [Bool.and_eq_true] at *
  refine ⟨g2.1, ?_⟩
  have g3 := g2.2
  unfold covA at *
  simp only [Bool.and_eq_true, Bool.or_eq_true, Bool.not_eq_true', decide_eq_true_eq, h1, h2, h3] at *
  exact ⟨g3.1, by omega⟩
/-- A chain as it is handed out. -/
structure ChR (S : List Dp) (f t : Int) (w : List Int) (b : Bool) : Prop where
  yes : b = true → ∃ k : Nat, k ≤ 8 ∧ dst S t k f ∧ w.length = k
  no : b = false → w = [] ∧ ∀ n, n ≤ 8 → ¬ rch S t n f
theorem chr_of {S : List Dp} (hs : S.Pairwise (fun a b => a.no < b.no)) (f t : Int) : ∃ w b, chainF S f t = (w, b, 0) ∧ ChR S f t w b ∧ w.length ≤ 8 := by
  rcases chain_cases S f t with ⟨h1, h2⟩ | ⟨k, h1, h2, h3⟩
  · exact ⟨_, _, h1, ⟨fun h => (by cases h), fun _ => ⟨rfl, h2⟩⟩, by simp⟩
  · obtain ⟨xs, g1, g2, g3, _⟩ := go_spec hs h1 h2
    refine ⟨_, _, h3, ⟨fun _ => ⟨k, h1, h2, by rw [g3, List.length_map, g2]⟩, fun h => (by cases h)⟩, by rw [g3, List.length_map, g2]; exact h1⟩
theorem through_calls (l : List Dp) (x : Ak) (u m : Int) (hm : 0 ≤ m ∧ m ≤ 4294967295) : PCalls Try.prog 7 [eL l, eAk x, eI u, .int .u32 m] (.bool true) := by
  have q0 := right_law l x
  have q9 := right_law l ⟨x.to, u, x.q⟩
  cases hf : rightB l x with
  | false =>
    rw [hf] at q0
    refine PCalls.of (N := 138) (res := [.tmp 8]) mixed Try.func7 rfl rfl rfl (by kernel_rfl) (by simp) [0, 1, 2, 3, 5, 8, 9, 10, 11, 12, 13, 14, 15, 16, 17, 18, 19, 20, 21, 22, 23, 25, 51, 110, 114] ?_
    repeat' (first | ((with_reducible show _ = _); exact rfl) | ((with_reducible show (_ : Nat) < _); exact Nat.zero_lt_succ _) | ((with_reducible show (_ : Nat) ≤ _); exact Nat.le_of_ble_eq_true rfl) | ((with_reducible show Exists _); refine exU8 ?_) | ((with_reducible show callX _ _ _ _ _); (first | refine call_p (sane_calls) (by kernel_rfl) rfl ?_ | refine call_p (q0) (by kernel_rfl) rfl ?_ | refine call_p (q9) (by kernel_rfl) rfl ?_)) | ((fail_if_success (first | (with_reducible show LeG _ _) | (with_reducible show Lp _ _ _ _) | (with_reducible show Exists _) | (with_reducible show callX _ _ _ _ _) | (with_reducible show (_ : Int) ≤ _) | (with_reducible show (_ : Int) < _) | (with_reducible show (_ : Nat) ≤ _) | (with_reducible show (_ : Nat) < _))); (conv => whnf) <;> (first | exact OkR.mk (by kernel_rfl) | exact OkC.mk (by kernel_rfl) | refine wrapAt x.q.val _ ?_ | refine Sq.pr ?_ | refine Br.dec (fun hc => ?_) (fun hc => ?_) | refine Br.tt ?_ | refine Br.ff ?_ | refine Br.not ?_ | refine Br.mk (fun hc => ?_) (fun hc => ?_) | refine Opt.nn ?_ | refine Opt.ss ?_ | refine AltA.l ?_ | exact PV.leL_nil | refine PV.leL_cons ?_ ?_ | refine And.intro ?_ ?_ | refine ix_map (fun x hx => ?_) | refine exU8 ?_ | refine nilc (fun hn => ?_) ?_ | refine call_p (sane_calls) (by kernel_rfl) rfl ?_ | refine call_p (q0) (by kernel_rfl) rfl ?_ | refine call_p (q9) (by kernel_rfl) rfl ?_ | exact PV.le_refl _ | exact Nat.zero_lt_succ _ | exact Nat.le_of_ble_eq_true rfl | exact onesOf rfl | exact Or.inl rfl | exact noMem | exact onesOfP rfl | exact okAll rfl | exact okMap (fun _ => ⟨rfl, onesOfP rfl⟩) | exact nonz | refine imp0 (fun hpos => ?_) | refine fits_i64 ?_ ?_ | exact rfl | (with_reducible show LeG _ _) | (with_reducible show Lp _ _ _ _) | (with_reducible show Exists _) | (with_reducible show callX _ _ _ _ _)))) <;> (try (first | exact LeG.refl _ | omega | ((first | (with_reducible show (_ : Int) ≤ _) | (with_reducible show (_ : Int) < _) | (with_reducible show (_ : Nat) ≤ _) | (with_reducible show (_ : Nat) < _) | (with_reducible show ¬ _) | (with_reducible show (_ : Int) = _) | (with_reducible show (_ : Nat) = _)); (simp only [List.length_map, List.length_append, List.length_cons, List.length_nil, List.length_replicate, List.length_take, List.length_drop, List.length_set, Int.toNat_natCast, Int.reduceToNat] <;> omega)) | exact of_decide_eq_true rfl))
  | true =>
    rw [hf] at q0
    cases hn : rightB l ⟨x.to, u, x.q⟩ with
    | false =>
      rw [hn] at q9
      refine PCalls.of (N := 138) (res := [.tmp 8]) mixed Try.func7 rfl rfl rfl (by kernel_rfl) (by simp) [0, 1, 2, 3, 5, 8, 9, 10, 11, 12, 13, 14, 15, 16, 17, 18, 19, 20, 21, 22, 23, 25, 51, 110, 114] ?_
      repeat' (first | ((with_reducible show _ = _); exact rfl) | ((with_reducible show (_ : Nat) < _); exact Nat.zero_lt_succ _) | ((with_reducible show (_ : Nat) ≤ _); exact Nat.le_of_ble_eq_true rfl) | ((with_reducible show Exists _); refine exU8 ?_) | ((with_reducible show callX _ _ _ _ _); (first | refine call_p (sane_calls) (by kernel_rfl) rfl ?_ | refine call_p (q0) (by kernel_rfl) rfl ?_ | refine call_p (q9) (by kernel_rfl) rfl ?_)) | ((fail_if_success (first | (with_reducible show LeG _ _) | (with_reducible show Lp _ _ _ _) | (with_reducible show Exists _) | (with_reducible show callX _ _ _ _ _) | (with_reducible show (_ : Int) ≤ _) | (with_reducible show (_ : Int) < _) | (with_reducible show (_ : Nat) ≤ _) | (with_reducible show (_ : Nat) < _))); (conv => whnf) <;> (first | exact OkR.mk (by kernel_rfl) | exact OkC.mk (by kernel_rfl) | refine wrapAt x.q.val _ ?_ | refine Sq.pr ?_ | refine Br.dec (fun hc => ?_) (fun hc => ?_) | refine Br.tt ?_ | refine Br.ff ?_ | refine Br.not ?_ | refine Br.mk (fun hc => ?_) (fun hc => ?_) | refine Opt.nn ?_ | refine Opt.ss ?_ | refine AltA.l ?_ | exact PV.leL_nil | refine PV.leL_cons ?_ ?_ | refine And.intro ?_ ?_ | refine ix_map (fun x hx => ?_) | refine exU8 ?_ | refine nilc (fun hn => ?_) ?_ | refine call_p (sane_calls) (by kernel_rfl) rfl ?_ | refine call_p (q0) (by kernel_rfl) rfl ?_ | refine call_p (q9) (by kernel_rfl) rfl ?_ | exact PV.le_refl _ | exact Nat.zero_lt_succ _ | exact Nat.le_of_ble_eq_true rfl | exact onesOf rfl | exact Or.inl rfl | exact noMem | exact onesOfP rfl | exact okAll rfl | exact okMap (fun _ => ⟨rfl, onesOfP rfl⟩) | exact nonz | refine imp0 (fun hpos => ?_) | refine fits_i64 ?_ ?_ | exact rfl | (with_reducible show LeG _ _) | (with_reducible show Lp _ _ _ _) | (with_reducible show Exists _) | (with_reducible show callX _ _ _ _ _)))) <;> (try (first | exact LeG.refl _ | omega | ((first | (with_reducible show (_ : Int) ≤ _) | (with_reducible show (_ : Int) < _) | (with_reducible show (_ : Nat) ≤ _) | (with_reducible show (_ : Nat) < _) | (with_reducible show ¬ _) | (with_reducible show (_ : Int) = _) | (with_reducible show (_ : Nat) = _)); (simp only [List.length_map, List.length_append, List.length_cons, List.length_nil, List.length_replicate, List.length_take, List.length_drop, List.length_set, Int.toNat_natCast, Int.reduceToNat] <;> omega)) | exact of_decide_eq_true rfl))
    | true =>
      rw [hn] at q9
      obtain ⟨hl, ha, hz, hr, hs⟩ := right_facts hf
      obtain ⟨_, ha2, _, hr2, _⟩ := right_facts hn
      have hv : 0 ≤ x.q.val ∧ x.q.val ≤ 1099511627776 := by
        unfold argA at hr
        simp only [Bool.and_eq_true, inB, decide_eq_true_eq] at hr
        omega
      have hr3 : argA x.frm u x.q = true := by
        unfold argA at *
        simp only [Bool.and_eq_true] at *
        exact ⟨⟨⟨⟨⟨⟨hr.1.1.1.1.1.1, hr2.1.1.1.1.1.2⟩, hr.1.1.1.1.2⟩, hr.1.1.1.2⟩, hr.1.1.2⟩, hr.1.2⟩, hr.2⟩
      have ha3 : askA l x.frm u x.q = 0 := by unfold askA; rw [if_pos hz, if_pos hr3]
      have q1 := chainL_calls l x (by omega)
      have q2 := chainL_calls l ⟨x.to, u, x.q⟩ (by omega)
      have q3 := chainL_calls l ⟨x.frm, u, x.q⟩ (by omega)
      unfold chainA at q1 q2 q3
      rw [if_pos ha] at q1
      rw [if_pos ha2] at q2
      rw [if_pos ha3] at q3
      obtain ⟨a, one, e1, c1, a8⟩ := chr_of hs x.frm x.to
      obtain ⟨b, two, e2, c2, b8⟩ := chr_of hs x.to u
      obtain ⟨c, all, e3, c3, c8⟩ := chr_of hs x.frm u
      rw [e1] at q1
      rw [show chainF (covL x.q l) x.to u = (b, two, 0) from e2] at q2
      rw [show chainF (covL x.q l) x.frm u = (c, all, 0) from e3] at q3
      -- both chains together
      have hall : one = true → two = true → a.length + b.length ≤ 8 → all = true ∧ c.length ≤ a.length + b.length := fun h1 h2 h3 => by
        obtain ⟨k1, g1, g2, g3⟩ := c1.yes h1
        obtain ⟨k2, g4, g5, g6⟩ := c2.yes h2
        have hr := rch_trans g2.1 g5.1
        cases hall : all with
        | false => exact absurd hr ((c3.no hall).2 _ (by omega))
        | true =>
          obtain ⟨k3, g7, g8, g9⟩ := c3.yes hall
          refine ⟨rfl, ?_⟩
          rcases Nat.lt_or_ge (k1 + k2) k3 with h | h
          · exact absurd hr (g8.2 _ h)
          · omega
      have hw1 : IntKind.i64.wrap m = m := wrap_small (by omega)
      have hw2 : IntKind.i64.wrap (x.q.val + m) = x.q.val + m := wrap_small (by omega)
      have q4 := right_law l ⟨x.frm, x.to, ⟨x.q.off, x.q.kind, IntKind.i64.wrap (x.q.val + IntKind.i64.wrap m), x.q.tm, x.q.known⟩⟩
      have hla : ((a.map eI).length : Int) = (a.length : Int) := by rw [List.length_map]
      have hlb : ((b.map eI).length : Int) = (b.length : Int) := by rw [List.length_map]
      have hlc : ((c.map eI).length : Int) = (c.length : Int) := by rw [List.length_map]
      cases hg : rightB l ⟨x.frm, x.to, ⟨x.q.off, x.q.kind, IntKind.i64.wrap (x.q.val + IntKind.i64.wrap m), x.q.tm, x.q.known⟩⟩ with
      | false =>
        rw [hg] at q4
        refine PCalls.of (N := 138) (res := [.tmp 8]) mixed Try.func7 rfl rfl rfl (by kernel_rfl) (by simp) [0, 1, 2, 3, 5, 8, 9, 10, 11, 12, 13, 14, 15, 16, 17, 18, 19, 20, 21, 22, 23, 25, 51, 110, 114] ?_
        repeat' (first | ((with_reducible show _ = _); exact rfl) | ((with_reducible show (_ : Nat) < _); exact Nat.zero_lt_succ _) | ((with_reducible show (_ : Nat) ≤ _); exact Nat.le_of_ble_eq_true rfl) | ((with_reducible show Exists _); refine exU8 ?_) | ((with_reducible show callX _ _ _ _ _); (first | refine call_p (sane_calls) (by kernel_rfl) rfl ?_ | refine call_p (q0) (by kernel_rfl) rfl ?_ | refine call_p (q9) (by kernel_rfl) rfl ?_ | refine call_p (q1) (by kernel_rfl) rfl ?_ | refine call_p (q2) (by kernel_rfl) rfl ?_ | refine call_p (q3) (by kernel_rfl) rfl ?_ | refine call_p (q4) (by kernel_rfl) rfl ?_)) | ((fail_if_success (first | (with_reducible show LeG _ _) | (with_reducible show Lp _ _ _ _) | (with_reducible show Exists _) | (with_reducible show callX _ _ _ _ _) | (with_reducible show (_ : Int) ≤ _) | (with_reducible show (_ : Int) < _) | (with_reducible show (_ : Nat) ≤ _) | (with_reducible show (_ : Nat) < _))); (conv => whnf) <;> (first | exact OkR.mk (by kernel_rfl) | exact OkC.mk (by kernel_rfl) | refine wrapAt x.q.val _ ?_ | refine Sq.pr ?_ | refine Br.dec (fun hc => ?_) (fun hc => ?_) | refine Br.tt ?_ | refine Br.ff ?_ | refine Br.not ?_ | refine Br.mk (fun hc => ?_) (fun hc => ?_) | refine Opt.nn ?_ | refine Opt.ss ?_ | refine AltA.l ?_ | exact PV.leL_nil | refine PV.leL_cons ?_ ?_ | refine And.intro ?_ ?_ | refine ix_map (fun x hx => ?_) | refine exU8 ?_ | refine nilc (fun hn => ?_) ?_ | refine call_p (sane_calls) (by kernel_rfl) rfl ?_ | refine call_p (q0) (by kernel_rfl) rfl ?_ | refine call_p (q9) (by kernel_rfl) rfl ?_ | refine call_p (q1) (by kernel_rfl) rfl ?_ | refine call_p (q2) (by kernel_rfl) rfl ?_ | refine call_p (q3) (by kernel_rfl) rfl ?_ | refine call_p (q4) (by kernel_rfl) rfl ?_ | exact PV.le_refl _ | exact Nat.zero_lt_succ _ | exact Nat.le_of_ble_eq_true rfl | exact onesOf rfl | exact Or.inl rfl | exact noMem | exact onesOfP rfl | exact okAll rfl | exact okMap (fun _ => ⟨rfl, onesOfP rfl⟩) | exact nonz | refine imp0 (fun hpos => ?_) | refine fits_i64 ?_ ?_ | exact rfl | (with_reducible show LeG _ _) | (with_reducible show Lp _ _ _ _) | (with_reducible show Exists _) | (with_reducible show callX _ _ _ _ _)))) <;> (try (first | exact LeG.refl _ | omega | ((first | (with_reducible show (_ : Int) ≤ _) | (with_reducible show (_ : Int) < _) | (with_reducible show (_ : Nat) ≤ _) | (with_reducible show (_ : Nat) < _) | (with_reducible show ¬ _) | (with_reducible show (_ : Int) = _) | (with_reducible show (_ : Nat) = _)); (simp only [List.length_map, List.length_append, List.length_cons, List.length_nil, List.length_replicate, List.length_take, List.length_drop, List.length_set, Int.toNat_natCast, Int.reduceToNat] <;> omega)) | exact of_decide_eq_true rfl))
        all_goals (try dsimp only at *)
        all_goals (try simp only [List.length_map] at *)
        all_goals (exfalso; first | exact absurd rfl hc | exact hc trivial | (have h1 := (hall (by assumption) (by assumption) (by omega)).2; omega) | exact Bool.noConfusion ((show all = false by assumption).symm.trans (hall (by assumption) (by assumption) (by omega)).1))
      | true =>
        rw [hg] at q4
        obtain ⟨_, ha5, _, _, hs5⟩ := right_facts hg
        have q5 := chainL_calls l ⟨x.frm, x.to, ⟨x.q.off, x.q.kind, IntKind.i64.wrap (x.q.val + IntKind.i64.wrap m), x.q.tm, x.q.known⟩⟩ (by omega)
        unfold chainA at q5
        rw [if_pos ha5] at q5
        obtain ⟨d, still, e5, c5, d8⟩ := chr_of hs5 x.frm x.to
        rw [show chainF (covL _ l) x.frm x.to = (d, still, 0) from e5] at q5
        have hmono := cov_mono (l := l) (q := x.q) (q' := ⟨x.q.off, x.q.kind, IntKind.i64.wrap (x.q.val + IntKind.i64.wrap m), x.q.tm, x.q.known⟩) rfl rfl rfl rfl (by show x.q.val ≤ IntKind.i64.wrap _; rw [hw1, hw2]; omega)
        have hst : still = true → one = true ∧ a.length ≤ d.length := fun h => by
          obtain ⟨k1, g1, g2, g3⟩ := c5.yes h
          have hr := rch_mono hmono g2.1
          cases ho : one with
          | false => exact absurd hr ((c1.no ho).2 _ (by omega))
          | true =>
            obtain ⟨k2, g4, g5, g6⟩ := c1.yes ho
            refine ⟨rfl, ?_⟩
            rcases Nat.lt_or_ge k1 k2 with h | h
            · exact absurd hr (g5.2 _ h)
            · omega
        have hld : ((d.map eI).length : Int) = (d.length : Int) := by rw [List.length_map]
        refine PCalls.of (N := 138) (res := [.tmp 8]) mixed Try.func7 rfl rfl rfl (by kernel_rfl) (by simp) [0, 1, 2, 3, 5, 8, 9, 10, 11, 12, 13, 14, 15, 16, 17, 18, 19, 20, 21, 22, 23, 25, 51, 110, 114] ?_
        repeat' (first | ((with_reducible show _ = _); exact rfl) | ((with_reducible show (_ : Nat) < _); exact Nat.zero_lt_succ _) | ((with_reducible show (_ : Nat) ≤ _); exact Nat.le_of_ble_eq_true rfl) | ((with_reducible show Exists _); refine exU8 ?_) | ((with_reducible show callX _ _ _ _ _); (first | refine call_p (sane_calls) (by kernel_rfl) rfl ?_ | refine call_p (q0) (by kernel_rfl) rfl ?_ | refine call_p (q9) (by kernel_rfl) rfl ?_ | refine call_p (q1) (by kernel_rfl) rfl ?_ | refine call_p (q2) (by kernel_rfl) rfl ?_ | refine call_p (q3) (by kernel_rfl) rfl ?_ | refine call_p (q4) (by kernel_rfl) rfl ?_ | refine call_p (q5) (by kernel_rfl) rfl ?_)) | ((fail_if_success (first | (with_reducible show LeG _ _) | (with_reducible show Lp _ _ _ _) | (with_reducible show Exists _) | (with_reducible show callX _ _ _ _ _) | (with_reducible show (_ : Int) ≤ _) | (with_reducible show (_ : Int) < _) | (with_reducible show (_ : Nat) ≤ _) | (with_reducible show (_ : Nat) < _))); (conv => whnf) <;> (first | exact OkR.mk (by kernel_rfl) | exact OkC.mk (by kernel_rfl) | refine wrapAt x.q.val _ ?_ | refine Sq.pr ?_ | refine Br.dec (fun hc => ?_) (fun hc => ?_) | refine Br.tt ?_ | refine Br.ff ?_ | refine Br.not ?_ | refine Br.mk (fun hc => ?_) (fun hc => ?_) | refine Opt.nn ?_ | refine Opt.ss ?_ | refine AltA.l ?_ | exact PV.leL_nil | refine PV.leL_cons ?_ ?_ | refine And.intro ?_ ?_ | refine ix_map (fun x hx => ?_) | refine exU8 ?_ | refine nilc (fun hn => ?_) ?_ | refine call_p (sane_calls) (by kernel_rfl) rfl ?_ | refine call_p (q0) (by kernel_rfl) rfl ?_ | refine call_p (q9) (by kernel_rfl) rfl ?_ | refine call_p (q1) (by kernel_rfl) rfl ?_ | refine call_p (q2) (by kernel_rfl) rfl ?_ | refine call_p (q3) (by kernel_rfl) rfl ?_ | refine call_p (q4) (by kernel_rfl) rfl ?_ | refine call_p (q5) (by kernel_rfl) rfl ?_ | exact PV.le_refl _ | exact Nat.zero_lt_succ _ | exact Nat.le_of_ble_eq_true rfl | exact onesOf rfl | exact Or.inl rfl | exact noMem | exact onesOfP rfl | exact okAll rfl | exact okMap (fun _ => ⟨rfl, onesOfP rfl⟩) | exact nonz | refine imp0 (fun hpos => ?_) | refine fits_i64 ?_ ?_ | exact rfl | (with_reducible show LeG _ _) | (with_reducible show Lp _ _ _ _) | (with_reducible show Exists _) | (with_reducible show callX _ _ _ _ _)))) <;> (try (first | exact LeG.refl _ | omega | ((first | (with_reducible show (_ : Int) ≤ _) | (with_reducible show (_ : Int) < _) | (with_reducible show (_ : Nat) ≤ _) | (with_reducible show (_ : Nat) < _) | (with_reducible show ¬ _) | (with_reducible show (_ : Int) = _) | (with_reducible show (_ : Nat) = _)); (simp only [List.length_map, List.length_append, List.length_cons, List.length_nil, List.length_replicate, List.length_take, List.length_drop, List.length_set, Int.toNat_natCast, Int.reduceToNat] <;> omega)) | exact of_decide_eq_true rfl))
        all_goals (try dsimp only at *)
        all_goals (try simp only [List.length_map] at *)
        all_goals first
        | (exfalso; first | exact absurd rfl hc | exact hc trivial | (have h1 := (hall (by assumption) (by assumption) (by omega)).2; omega) | exact Bool.noConfusion ((show all = false by assumption).symm.trans (hall (by assumption) (by assumption) (by omega)).1) | (have h1 := (hst (by assumption)).2; omega) | exact Bool.noConfusion ((show one = false by assumption).symm.trans (hst (by assumption)).1))
        | (refine LeG.bool (decide_eq_true ?_); have h1 := (hst (by assumption)).2; omega)
        | trace_state
end Go.Proofs.Ytghgjobknmddgaa

namespace Go.Proofs.Ytghgjobknmddgaa
open Go Go.Sg
set_option maxRecDepth 100000
set_option maxHeartbeats 20000000
/-! ### The reference: what stands and covers -/
theorem rcounts_calls (x : Dp) (q : Qn) : PCalls Try.prog 57 [eA x, eI q.tm, eI q.known] (.bool (cntA q x)) := by
  refine PCalls.of (N := 17) (res := [.tmp 6]) mixed Try.func57 rfl rfl rfl (by kernel_rfl) (by simp) [0, 1, 2, 3, 6] ?_
  repeat' (first | ((with_reducible show _ = _); exact rfl) | ((with_reducible show (_ : Nat) < _); exact Nat.zero_lt_succ _) | ((with_reducible show (_ : Nat) ≤ _); exact Nat.le_of_ble_eq_true rfl) | ((with_reducible show Exists _); refine exU8 ?_) | ((fail_if_success (first | (with_reducible show LeG _ _) | (with_reducible show Lp _ _ _ _) | (with_reducible show Exists _) | (with_reducible show callX _ _ _ _ _) | (with_reducible show (_ : Int) ≤ _) | (with_reducible show (_ : Int) < _) | (with_reducible show (_ : Nat) ≤ _) | (with_reducible show (_ : Nat) < _))); (conv => whnf) <;> (first | exact OkR.mk (by kernel_rfl) | exact OkC.mk (by kernel_rfl) | refine Sq.pr ?_ | refine Br.dec (fun hc => ?_) (fun hc => ?_) | refine Br.tt ?_ | refine Br.ff ?_ | refine Br.not ?_ | refine Br.mk (fun hc => ?_) (fun hc => ?_) | refine Opt.nn ?_ | refine Opt.ss ?_ | refine AltA.l ?_ | exact PV.leL_nil | refine PV.leL_cons ?_ ?_ | refine And.intro ?_ ?_ | refine ix_map (fun x hx => ?_) | refine exU8 ?_ | refine nilc (fun hn => ?_) ?_ | exact PV.le_refl _ | exact Nat.zero_lt_succ _ | exact Nat.le_of_ble_eq_true rfl | exact onesOf rfl | exact Or.inl rfl | exact noMem | exact onesOfP rfl | exact okAll rfl | exact okMap (fun _ => ⟨rfl, onesOfP rfl⟩) | exact nonz | refine imp0 (fun hpos => ?_) | refine fits_i64 ?_ ?_ | exact rfl | (with_reducible show LeG _ _) | (with_reducible show Lp _ _ _ _) | (with_reducible show Exists _) | (with_reducible show callX _ _ _ _ _)))) <;> (try (first | exact LeG.refl _ | omega | ((first | (with_reducible show (_ : Int) ≤ _) | (with_reducible show (_ : Int) < _) | (with_reducible show (_ : Nat) ≤ _) | (with_reducible show (_ : Nat) < _) | (with_reducible show ¬ _) | (with_reducible show (_ : Int) = _) | (with_reducible show (_ : Nat) = _)); (simp only [List.length_map, List.length_append, List.length_cons, List.length_nil, List.length_replicate, List.length_take, List.length_drop, List.length_set, Int.toNat_natCast, Int.reduceToNat] <;> omega)) | exact of_decide_eq_true rfl))
  ((all_goals (try simp only [cntA, *, ↓reduceIte, Bool.false_eq_true, Bool.not_true, Bool.not_false, Bool.and_true, Bool.true_and, Bool.and_false, Bool.false_and, List.nil_append, List.drop_zero, Nat.zero_add, List.take_length, Int.toNat_natCast, Int.toNat_zero, List.append_nil]))); ((all_goals (try refine LeG.mk ?_)); (repeat' (first | exact PV.le_refl _ | exact PV.le_nil _ _ _ | exact PV.le_clip _ _ _ | exact PV.le_nilF _ _ _ | refine PV.le_agg ?_ | refine PV.le_tup ?_ | exact PV.leL_nil | refine PV.leL_cons ?_ ?_ | refine PV.le_of ?_ | rfl)))
def abtB (x y : Dp) : Bool := decide (x.frm = y.frm) && decide (x.to = y.to) && decide (x.off = y.off) && decide (x.kind = y.kind)
theorem rabout_calls (x y : Dp) : PCalls Try.prog 58 [eA x, eA y] (.bool (abtB x y)) := by
  refine PCalls.of (N := 31) (res := [.tmp 4]) mixed Try.func58 rfl rfl rfl (by kernel_rfl) (by simp) [0, 1, 2, 3, 4] ?_
  repeat' (first | ((with_reducible show _ = _); exact rfl) | ((with_reducible show (_ : Nat) < _); exact Nat.zero_lt_succ _) | ((with_reducible show (_ : Nat) ≤ _); exact Nat.le_of_ble_eq_true rfl) | ((with_reducible show Exists _); refine exU8 ?_) | ((fail_if_success (first | (with_reducible show LeG _ _) | (with_reducible show Lp _ _ _ _) | (with_reducible show Exists _) | (with_reducible show callX _ _ _ _ _) | (with_reducible show (_ : Int) ≤ _) | (with_reducible show (_ : Int) < _) | (with_reducible show (_ : Nat) ≤ _) | (with_reducible show (_ : Nat) < _))); (conv => whnf) <;> (first | exact OkR.mk (by kernel_rfl) | exact OkC.mk (by kernel_rfl) | refine Sq.pr ?_ | refine Br.dec (fun hc => ?_) (fun hc => ?_) | refine Br.tt ?_ | refine Br.ff ?_ | refine Br.not ?_ | refine Br.mk (fun hc => ?_) (fun hc => ?_) | refine Opt.nn ?_ | refine Opt.ss ?_ | refine AltA.l ?_ | exact PV.leL_nil | refine PV.leL_cons ?_ ?_ | refine And.intro ?_ ?_ | refine ix_map (fun x hx => ?_) | refine exU8 ?_ | refine nilc (fun hn => ?_) ?_ | exact PV.le_refl _ | exact Nat.zero_lt_succ _ | exact Nat.le_of_ble_eq_true rfl | exact onesOf rfl | exact Or.inl rfl | exact noMem | exact onesOfP rfl | exact okAll rfl | exact okMap (fun _ => ⟨rfl, onesOfP rfl⟩) | exact nonz | refine imp0 (fun hpos => ?_) | refine fits_i64 ?_ ?_ | exact rfl | (with_reducible show LeG _ _) | (with_reducible show Lp _ _ _ _) | (with_reducible show Exists _) | (with_reducible show callX _ _ _ _ _)))) <;> (try (first | exact LeG.refl _ | omega | ((first | (with_reducible show (_ : Int) ≤ _) | (with_reducible show (_ : Int) < _) | (with_reducible show (_ : Nat) ≤ _) | (with_reducible show (_ : Nat) < _) | (with_reducible show ¬ _) | (with_reducible show (_ : Int) = _) | (with_reducible show (_ : Nat) = _)); (simp only [List.length_map, List.length_append, List.length_cons, List.length_nil, List.length_replicate, List.length_take, List.length_drop, List.length_set, Int.toNat_natCast, Int.reduceToNat] <;> omega)) | exact of_decide_eq_true rfl))
  all_goals (refine LeG.bool ?_; simp_all [abtB])
def cvsB (q : Qn) (x : Dp) : Bool := decide (x.off = q.off) && (decide (x.kind = -1) || decide (x.kind = q.kind)) && decide (q.val ≤ x.most)
theorem rcovers_calls (q : Qn) (x : Dp) : PCalls Try.prog 51 [eA x, eI q.off, eI q.kind, eI q.val] (.bool (cvsB q x)) := by
  refine PCalls.of (N := 30) (res := [.tmp 8]) mixed Try.func51 rfl rfl rfl (by kernel_rfl) (by simp) [0, 1, 2, 3, 4, 8] ?_
  repeat' (first | ((with_reducible show _ = _); exact rfl) | ((with_reducible show (_ : Nat) < _); exact Nat.zero_lt_succ _) | ((with_reducible show (_ : Nat) ≤ _); exact Nat.le_of_ble_eq_true rfl) | ((with_reducible show Exists _); refine exU8 ?_) | ((fail_if_success (first | (with_reducible show LeG _ _) | (with_reducible show Lp _ _ _ _) | (with_reducible show Exists _) | (with_reducible show callX _ _ _ _ _) | (with_reducible show (_ : Int) ≤ _) | (with_reducible show (_ : Int) < _) | (with_reducible show (_ : Nat) ≤ _) | (with_reducible show (_ : Nat) < _))); (conv => whnf) <;> (first | exact OkR.mk (by kernel_rfl) | exact OkC.mk (by kernel_rfl) | refine Sq.pr ?_ | refine Br.dec (fun hc => ?_) (fun hc => ?_) | refine Br.tt ?_ | refine Br.ff ?_ | refine Br.not ?_ | refine Br.mk (fun hc => ?_) (fun hc => ?_) | refine Opt.nn ?_ | refine Opt.ss ?_ | refine AltA.l ?_ | exact PV.leL_nil | refine PV.leL_cons ?_ ?_ | refine And.intro ?_ ?_ | refine ix_map (fun x hx => ?_) | refine exU8 ?_ | refine nilc (fun hn => ?_) ?_ | exact PV.le_refl _ | exact Nat.zero_lt_succ _ | exact Nat.le_of_ble_eq_true rfl | exact onesOf rfl | exact Or.inl rfl | exact noMem | exact onesOfP rfl | exact okAll rfl | exact okMap (fun _ => ⟨rfl, onesOfP rfl⟩) | exact nonz | refine imp0 (fun hpos => ?_) | refine fits_i64 ?_ ?_ | exact rfl | (with_reducible show LeG _ _) | (with_reducible show Lp _ _ _ _) | (with_reducible show Exists _) | (with_reducible show callX _ _ _ _ _)))) <;> (try (first | exact LeG.refl _ | omega | ((first | (with_reducible show (_ : Int) ≤ _) | (with_reducible show (_ : Int) < _) | (with_reducible show (_ : Nat) ≤ _) | (with_reducible show (_ : Nat) < _) | (with_reducible show ¬ _) | (with_reducible show (_ : Int) = _) | (with_reducible show (_ : Nat) = _)); (simp only [List.length_map, List.length_append, List.length_cons, List.length_nil, List.length_replicate, List.length_take, List.length_drop, List.length_set, Int.toNat_natCast, Int.reduceToNat] <;> omega)) | exact of_decide_eq_true rfl))
  all_goals (refine LeG.bool ?_; simp_all [cvsB])
theorem rhas_calls (l : List Int) (n : Int) (hl : l.length < 1000000) : PCalls Try.prog 37 [eIs l, eI n] (.bool (decide (n ∈ l))) := by
  refine PCalls.of (N := 18) (res := [.tmp 4]) mixed Try.func37 rfl rfl rfl (by kernel_rfl) (by simp) [0, 1, 4, 5, 9, 17] ?_
  repeat' (first | ((with_reducible show _ = _); exact rfl) | ((with_reducible show (_ : Nat) < _); exact Nat.zero_lt_succ _) | ((with_reducible show (_ : Nat) ≤ _); exact Nat.le_of_ble_eq_true rfl) | ((with_reducible show Exists _); refine exU8 ?_) | ((fail_if_success (first | (with_reducible show LeG _ _) | (with_reducible show Lp _ _ _ _) | (with_reducible show Exists _) | (with_reducible show callX _ _ _ _ _) | (with_reducible show (_ : Int) ≤ _) | (with_reducible show (_ : Int) < _) | (with_reducible show (_ : Nat) ≤ _) | (with_reducible show (_ : Nat) < _))); (conv => whnf) <;> (first | exact OkR.mk (by kernel_rfl) | exact OkC.mk (by kernel_rfl) | refine Sq.pr ?_ | refine Br.dec (fun hc => ?_) (fun hc => ?_) | refine Br.tt ?_ | refine Br.ff ?_ | refine Br.not ?_ | refine Br.mk (fun hc => ?_) (fun hc => ?_) | refine Opt.nn ?_ | refine Opt.ss ?_ | refine AltA.l ?_ | exact PV.leL_nil | refine PV.leL_cons ?_ ?_ | refine And.intro ?_ ?_ | refine ix_map (fun x hx => ?_) | refine exU8 ?_ | refine nilc (fun hn => ?_) ?_ | exact PV.le_refl _ | exact Nat.zero_lt_succ _ | exact Nat.le_of_ble_eq_true rfl | exact onesOf rfl | exact Or.inl rfl | exact noMem | exact onesOfP rfl | exact okAll rfl | exact okMap (fun _ => ⟨rfl, onesOfP rfl⟩) | exact nonz | refine imp0 (fun hpos => ?_) | refine fits_i64 ?_ ?_ | exact rfl | (with_reducible show LeG _ _) | (with_reducible show Lp _ _ _ _) | (with_reducible show Exists _) | (with_reducible show callX _ _ _ _ _)))) <;> (try (first | exact LeG.refl _ | omega | ((first | (with_reducible show (_ : Int) ≤ _) | (with_reducible show (_ : Int) < _) | (with_reducible show (_ : Nat) ≤ _) | (with_reducible show (_ : Nat) < _) | (with_reducible show ¬ _) | (with_reducible show (_ : Int) = _) | (with_reducible show (_ : Nat) = _)); (simp only [List.length_map, List.length_append, List.length_cons, List.length_nil, List.length_replicate, List.length_take, List.length_drop, List.length_set, Int.toNat_natCast, Int.reduceToNat] <;> omega)) | exact of_decide_eq_true rfl))
  refine Wpc.loopB (α := {i : Nat // i ≤ l.length ∧ ∀ (j : Nat) z, j < i → l[j]? = some z → decide (z = n) = false}) mixed [0, 1, 4, 5, 9, 17] (fun i => [(5, .p (eI i.1))]) (fun i => l.length - i.1) ⟨0, by omega, fun j z h => absurd h (by omega)⟩ ?_ ?_
  · (first | refine Ent.ofA [] ?_ | refine Ent.ofC [] ?_) <;> (repeat' (first | exact trivial | refine HpLe.dd ?_ | refine HpLe.mk rfl (by simp) rfl (fun h => AObj.noConfusion h) ?_ ?_ | refine And.intro ?_ ?_ | exact VLe.refl _ | exact VLe.msl rfl | exact VLe.rsl rfl | exact VLe.csl rfl | exact VLe.cslr rfl | exact VLe.mp rfl | exact VLe.eptr rfl | exact VLe.ptr rfl | exact VLe.any _ | refine VLe.pe ?_ | refine VLe.agg ?_ | refine VLeL.cons ?_ ?_ | exact VLeL.nil | exact OLe.row _ _ | rfl | refine VLe.rsle rfl ?_ ?_ ?_ | refine OLe.rowe2 ?_ ?_ | refine OLe.mape ?_ ?_ | refine OLe.iter0 ?_ | refine OLe.itere ?_ ?_)) <;> try (first | (simp; done) | (congr 1; omega) | (congr 1; (first | (simp; done) | (simp; omega))))
  rintro ⟨i, hi, hq⟩
  have hi : i ≤ l.length := hi
  have hq : ∀ (j : Nat) z, j < i → l[j]? = some z → decide (z = n) = false := hq
  cases hxi : l[i]? with
  | none =>
    have hge : l.length ≤ i := List.getElem?_eq_none_iff.1 hxi
    have hno : ¬ ((i : Int) < ((l.map eI).length : Int)) := by rw [List.length_map]; omega
    repeat' (first | ((with_reducible show _ = _); exact rfl) | ((with_reducible show (_ : Nat) < _); exact Nat.zero_lt_succ _) | ((with_reducible show (_ : Nat) ≤ _); exact Nat.le_of_ble_eq_true rfl) | ((with_reducible show Exists _); refine exU8 ?_) | ((fail_if_success (first | (with_reducible show LeG _ _) | (with_reducible show Lp _ _ _ _) | (with_reducible show Exists _) | (with_reducible show callX _ _ _ _ _) | (with_reducible show (_ : Int) ≤ _) | (with_reducible show (_ : Int) < _) | (with_reducible show (_ : Nat) ≤ _) | (with_reducible show (_ : Nat) < _))); (conv => whnf) <;> (first | exact OkR.mk (by kernel_rfl) | exact OkC.mk (by kernel_rfl) | refine Br.dec (fun hc => absurd hc hno) (fun hc => ?_) | refine Sq.pr ?_ | refine Br.dec (fun hc => ?_) (fun hc => ?_) | refine Br.tt ?_ | refine Br.ff ?_ | refine Br.not ?_ | refine Br.mk (fun hc => ?_) (fun hc => ?_) | refine Opt.nn ?_ | refine Opt.ss ?_ | refine AltA.l ?_ | exact PV.leL_nil | refine PV.leL_cons ?_ ?_ | refine And.intro ?_ ?_ | refine ix_map (fun x hx => ?_) | refine exU8 ?_ | refine nilc (fun hn => ?_) ?_ | exact PV.le_refl _ | exact Nat.zero_lt_succ _ | exact Nat.le_of_ble_eq_true rfl | exact onesOf rfl | exact Or.inl rfl | exact noMem | exact onesOfP rfl | exact okAll rfl | exact okMap (fun _ => ⟨rfl, onesOfP rfl⟩) | exact nonz | refine imp0 (fun hpos => ?_) | refine fits_i64 ?_ ?_ | exact rfl | (with_reducible show LeG _ _) | (with_reducible show Lp _ _ _ _) | (with_reducible show Exists _) | (with_reducible show callX _ _ _ _ _)))) <;> (try (first | exact LeG.refl _ | omega | ((first | (with_reducible show (_ : Int) ≤ _) | (with_reducible show (_ : Int) < _) | (with_reducible show (_ : Nat) ≤ _) | (with_reducible show (_ : Nat) < _) | (with_reducible show ¬ _) | (with_reducible show (_ : Int) = _) | (with_reducible show (_ : Nat) = _)); (simp only [List.length_map, List.length_append, List.length_cons, List.length_nil, List.length_replicate, List.length_take, List.length_drop, List.length_set, Int.toNat_natCast, Int.reduceToNat] <;> omega)) | exact of_decide_eq_true rfl))
    have : ¬ n ∈ l := fun h => by
      obtain ⟨j, hj⟩ := List.getElem?_of_mem h
      have := hq j n (by have := (List.getElem?_eq_some_iff.1 hj).1; omega) hj
      simp at this
    rw [decide_eq_false this]; exact LeG.refl _
  | some z =>
    have hlt : i < l.length := (List.getElem?_eq_some_iff.1 hxi).1
    have hyes : ((i : Int) < ((l.map eI).length : Int)) := by rw [List.length_map]; omega
    repeat' (first | ((with_reducible show _ = _); exact rfl) | ((with_reducible show (_ : Nat) < _); exact Nat.zero_lt_succ _) | ((with_reducible show (_ : Nat) ≤ _); exact Nat.le_of_ble_eq_true rfl) | ((with_reducible show Exists _); refine exU8 ?_) | ((fail_if_success (first | (with_reducible show LeG _ _) | (with_reducible show Lp _ _ _ _) | (with_reducible show Exists _) | (with_reducible show callX _ _ _ _ _) | (with_reducible show (_ : Int) ≤ _) | (with_reducible show (_ : Int) < _) | (with_reducible show (_ : Nat) ≤ _) | (with_reducible show (_ : Nat) < _))); (conv => whnf) <;> (first | exact OkR.mk (by kernel_rfl) | exact OkC.mk (by kernel_rfl) | refine Br.dec (fun hc => ?_) (fun hc => absurd hyes hc) | refine ix_at hxi ?_ | refine Sq.pr ?_ | refine Br.dec (fun hc => ?_) (fun hc => ?_) | refine Br.tt ?_ | refine Br.ff ?_ | refine Br.not ?_ | refine Br.mk (fun hc => ?_) (fun hc => ?_) | refine Opt.nn ?_ | refine Opt.ss ?_ | refine AltA.l ?_ | exact PV.leL_nil | refine PV.leL_cons ?_ ?_ | refine And.intro ?_ ?_ | refine ix_map (fun x hx => ?_) | refine exU8 ?_ | refine nilc (fun hn => ?_) ?_ | exact PV.le_refl _ | exact Nat.zero_lt_succ _ | exact Nat.le_of_ble_eq_true rfl | exact onesOf rfl | exact Or.inl rfl | exact noMem | exact onesOfP rfl | exact okAll rfl | exact okMap (fun _ => ⟨rfl, onesOfP rfl⟩) | exact nonz | refine imp0 (fun hpos => ?_) | refine fits_i64 ?_ ?_ | exact rfl | (with_reducible show LeG _ _) | (with_reducible show Lp _ _ _ _) | (with_reducible show Exists _) | (with_reducible show callX _ _ _ _ _)))) <;> (try (first | exact LeG.refl _ | omega | ((first | (with_reducible show (_ : Int) ≤ _) | (with_reducible show (_ : Int) < _) | (with_reducible show (_ : Nat) ≤ _) | (with_reducible show (_ : Nat) < _) | (with_reducible show ¬ _) | (with_reducible show (_ : Int) = _) | (with_reducible show (_ : Nat) = _)); (simp only [List.length_map, List.length_append, List.length_cons, List.length_nil, List.length_replicate, List.length_take, List.length_drop, List.length_set, Int.toNat_natCast, Int.reduceToNat] <;> omega)) | exact of_decide_eq_true rfl))
    · have hc : z = n := hc
      subst hc
      rw [decide_eq_true (List.mem_of_getElem? hxi)]; exact LeG.refl _
    · have hc : ¬ z = n := hc
      refine ⟨⟨i + 1, hlt, noneTo hq hxi (decide_eq_false hc)⟩, by show l.length - (i + 1) < l.length - i; omega, ?_⟩
      (first | refine Ent.ofA [] ?_ | refine Ent.ofC [] ?_) <;> (repeat' (first | exact trivial | refine HpLe.dd ?_ | refine HpLe.mk rfl (by simp) rfl (fun h => AObj.noConfusion h) ?_ ?_ | refine And.intro ?_ ?_ | exact VLe.refl _ | exact VLe.msl rfl | exact VLe.rsl rfl | exact VLe.csl rfl | exact VLe.cslr rfl | exact VLe.mp rfl | exact VLe.eptr rfl | exact VLe.ptr rfl | exact VLe.any _ | refine VLe.pe ?_ | refine VLe.agg ?_ | refine VLeL.cons ?_ ?_ | exact VLeL.nil | exact OLe.row _ _ | rfl | refine VLe.rsle rfl ?_ ?_ ?_ | refine OLe.rowe2 ?_ ?_ | refine OLe.mape ?_ ?_ | refine OLe.iter0 ?_ | refine OLe.itere ?_ ?_)) <;> try (first | (simp; done) | (congr 1; omega) | (congr 1; (first | (simp; done) | (simp; omega))))
def badB (q : Qn) (y z : Dp) : Bool := cntA q z && abtB y z && (decide (y.tm < z.tm) || decide (z.tm = y.tm) && decide (y.no < z.no))
def basB (q : Qn) (y : Dp) : Bool := cntA q y && !y.gone && decide (q.tm < y.till)
def stB (q : Qn) (l : List Dp) (y : Dp) : Bool := basB q y && !l.any (badB q y)
theorem any_take {α : Type} {p : α → Bool} {l : List α} {i : Nat} {x : α} (h : l[i]? = some x) : (l.take (i + 1)).any p = ((l.take i).any p || p x) := by
  rw [List.take_add_one, h]; simp [List.any_append]
theorem rstanding_calls (q : Qn) (l : List Dp) (hl : l.length < 1000000) : PCalls Try.prog 50 [eL l, eI q.tm, eI q.known] (eL (l.filter (stB q l))) := by
  refine PCalls.of (N := 117) (res := [.tmp 6]) mixed Try.func50 rfl rfl rfl (by kernel_rfl) (by simp) [0, 1, 2, 6, 7, 8, 9, 10, 15, 48, 107, 108] ?_
  repeat' (first | ((with_reducible show _ = _); exact rfl) | ((with_reducible show (_ : Nat) < _); exact Nat.zero_lt_succ _) | ((with_reducible show (_ : Nat) ≤ _); exact Nat.le_of_ble_eq_true rfl) | ((with_reducible show Exists _); refine exU8 ?_) | ((fail_if_success (first | (with_reducible show LeG _ _) | (with_reducible show Lp _ _ _ _) | (with_reducible show Exists _) | (with_reducible show callX _ _ _ _ _) | (with_reducible show (_ : Int) ≤ _) | (with_reducible show (_ : Int) < _) | (with_reducible show (_ : Nat) ≤ _) | (with_reducible show (_ : Nat) < _))); (conv => whnf) <;> (first | exact OkR.mk (by kernel_rfl) | exact OkC.mk (by kernel_rfl) | refine Sq.pr ?_ | refine Br.dec (fun hc => ?_) (fun hc => ?_) | refine Br.tt ?_ | refine Br.ff ?_ | refine Br.not ?_ | refine Br.mk (fun hc => ?_) (fun hc => ?_) | refine Opt.nn ?_ | refine Opt.ss ?_ | refine AltA.l ?_ | exact PV.leL_nil | refine PV.leL_cons ?_ ?_ | refine And.intro ?_ ?_ | refine ix_map (fun x hx => ?_) | refine exU8 ?_ | refine nilc (fun hn => ?_) ?_ | exact PV.le_refl _ | exact Nat.zero_lt_succ _ | exact Nat.le_of_ble_eq_true rfl | exact onesOf rfl | exact Or.inl rfl | exact noMem | exact onesOfP rfl | exact okAll rfl | exact okMap (fun _ => ⟨rfl, onesOfP rfl⟩) | exact nonz | refine imp0 (fun hpos => ?_) | refine fits_i64 ?_ ?_ | exact rfl | (with_reducible show LeG _ _) | (with_reducible show Lp _ _ _ _) | (with_reducible show Exists _) | (with_reducible show callX _ _ _ _ _)))) <;> (try (first | exact LeG.refl _ | omega | ((first | (with_reducible show (_ : Int) ≤ _) | (with_reducible show (_ : Int) < _) | (with_reducible show (_ : Nat) ≤ _) | (with_reducible show (_ : Nat) < _) | (with_reducible show ¬ _) | (with_reducible show (_ : Int) = _) | (with_reducible show (_ : Nat) = _)); (simp only [List.length_map, List.length_append, List.length_cons, List.length_nil, List.length_replicate, List.length_take, List.length_drop, List.length_set, Int.toNat_natCast, Int.reduceToNat] <;> omega)) | exact of_decide_eq_true rfl))
  refine Wpc.loopA (α := {i : Nat // i ≤ l.length}) mixed [0, 1, 2, 6, 7, 8, 9, 10, 15, 48, 107, 108] (fun i => [(7, .rsl 64 10 0 ((l.take i.1).filter (stB q l)).length), (8, .p (eI i.1))]) (fun i => [(64, .row 10 (((l.take i.1).filter (stB q l)).map eA))]) (fun _ => 0) (fun i => l.length - i.1) ⟨0, by omega⟩ ?_ ?_
  · (first | refine Ent.ofA [] ?_ | refine Ent.ofC [] ?_) <;> (repeat' (first | exact trivial | refine HpLe.dd ?_ | refine HpLe.mk rfl (by simp) rfl (fun h => AObj.noConfusion h) ?_ ?_ | refine And.intro ?_ ?_ | exact VLe.refl _ | exact VLe.msl rfl | exact VLe.rsl rfl | exact VLe.csl rfl | exact VLe.cslr rfl | exact VLe.mp rfl | exact VLe.eptr rfl | exact VLe.ptr rfl | exact VLe.any _ | refine VLe.pe ?_ | refine VLe.agg ?_ | refine VLeL.cons ?_ ?_ | exact VLeL.nil | exact OLe.row _ _ | rfl | refine VLe.rsle rfl ?_ ?_ ?_ | refine OLe.rowe2 ?_ ?_ | refine OLe.mape ?_ ?_ | refine OLe.iter0 ?_ | refine OLe.itere ?_ ?_)) <;> try (first | (simp; done) | (congr 1; omega) | (congr 1; (first | (simp; done) | (simp; omega))))
  rintro ⟨i, hi⟩
  have hi : i ≤ l.length := hi
  have hfl := List.length_filter_le (stB q l) (l.take i)
  rw [List.length_take] at hfl
  cases hxi : l[i]? with
  | none =>
    have hge : l.length ≤ i := List.getElem?_eq_none_iff.1 hxi
    have hno : ¬ ((i : Int) < ((l.map eA).length : Int)) := by rw [List.length_map]; omega
    repeat' (first | ((with_reducible show _ = _); exact rfl) | ((with_reducible show (_ : Nat) < _); exact Nat.zero_lt_succ _) | ((with_reducible show (_ : Nat) ≤ _); exact Nat.le_of_ble_eq_true rfl) | ((with_reducible show Exists _); refine exU8 ?_) | ((fail_if_success (first | (with_reducible show LeG _ _) | (with_reducible show Lp _ _ _ _) | (with_reducible show Exists _) | (with_reducible show callX _ _ _ _ _) | (with_reducible show (_ : Int) ≤ _) | (with_reducible show (_ : Int) < _) | (with_reducible show (_ : Nat) ≤ _) | (with_reducible show (_ : Nat) < _))); (conv => whnf) <;> (first | exact OkR.mk (by kernel_rfl) | exact OkC.mk (by kernel_rfl) | refine Br.dec (fun hc => absurd hc hno) (fun hc => ?_) | refine Sq.pr ?_ | refine Br.dec (fun hc => ?_) (fun hc => ?_) | refine Br.tt ?_ | refine Br.ff ?_ | refine Br.not ?_ | refine Br.mk (fun hc => ?_) (fun hc => ?_) | refine Opt.nn ?_ | refine Opt.ss ?_ | refine AltA.l ?_ | exact PV.leL_nil | refine PV.leL_cons ?_ ?_ | refine And.intro ?_ ?_ | refine ix_map (fun x hx => ?_) | refine exU8 ?_ | refine nilc (fun hn => ?_) ?_ | exact PV.le_refl _ | exact Nat.zero_lt_succ _ | exact Nat.le_of_ble_eq_true rfl | exact onesOf rfl | exact Or.inl rfl | exact noMem | exact onesOfP rfl | exact okAll rfl | exact okMap (fun _ => ⟨rfl, onesOfP rfl⟩) | exact nonz | refine imp0 (fun hpos => ?_) | refine fits_i64 ?_ ?_ | exact rfl | (with_reducible show LeG _ _) | (with_reducible show Lp _ _ _ _) | (with_reducible show Exists _) | (with_reducible show callX _ _ _ _ _)))) <;> (try (first | exact LeG.refl _ | omega | ((first | (with_reducible show (_ : Int) ≤ _) | (with_reducible show (_ : Int) < _) | (with_reducible show (_ : Nat) ≤ _) | (with_reducible show (_ : Nat) < _) | (with_reducible show ¬ _) | (with_reducible show (_ : Int) = _) | (with_reducible show (_ : Nat) = _)); (simp only [List.length_map, List.length_append, List.length_cons, List.length_nil, List.length_replicate, List.length_take, List.length_drop, List.length_set, Int.toNat_natCast, Int.reduceToNat] <;> omega)) | exact of_decide_eq_true rfl))
    refine LeG.of (congrArg (fun q => PV.sl 10 false q) ?_)
    show List.take ((l.take i).filter _).length (List.drop 0 (((l.take i).filter _).map eA)) = (l.filter (stB q l)).map eA
    rw [List.take_of_length_le (l := l) (by omega), List.drop_zero, List.take_of_length_le (by simp)]
  | some y =>
    have hlt : i < l.length := (List.getElem?_eq_some_iff.1 hxi).1
    have hyes : ((i : Int) < ((l.map eA).length : Int)) := by rw [List.length_map]; omega
    have hft := filter_take (stB q l) hxi
    repeat' (first | ((with_reducible show _ = _); exact rfl) | ((with_reducible show (_ : Nat) < _); exact Nat.zero_lt_succ _) | ((with_reducible show (_ : Nat) ≤ _); exact Nat.le_of_ble_eq_true rfl) | ((with_reducible show Exists _); refine exU8 ?_) | ((with_reducible show callX _ _ _ _ _); (first | refine call_p (rcounts_calls _ _) (by kernel_rfl) rfl ?_)) | ((fail_if_success (first | (with_reducible show LeG _ _) | (with_reducible show Lp _ _ _ _) | (with_reducible show Exists _) | (with_reducible show callX _ _ _ _ _) | (with_reducible show (_ : Int) ≤ _) | (with_reducible show (_ : Int) < _) | (with_reducible show (_ : Nat) ≤ _) | (with_reducible show (_ : Nat) < _))); (conv => whnf) <;> (first | exact OkR.mk (by kernel_rfl) | exact OkC.mk (by kernel_rfl) | refine Br.dec (fun hc => ?_) (fun hc => absurd hyes hc) | refine ix_at hxi ?_ | refine Sq.pr ?_ | refine Br.dec (fun hc => ?_) (fun hc => ?_) | refine Br.tt ?_ | refine Br.ff ?_ | refine Br.not ?_ | refine Br.mk (fun hc => ?_) (fun hc => ?_) | refine Opt.nn ?_ | refine Opt.ss ?_ | refine AltA.l ?_ | exact PV.leL_nil | refine PV.leL_cons ?_ ?_ | refine And.intro ?_ ?_ | refine ix_map (fun x hx => ?_) | refine exU8 ?_ | refine nilc (fun hn => ?_) ?_ | refine call_p (rcounts_calls _ _) (by kernel_rfl) rfl ?_ | exact PV.le_refl _ | exact Nat.zero_lt_succ _ | exact Nat.le_of_ble_eq_true rfl | exact onesOf rfl | exact Or.inl rfl | exact noMem | exact onesOfP rfl | exact okAll rfl | exact okMap (fun _ => ⟨rfl, onesOfP rfl⟩) | exact nonz | refine imp0 (fun hpos => ?_) | refine fits_i64 ?_ ?_ | exact rfl | (with_reducible show LeG _ _) | (with_reducible show Lp _ _ _ _) | (with_reducible show Exists _) | (with_reducible show callX _ _ _ _ _)))) <;> (try (first | exact LeG.refl _ | omega | ((first | (with_reducible show (_ : Int) ≤ _) | (with_reducible show (_ : Int) < _) | (with_reducible show (_ : Nat) ≤ _) | (with_reducible show (_ : Nat) < _) | (with_reducible show ¬ _) | (with_reducible show (_ : Int) = _) | (with_reducible show (_ : Nat) = _)); (simp only [List.length_map, List.length_append, List.length_cons, List.length_nil, List.length_replicate, List.length_take, List.length_drop, List.length_set, Int.toNat_natCast, Int.reduceToNat] <;> omega)) | exact of_decide_eq_true rfl))
    all_goals (
      refine Wpc.loopB (α := {s : Nat × Bool // s.1 ≤ l.length ∧ (s.2 = true → basB q y = true ∧ (l.take s.1).any (badB q y) = false) ∧ (s.2 = false → stB q l y = false)}) mixed [0, 1, 2, 6, 7, 8, 9, 10, 15, 48, 107, 108] (fun s => [(9, .p (.bool s.1.2)), (10, .p (eI s.1.1))]) (fun s => l.length - s.1.1) ⟨(0, basB q y), by show 0 ≤ _; omega, fun h => ⟨h, rfl⟩, fun h => by unfold stB; have h : basB q y = false := h; rw [h]; rfl⟩ ?_ ?_
      · (first | refine Ent.ofA [] ?_ | refine Ent.ofC [] ?_) <;> (repeat' (first | exact trivial | refine HpLe.dd ?_ | refine HpLe.mk rfl (by simp) rfl (fun h => AObj.noConfusion h) ?_ ?_ | refine And.intro ?_ ?_ | exact VLe.refl _ | exact VLe.msl rfl | exact VLe.rsl rfl | exact VLe.csl rfl | exact VLe.cslr rfl | exact VLe.mp rfl | exact VLe.eptr rfl | exact VLe.ptr rfl | exact VLe.any _ | refine VLe.pe ?_ | refine VLe.agg ?_ | refine VLeL.cons ?_ ?_ | exact VLeL.nil | exact OLe.row _ _ | rfl | refine VLe.rsle rfl ?_ ?_ ?_ | refine OLe.rowe2 ?_ ?_ | refine OLe.mape ?_ ?_ | refine OLe.iter0 ?_ | refine OLe.itere ?_ ?_)) <;> try (first | (simp; done) | (congr 1; omega) | (congr 1; (first | (simp; done) | (simp; omega))))
        all_goals (show PV.bool _ = PV.bool (basB q y); congr 1; simp_all [basB])
      rintro ⟨⟨k, b⟩, hk, hb1, hb2⟩
      have hk : k ≤ l.length := hk
      clear hc
      cases b with
      | false =>
        have hst : stB q l y = false := hb2 rfl
        rw [hst, if_neg Bool.false_ne_true, List.append_nil] at hft
        repeat' (first | ((with_reducible show _ = _); exact rfl) | ((with_reducible show (_ : Nat) < _); exact Nat.zero_lt_succ _) | ((with_reducible show (_ : Nat) ≤ _); exact Nat.le_of_ble_eq_true rfl) | ((with_reducible show Exists _); refine exU8 ?_) | ((fail_if_success (first | (with_reducible show LeG _ _) | (with_reducible show Lp _ _ _ _) | (with_reducible show Exists _) | (with_reducible show callX _ _ _ _ _) | (with_reducible show (_ : Int) ≤ _) | (with_reducible show (_ : Int) < _) | (with_reducible show (_ : Nat) ≤ _) | (with_reducible show (_ : Nat) < _))); (conv => whnf) <;> (first | exact OkR.mk (by kernel_rfl) | exact OkC.mk (by kernel_rfl) | refine Br.tt ?_ | refine Br.ff ?_ | refine Sq.pr ?_ | refine Br.dec (fun hc => ?_) (fun hc => ?_) | refine Br.tt ?_ | refine Br.ff ?_ | refine Br.not ?_ | refine Br.mk (fun hc => ?_) (fun hc => ?_) | refine Opt.nn ?_ | refine Opt.ss ?_ | refine AltA.l ?_ | exact PV.leL_nil | refine PV.leL_cons ?_ ?_ | refine And.intro ?_ ?_ | refine ix_map (fun x hx => ?_) | refine exU8 ?_ | refine nilc (fun hn => ?_) ?_ | exact PV.le_refl _ | exact Nat.zero_lt_succ _ | exact Nat.le_of_ble_eq_true rfl | exact onesOf rfl | exact Or.inl rfl | exact noMem | exact onesOfP rfl | exact okAll rfl | exact okMap (fun _ => ⟨rfl, onesOfP rfl⟩) | exact nonz | refine imp0 (fun hpos => ?_) | refine fits_i64 ?_ ?_ | exact rfl | (with_reducible show LeG _ _) | (with_reducible show Lp _ _ _ _) | (with_reducible show Exists _) | (with_reducible show callX _ _ _ _ _)))) <;> (try (first | exact LeG.refl _ | omega | ((first | (with_reducible show (_ : Int) ≤ _) | (with_reducible show (_ : Int) < _) | (with_reducible show (_ : Nat) ≤ _) | (with_reducible show (_ : Nat) < _) | (with_reducible show ¬ _) | (with_reducible show (_ : Int) = _) | (with_reducible show (_ : Nat) = _)); (simp only [List.length_map, List.length_append, List.length_cons, List.length_nil, List.length_replicate, List.length_take, List.length_drop, List.length_set, Int.toNat_natCast, Int.reduceToNat] <;> omega)) | exact of_decide_eq_true rfl))
        all_goals (
          refine ⟨⟨i + 1, hlt⟩, by show l.length - (i + 1) < l.length - i; omega, ?_⟩
          (first | refine Ent.ofA [] ?_ | refine Ent.ofC [] ?_) <;> (repeat' (first | exact trivial | refine HpLe.dd ?_ | refine HpLe.mk rfl (by simp) rfl (fun h => AObj.noConfusion h) ?_ ?_ | refine And.intro ?_ ?_ | exact VLe.refl _ | exact VLe.msl rfl | exact VLe.rsl rfl | exact VLe.csl rfl | exact VLe.cslr rfl | exact VLe.mp rfl | exact VLe.eptr rfl | exact VLe.ptr rfl | exact VLe.any _ | refine VLe.pe ?_ | refine VLe.agg ?_ | refine VLeL.cons ?_ ?_ | exact VLeL.nil | exact OLe.row _ _ | rfl | refine VLe.rsle rfl ?_ ?_ ?_ | refine OLe.rowe2 ?_ ?_ | refine OLe.mape ?_ ?_ | refine OLe.iter0 ?_ | refine OLe.itere ?_ ?_)) <;> try (first | (simp; done) | (congr 1; omega) | (congr 1; (first | (simp; done) | (simp; omega))))
          all_goals (rw [hft]))
      | true =>
        obtain ⟨hba, hbn⟩ := hb1 rfl
        have hbn : (l.take k).any (badB q y) = false := hbn
        cases hxk : l[k]? with
        | none =>
          have hgek : l.length ≤ k := List.getElem?_eq_none_iff.1 hxk
          have hnok : ¬ ((k : Int) < ((l.map eA).length : Int)) := by rw [List.length_map]; omega
          have hst : stB q l y = true := by
            unfold stB
            rw [List.take_of_length_le hgek] at hbn
            rw [hba, hbn]; rfl
          rw [hst, if_pos rfl] at hft
          repeat' (first | ((with_reducible show _ = _); exact rfl) | ((with_reducible show (_ : Nat) < _); exact Nat.zero_lt_succ _) | ((with_reducible show (_ : Nat) ≤ _); exact Nat.le_of_ble_eq_true rfl) | ((with_reducible show Exists _); refine exU8 ?_) | ((fail_if_success (first | (with_reducible show LeG _ _) | (with_reducible show Lp _ _ _ _) | (with_reducible show Exists _) | (with_reducible show callX _ _ _ _ _) | (with_reducible show (_ : Int) ≤ _) | (with_reducible show (_ : Int) < _) | (with_reducible show (_ : Nat) ≤ _) | (with_reducible show (_ : Nat) < _))); (conv => whnf) <;> (first | exact OkR.mk (by kernel_rfl) | exact OkC.mk (by kernel_rfl) | refine Br.tt ?_ | refine Br.ff ?_ | refine Br.dec (fun hc => absurd hc hnok) (fun hc => ?_) | refine ix_at hxi ?_ | refine Sq.pr ?_ | refine Br.dec (fun hc => ?_) (fun hc => ?_) | refine Br.tt ?_ | refine Br.ff ?_ | refine Br.not ?_ | refine Br.mk (fun hc => ?_) (fun hc => ?_) | refine Opt.nn ?_ | refine Opt.ss ?_ | refine AltA.l ?_ | exact PV.leL_nil | refine PV.leL_cons ?_ ?_ | refine And.intro ?_ ?_ | refine ix_map (fun x hx => ?_) | refine exU8 ?_ | refine nilc (fun hn => ?_) ?_ | exact PV.le_refl _ | exact Nat.zero_lt_succ _ | exact Nat.le_of_ble_eq_true rfl | exact onesOf rfl | exact Or.inl rfl | exact noMem | exact onesOfP rfl | exact okAll rfl | exact okMap (fun _ => ⟨rfl, onesOfP rfl⟩) | exact nonz | refine imp0 (fun hpos => ?_) | refine fits_i64 ?_ ?_ | exact rfl | (with_reducible show LeG _ _) | (with_reducible show Lp _ _ _ _) | (with_reducible show Exists _) | (with_reducible show callX _ _ _ _ _)))) <;> (try (first | exact LeG.refl _ | omega | ((first | (with_reducible show (_ : Int) ≤ _) | (with_reducible show (_ : Int) < _) | (with_reducible show (_ : Nat) ≤ _) | (with_reducible show (_ : Nat) < _) | (with_reducible show ¬ _) | (with_reducible show (_ : Int) = _) | (with_reducible show (_ : Nat) = _)); (simp only [List.length_map, List.length_append, List.length_cons, List.length_nil, List.length_replicate, List.length_take, List.length_drop, List.length_set, Int.toNat_natCast, Int.reduceToNat] <;> omega)) | exact of_decide_eq_true rfl))
          (all_goals (try ((first | (with_reducible show (_ : Int) ≤ _) | (with_reducible show (_ : Int) < _) | (with_reducible show (_ : Nat) ≤ _) | (with_reducible show (_ : Nat) < _) | (with_reducible show ¬ _) | (with_reducible show (_ : Int) = _) | (with_reducible show (_ : Nat) = _) | (with_reducible show False)); (try dsimp only at *); (try simp only [List.length_map, List.length_append, List.length_cons, List.length_nil, List.length_replicate, List.length_take, List.length_drop, List.length_set, Int.toNat_natCast, Int.reduceToNat] at *); omega)))
          all_goals (
            refine ⟨⟨i + 1, hlt⟩, by show l.length - (i + 1) < l.length - i; omega, ?_⟩
            (first | refine Ent.ofA [] ?_ | refine Ent.ofC [] ?_) <;> (repeat' (first | exact trivial | refine HpLe.dd ?_ | refine HpLe.mk rfl (by simp) rfl (fun h => AObj.noConfusion h) ?_ ?_ | refine And.intro ?_ ?_ | exact VLe.refl _ | exact VLe.msl rfl | exact VLe.rsl rfl | exact VLe.csl rfl | exact VLe.cslr rfl | exact VLe.mp rfl | exact VLe.eptr rfl | exact VLe.ptr rfl | exact VLe.any _ | refine VLe.pe ?_ | refine VLe.agg ?_ | refine VLeL.cons ?_ ?_ | exact VLeL.nil | exact OLe.row _ _ | rfl | refine VLe.rsle rfl ?_ ?_ ?_ | refine OLe.rowe2 ?_ ?_ | refine OLe.mape ?_ ?_ | refine OLe.iter0 ?_ | refine OLe.itere ?_ ?_)) <;> try (first | (simp; done) | (congr 1; omega) | (congr 1; (first | (simp; done) | (simp; omega))))
            all_goals first
            | (show (_ : Nat) = _; rw [hft]; simp; done)
            | (show (List.map eA _ ++ [eA y]) = List.map eA _; rw [hft]; simp; done))
        | some z =>
          have hltk : k < l.length := (List.getElem?_eq_some_iff.1 hxk).1
          have hyesk : ((k : Int) < ((l.map eA).length : Int)) := by rw [List.length_map]; omega
          have hat := any_take (p := badB q y) hxk
          rw [hbn, Bool.false_or] at hat
          cases hbz : badB q y z with
          | false =>
            rw [hbz] at hat
            repeat' (first | ((with_reducible show _ = _); exact rfl) | ((with_reducible show (_ : Nat) < _); exact Nat.zero_lt_succ _) | ((with_reducible show (_ : Nat) ≤ _); exact Nat.le_of_ble_eq_true rfl) | ((with_reducible show Exists _); refine exU8 ?_) | ((with_reducible show callX _ _ _ _ _); (first | refine call_p (rcounts_calls _ _) (by kernel_rfl) rfl ?_ | refine call_p (rabout_calls _ _) (by kernel_rfl) rfl ?_)) | ((fail_if_success (first | (with_reducible show LeG _ _) | (with_reducible show Lp _ _ _ _) | (with_reducible show Exists _) | (with_reducible show callX _ _ _ _ _) | (with_reducible show (_ : Int) ≤ _) | (with_reducible show (_ : Int) < _) | (with_reducible show (_ : Nat) ≤ _) | (with_reducible show (_ : Nat) < _))); (conv => whnf) <;> (first | exact OkR.mk (by kernel_rfl) | exact OkC.mk (by kernel_rfl) | refine Br.tt ?_ | refine Br.ff ?_ | refine Br.dec (fun hc => ?_) (fun hc => absurd hyesk hc) | refine ix_at hxi ?_ | refine ix_at hxk ?_ | refine Sq.pr ?_ | refine Br.dec (fun hc => ?_) (fun hc => ?_) | refine Br.tt ?_ | refine Br.ff ?_ | refine Br.not ?_ | refine Br.mk (fun hc => ?_) (fun hc => ?_) | refine Opt.nn ?_ | refine Opt.ss ?_ | refine AltA.l ?_ | exact PV.leL_nil | refine PV.leL_cons ?_ ?_ | refine And.intro ?_ ?_ | refine ix_map (fun x hx => ?_) | refine exU8 ?_ | refine nilc (fun hn => ?_) ?_ | refine call_p (rcounts_calls _ _) (by kernel_rfl) rfl ?_ | refine call_p (rabout_calls _ _) (by kernel_rfl) rfl ?_ | exact PV.le_refl _ | exact Nat.zero_lt_succ _ | exact Nat.le_of_ble_eq_true rfl | exact onesOf rfl | exact Or.inl rfl | exact noMem | exact onesOfP rfl | exact okAll rfl | exact okMap (fun _ => ⟨rfl, onesOfP rfl⟩) | exact nonz | refine imp0 (fun hpos => ?_) | refine fits_i64 ?_ ?_ | exact rfl | (with_reducible show LeG _ _) | (with_reducible show Lp _ _ _ _) | (with_reducible show Exists _) | (with_reducible show callX _ _ _ _ _)))) <;> (try (first | exact LeG.refl _ | omega | ((first | (with_reducible show (_ : Int) ≤ _) | (with_reducible show (_ : Int) < _) | (with_reducible show (_ : Nat) ≤ _) | (with_reducible show (_ : Nat) < _) | (with_reducible show ¬ _) | (with_reducible show (_ : Int) = _) | (with_reducible show (_ : Nat) = _)); (simp only [List.length_map, List.length_append, List.length_cons, List.length_nil, List.length_replicate, List.length_take, List.length_drop, List.length_set, Int.toNat_natCast, Int.reduceToNat] <;> omega)) | exact of_decide_eq_true rfl))
            all_goals first
            | (refine ⟨⟨(k + 1, true), hltk, fun _ => ⟨hba, hat⟩, fun h => (by cases h)⟩, by show l.length - (k + 1) < l.length - k; omega, ?_⟩
               (first | refine Ent.ofA [] ?_ | refine Ent.ofC [] ?_) <;> (repeat' (first | exact trivial | refine HpLe.dd ?_ | refine HpLe.mk rfl (by simp) rfl (fun h => AObj.noConfusion h) ?_ ?_ | refine And.intro ?_ ?_ | exact VLe.refl _ | exact VLe.msl rfl | exact VLe.rsl rfl | exact VLe.csl rfl | exact VLe.cslr rfl | exact VLe.mp rfl | exact VLe.eptr rfl | exact VLe.ptr rfl | exact VLe.any _ | refine VLe.pe ?_ | refine VLe.agg ?_ | refine VLeL.cons ?_ ?_ | exact VLeL.nil | exact OLe.row _ _ | rfl | refine VLe.rsle rfl ?_ ?_ ?_ | refine OLe.rowe2 ?_ ?_ | refine OLe.mape ?_ ?_ | refine OLe.iter0 ?_ | refine OLe.itere ?_ ?_)) <;> try (first | (simp; done) | (congr 1; omega) | (congr 1; (first | (simp; done) | (simp; omega))))
               done)
            | (exfalso
               unfold badB at hbz
               simp_all
               done)
            | trace_state
          | true =>
            have hst : stB q l y = false := by
              unfold stB
              rw [show l.any (badB q y) = true from List.any_eq_true.2 ⟨z, List.mem_of_getElem? hxk, hbz⟩]; simp
            repeat' (first | ((with_reducible show _ = _); exact rfl) | ((with_reducible show (_ : Nat) < _); exact Nat.zero_lt_succ _) | ((with_reducible show (_ : Nat) ≤ _); exact Nat.le_of_ble_eq_true rfl) | ((with_reducible show Exists _); refine exU8 ?_) | ((with_reducible show callX _ _ _ _ _); (first | refine call_p (rcounts_calls _ _) (by kernel_rfl) rfl ?_ | refine call_p (rabout_calls _ _) (by kernel_rfl) rfl ?_)) | ((fail_if_success (first | (with_reducible show LeG _ _) | (with_reducible show Lp _ _ _ _) | (with_reducible show Exists _) | (with_reducible show callX _ _ _ _ _) | (with_reducible show (_ : Int) ≤ _) | (with_reducible show (_ : Int) < _) | (with_reducible show (_ : Nat) ≤ _) | (with_reducible show (_ : Nat) < _))); (conv => whnf) <;> (first | exact OkR.mk (by kernel_rfl) | exact OkC.mk (by kernel_rfl) | refine Br.tt ?_ | refine Br.ff ?_ | refine Br.dec (fun hc => ?_) (fun hc => absurd hyesk hc) | refine ix_at hxi ?_ | refine ix_at hxk ?_ | refine Sq.pr ?_ | refine Br.dec (fun hc => ?_) (fun hc => ?_) | refine Br.tt ?_ | refine Br.ff ?_ | refine Br.not ?_ | refine Br.mk (fun hc => ?_) (fun hc => ?_) | refine Opt.nn ?_ | refine Opt.ss ?_ | refine AltA.l ?_ | exact PV.leL_nil | refine PV.leL_cons ?_ ?_ | refine And.intro ?_ ?_ | refine ix_map (fun x hx => ?_) | refine exU8 ?_ | refine nilc (fun hn => ?_) ?_ | refine call_p (rcounts_calls _ _) (by kernel_rfl) rfl ?_ | refine call_p (rabout_calls _ _) (by kernel_rfl) rfl ?_ | exact PV.le_refl _ | exact Nat.zero_lt_succ _ | exact Nat.le_of_ble_eq_true rfl | exact onesOf rfl | exact Or.inl rfl | exact noMem | exact onesOfP rfl | exact okAll rfl | exact okMap (fun _ => ⟨rfl, onesOfP rfl⟩) | exact nonz | refine imp0 (fun hpos => ?_) | refine fits_i64 ?_ ?_ | exact rfl | (with_reducible show LeG _ _) | (with_reducible show Lp _ _ _ _) | (with_reducible show Exists _) | (with_reducible show callX _ _ _ _ _)))) <;> (try (first | exact LeG.refl _ | omega | ((first | (with_reducible show (_ : Int) ≤ _) | (with_reducible show (_ : Int) < _) | (with_reducible show (_ : Nat) ≤ _) | (with_reducible show (_ : Nat) < _) | (with_reducible show ¬ _) | (with_reducible show (_ : Int) = _) | (with_reducible show (_ : Nat) = _)); (simp only [List.length_map, List.length_append, List.length_cons, List.length_nil, List.length_replicate, List.length_take, List.length_drop, List.length_set, Int.toNat_natCast, Int.reduceToNat] <;> omega)) | exact of_decide_eq_true rfl))
            all_goals first
            | (refine ⟨⟨(k + 1, false), hltk, fun h => (by cases h), fun _ => hst⟩, by show l.length - (k + 1) < l.length - k; omega, ?_⟩
               (first | refine Ent.ofA [] ?_ | refine Ent.ofC [] ?_) <;> (repeat' (first | exact trivial | refine HpLe.dd ?_ | refine HpLe.mk rfl (by simp) rfl (fun h => AObj.noConfusion h) ?_ ?_ | refine And.intro ?_ ?_ | exact VLe.refl _ | exact VLe.msl rfl | exact VLe.rsl rfl | exact VLe.csl rfl | exact VLe.cslr rfl | exact VLe.mp rfl | exact VLe.eptr rfl | exact VLe.ptr rfl | exact VLe.any _ | refine VLe.pe ?_ | refine VLe.agg ?_ | refine VLeL.cons ?_ ?_ | exact VLeL.nil | exact OLe.row _ _ | rfl | refine VLe.rsle rfl ?_ ?_ ?_ | refine OLe.rowe2 ?_ ?_ | refine OLe.mape ?_ ?_ | refine OLe.iter0 ?_ | refine OLe.itere ?_ ?_)) <;> try (first | (simp; done) | (congr 1; omega) | (congr 1; (first | (simp; done) | (simp; omega))))
               done)
            | (exfalso
               unfold badB at hbz
               simp_all
               done)
            | trace_state)
end Go.Proofs.Ytghgjobknmddgaa

namespace Go.Proofs.Ytghgjobknmddgaa
open Go Go.Sg
set_option maxRecDepth 100000
/-! ### The reference's search, plainly -/
/-- One round's trial of a delegation. -/
def tryW (w : Int → List Int → List Int × Bool) (p : Int) (ps : List Int) (x : Dp) : Option (List Int) :=
  if x.frm = p ∧ ¬ x.to ∈ ps then (if (w x.to (ps ++ [x.to])).2 = true then some (x.no :: (w x.to (ps ++ [x.to])).1) else none) else none
def walkA (S : List Dp) (t : Int) : Nat → Int → List Int → List Int × Bool
  | 0, p, _ => ([], decide (p = t))
  | n + 1, p, ps => match S.findSome? (tryW (walkA S t n) p ps) with
    | some w => (w, true)
    | none => ([], false)
theorem findSome_find {α β : Type} {f : α → Option β} {P : α → Bool} {g : α → β} : ∀ {S : List α}, (∀ x ∈ S, f x = if P x = true then some (g x) else none) → S.findSome? f = (S.find? P).map g
  | [], _ => rfl
  | x :: S, h => by
    have hx := h x (by simp)
    have ih := findSome_find (S := S) (fun y hy => h y (by simp [hy]))
    cases hp : P x with
    | true => rw [hp] at hx; simp [List.findSome?_cons, hp, hx]
    | false => rw [hp] at hx; simp [List.findSome?_cons, hp, hx, ih]
theorem walkA_none {S : List Dp} {t : Int} : ∀ {n : Nat} {p : Int} (ps : List Int), ¬ rch S t n p → walkA S t n p ps = ([], false)
  | 0, p, ps, h => by
    have h : ¬ p = t := h
    show (([] : List Int), decide (p = t)) = _
    rw [decide_eq_false h]
  | n + 1, p, ps, h => by
    have e : S.findSome? (tryW (walkA S t n) p ps) = none := by
      rw [List.findSome?_eq_none_iff]
      intro x hx
      unfold tryW
      by_cases hc : x.frm = p ∧ ¬ x.to ∈ ps
      · rw [if_pos hc, walkA_none _ (fun hr => h ⟨x, hx, hc.1, hr⟩)]; rfl
      · rw [if_neg hc]
    show (match S.findSome? (tryW (walkA S t n) p ps) with | some w => (w, true) | none => (([] : List Int), false)) = _
    rw [e]
theorem walkA_some {S : List Dp} {t : Int} : ∀ {n : Nat} {p : Int} (ps : List Int), n ≤ 8 → dst S t n p → (∀ u ∈ ps, ∀ m, m < n → ¬ rch S t m u) → walkA S t n p ps = (goF S (farF S t 8) n p, true)
  | 0, p, ps, _, h, _ => by
    have h : p = t := h.1
    show (([] : List Int), decide (p = t)) = (([] : List Int), true)
    rw [decide_eq_true h]
  | n + 1, p, ps, hn, h, hp => by
    have e : S.findSome? (tryW (walkA S t n) p ps) = (S.find? (nearB (farF S t 8) p n)).map (fun x => x.no :: goF S (farF S t 8) n x.to) := by
      refine findSome_find (fun x hx => ?_)
      cases hb : nearB (farF S t 8) p n x with
      | true =>
        obtain ⟨h1, h2⟩ := (near_iff (by omega)).1 hb
        have h3 : ¬ x.to ∈ ps := fun hm => hp _ hm n (by omega) h2.1
        have h4 := walkA_some (S := S) (t := t) (n := n) (p := x.to) (ps ++ [x.to]) (by omega) h2 (fun u hu m hm => by
          rcases List.mem_append.1 hu with hu | hu
          · exact hp u hu m (by omega)
          · rw [List.mem_singleton] at hu; subst hu; exact h2.2 m hm)
        unfold tryW
        rw [if_pos ⟨h1, h3⟩, h4, if_pos rfl]
      | false =>
        rw [if_neg Bool.false_ne_true]
        unfold tryW
        by_cases hc : x.frm = p ∧ ¬ x.to ∈ ps
        · rw [if_pos hc]
          have h5 : ¬ rch S t n x.to := fun hr => by
            have := (near_iff (S := S) (t := t) (p := p) (k := n) (x := x) (by omega)).2 ⟨hc.1, dst_succ h hx hc.1 hr⟩
            rw [hb] at this; cases this
          rw [walkA_none _ h5]; rfl
        · rw [if_neg hc]
    obtain ⟨x0, hx0, hf0, hr0⟩ := h.1
    have hsome : (S.find? (nearB (farF S t 8) p n)).isSome = true := by
      rw [List.find?_isSome]
      exact ⟨x0, hx0, (near_iff (by omega)).2 ⟨hf0, dst_succ h hx0 hf0 hr0⟩⟩
    obtain ⟨x, hx⟩ := Option.isSome_iff_exists.1 hsome
    show (match S.findSome? (tryW (walkA S t n) p ps) with | some w => (w, true) | none => (([] : List Int), false)) = _
    rw [e, hx]
    show (x.no :: goF S (farF S t 8) n x.to, true) = _
    rw [goF, hx]
theorem walkA_len {S : List Dp} {t : Int} : ∀ (n : Nat) (p : Int) (ps : List Int), (walkA S t n p ps).1.length ≤ n
  | 0, p, ps => Nat.le_refl 0
  | n + 1, p, ps => by
    show (match S.findSome? (tryW (walkA S t n) p ps) with | some w => (w, true) | none => (([] : List Int), false)).1.length ≤ n + 1
    cases h : S.findSome? (tryW (walkA S t n) p ps) with
    | none => simp
    | some w =>
      obtain ⟨x, _, hx⟩ := List.exists_of_findSome?_eq_some h
      unfold tryW at hx
      split at hx
      · split at hx
        · injection hx with hx
          have := walkA_len (S := S) (t := t) n x.to (ps ++ [x.to])
          rw [← hx]; simp; omega
        · cases hx
      · cases hx
theorem chainF_some {S : List Dp} {t f : Int} {i : Nat} (hi : i ≤ 8) (hq : ∀ n, n < i → (walkA S t n f [f]).2 = false) (h : (walkA S t i f [f]).2 = true) : chainF S f t = ((walkA S t i f [f]).1, true, 0) := by
  have hr : rch S t i f := Classical.byContradiction fun hn => by rw [walkA_none _ hn] at h; cases h
  obtain ⟨k, h1, h2⟩ := dst_of_rch hr
  have h3 := walkA_some [f] (by omega) h2 (fun u hu m hm => by rw [List.mem_singleton] at hu; subst hu; exact h2.2 m hm)
  have h4 : k = i := by
    rcases Nat.lt_or_ge k i with hlt | hge
    · have := hq k hlt; rw [h3] at this; cases this
    · omega
  subst h4
  unfold chainF
  rw [(far_spec S t 8 f k).2 ⟨k, rfl, hi, h2⟩, h3]
  rfl
theorem chainF_none {S : List Dp} {t f : Int} (hq : ∀ n, n < 9 → (walkA S t n f [f]).2 = false) : chainF S f t = ([], false, 0) := by
  unfold chainF
  cases h : aget f (farF S t 8) with
  | none => rfl
  | some v =>
    obtain ⟨k, h1, h2, h3⟩ := (far_spec S t 8 f v).1 h
    have h4 := walkA_some [f] h2 h3 (fun u hu m hm => by rw [List.mem_singleton] at hu; subst hu; exact h3.2 m hm)
    have := hq k (by omega)
    rw [h4] at this; cases this
end Go.Proofs.Ytghgjobknmddgaa

namespace Go.Proofs.Ytghgjobknmddgaa
open Go Go.Sg
set_option maxRecDepth 100000
set_option maxHeartbeats 20000000
theorem abtB_key (x y : Dp) : abtB x y = true ↔ keyA y = keyA x := by
  unfold abtB keyA
  simp only [Bool.and_eq_true, decide_eq_true_eq, Prod.mk.injEq]
  constructor
  · rintro ⟨⟨⟨h1, h2⟩, h3⟩, h4⟩; exact ⟨h1.symm, h2.symm, h3.symm, h4.symm⟩
  · rintro ⟨h1, h2, h3, h4⟩; exact ⟨⟨⟨h1.symm, h2.symm⟩, h3.symm⟩, h4.symm⟩
theorem badB_iff (q : Qn) (y z : Dp) : badB q y z = true ↔ cntA q z = true ∧ keyA z = keyA y ∧ after Dp.no Dp.tm z y := by
  unfold badB
  simp only [Bool.and_eq_true, Bool.or_eq_true, decide_eq_true_eq, abtB_key, after]
  constructor
  · rintro ⟨⟨h1, h2⟩, h3⟩; exact ⟨h1, h2, h3⟩
  · rintro ⟨h1, h2, h3⟩; exact ⟨⟨h1, h2⟩, h3⟩
theorem covL_eq {l : List Dp} (q : Qn) (hz : chkA l = 0) : covL q l = (l.filter (stB q l)).filter (cvsB q) := by
  rw [List.filter_filter]
  obtain ⟨_, _, hs⟩ := chkA_srt hz
  refine List.filter_congr (fun x hx => ?_)
  have hself := lastF_self Dp.no (cntA q) keyA Dp.tm hs hx
  have hg := foldM_get q l (keyA x) l.length
  rw [List.take_length] at hg
  rw [Bool.eq_iff_iff]
  have hany : l.any (badB q x) = false ↔ ∀ z ∈ l, cntA q z = true → keyA z = keyA x → ¬ after Dp.no Dp.tm z x := by
    rw [List.any_eq_false]
    constructor
    · intro h z hz h1 h2 h3; exact h z hz ((badB_iff q x z).2 ⟨h1, h2, h3⟩)
    · intro h z hz hb
      obtain ⟨h1, h2, h3⟩ := (badB_iff q x z).1 hb
      exact h z hz h1 h2 h3
  constructor
  · intro hc
    obtain ⟨_, h2, h3, h4⟩ := cov_facts hz (List.mem_filter.2 ⟨hx, hc⟩)
    have h5 := hany.2 h4
    unfold covA at h3
    unfold cvsB stB basB
    simp only [Bool.and_eq_true, Bool.not_eq_true'] at h3 ⊢
    obtain ⟨⟨⟨⟨a1, a2⟩, a3⟩, a4⟩, a5⟩ := h3
    exact ⟨⟨⟨a3, a4⟩, a5⟩, ⟨⟨h2, a1⟩, a2⟩, h5⟩
  · intro hc
    unfold cvsB stB basB at hc
    simp only [Bool.and_eq_true, Bool.not_eq_true'] at hc
    obtain ⟨⟨⟨a3, a4⟩, a5⟩, ⟨⟨h2, a1⟩, a2⟩, h5⟩ := hc
    have h6 := hself.2 ⟨h2, hany.1 h5⟩
    unfold covB covA
    rw [hg, h6]
    simp only [Bool.and_eq_true, Bool.not_eq_true', Option.getD_some, decide_true, true_and]
    exact ⟨h2, ⟨⟨⟨a1, a2⟩, a3⟩, a4⟩, a5⟩
theorem rcovering_calls (q : Qn) (l : List Dp) (hl : l.length < 1000000) : PCalls Try.prog 34 [eL l, eI q.off, eI q.kind, eI q.val, eI q.tm, eI q.known] (eL ((l.filter (stB q l)).filter (cvsB q))) := by
  have hS := List.length_filter_le (stB q l) l
  have hst := rstanding_calls q l hl
  generalize l.filter (stB q l) = S at *
  refine PCalls.of (N := 43) (res := [.tmp 12]) mixed Try.func34 rfl rfl rfl (by kernel_rfl) (by simp) [0, 1, 2, 3, 4, 5, 12, 13, 14, 15, 24, 34] ?_
  repeat' (first | ((with_reducible show _ = _); exact rfl) | ((with_reducible show (_ : Nat) < _); exact Nat.zero_lt_succ _) | ((with_reducible show (_ : Nat) ≤ _); exact Nat.le_of_ble_eq_true rfl) | ((with_reducible show Exists _); refine exU8 ?_) | ((with_reducible show callX _ _ _ _ _); (first | exact hst | refine call_p (hst) (by kernel_rfl) rfl ?_)) | ((fail_if_success (first | (with_reducible show LeG _ _) | (with_reducible show Lp _ _ _ _) | (with_reducible show Exists _) | (with_reducible show callX _ _ _ _ _) | (with_reducible show (_ : Int) ≤ _) | (with_reducible show (_ : Int) < _) | (with_reducible show (_ : Nat) ≤ _) | (with_reducible show (_ : Nat) < _))); (conv => whnf) <;> (first | exact OkR.mk (by kernel_rfl) | exact OkC.mk (by kernel_rfl) | refine Sq.pr ?_ | refine Br.dec (fun hc => ?_) (fun hc => ?_) | refine Br.tt ?_ | refine Br.ff ?_ | refine Br.not ?_ | refine Br.mk (fun hc => ?_) (fun hc => ?_) | refine Opt.nn ?_ | refine Opt.ss ?_ | refine AltA.l ?_ | exact PV.leL_nil | refine PV.leL_cons ?_ ?_ | refine And.intro ?_ ?_ | refine ix_map (fun x hx => ?_) | refine exU8 ?_ | refine nilc (fun hn => ?_) ?_ | exact hst | refine call_p (hst) (by kernel_rfl) rfl ?_ | exact PV.le_refl _ | exact Nat.zero_lt_succ _ | exact Nat.le_of_ble_eq_true rfl | exact onesOf rfl | exact Or.inl rfl | exact noMem | exact onesOfP rfl | exact okAll rfl | exact okMap (fun _ => ⟨rfl, onesOfP rfl⟩) | exact nonz | refine imp0 (fun hpos => ?_) | refine fits_i64 ?_ ?_ | exact rfl | (with_reducible show LeG _ _) | (with_reducible show Lp _ _ _ _) | (with_reducible show Exists _) | (with_reducible show callX _ _ _ _ _)))) <;> (try (first | exact LeG.refl _ | omega | ((first | (with_reducible show (_ : Int) ≤ _) | (with_reducible show (_ : Int) < _) | (with_reducible show (_ : Nat) ≤ _) | (with_reducible show (_ : Nat) < _) | (with_reducible show ¬ _) | (with_reducible show (_ : Int) = _) | (with_reducible show (_ : Nat) = _)); (simp only [List.length_map, List.length_append, List.length_cons, List.length_nil, List.length_replicate, List.length_take, List.length_drop, List.length_set, Int.toNat_natCast, Int.reduceToNat] <;> omega)) | exact of_decide_eq_true rfl))
  refine Wpc.loopA (α := {i : Nat // i ≤ S.length}) mixed [0, 1, 2, 3, 4, 5, 12, 13, 14, 15, 24, 34] (fun i => [(13, .rsl 64 10 0 ((S.take i.1).filter (cvsB q)).length), (15, .p (eI i.1))]) (fun i => [(64, .row 10 (((S.take i.1).filter (cvsB q)).map eA))]) (fun _ => 0) (fun i => S.length - i.1) ⟨0, by omega⟩ ?_ ?_
  · (first | refine Ent.ofA [] ?_ | refine Ent.ofC [] ?_) <;> (repeat' (first | exact trivial | refine HpLe.dd ?_ | refine HpLe.mk rfl (by simp) rfl (fun h => AObj.noConfusion h) ?_ ?_ | refine And.intro ?_ ?_ | exact VLe.refl _ | exact VLe.msl rfl | exact VLe.rsl rfl | exact VLe.csl rfl | exact VLe.cslr rfl | exact VLe.mp rfl | exact VLe.eptr rfl | exact VLe.ptr rfl | exact VLe.any _ | refine VLe.pe ?_ | refine VLe.agg ?_ | refine VLeL.cons ?_ ?_ | exact VLeL.nil | exact OLe.row _ _ | rfl | refine VLe.rsle rfl ?_ ?_ ?_ | refine OLe.rowe2 ?_ ?_ | refine OLe.mape ?_ ?_ | refine OLe.iter0 ?_ | refine OLe.itere ?_ ?_)) <;> try (first | (simp; done) | (congr 1; omega) | (congr 1; (first | (simp; done) | (simp; omega))))
  rintro ⟨i, hi⟩
  have hi : i ≤ S.length := hi
  have hfl := List.length_filter_le (cvsB q) (S.take i)
  rw [List.length_take] at hfl
  cases hxi : S[i]? with
  | none =>
    have hge : S.length ≤ i := List.getElem?_eq_none_iff.1 hxi
    have hno : ¬ ((i : Int) < ((S.map eA).length : Int)) := by rw [List.length_map]; omega
    repeat' (first | ((with_reducible show _ = _); exact rfl) | ((with_reducible show (_ : Nat) < _); exact Nat.zero_lt_succ _) | ((with_reducible show (_ : Nat) ≤ _); exact Nat.le_of_ble_eq_true rfl) | ((with_reducible show Exists _); refine exU8 ?_) | ((fail_if_success (first | (with_reducible show LeG _ _) | (with_reducible show Lp _ _ _ _) | (with_reducible show Exists _) | (with_reducible show callX _ _ _ _ _) | (with_reducible show (_ : Int) ≤ _) | (with_reducible show (_ : Int) < _) | (with_reducible show (_ : Nat) ≤ _) | (with_reducible show (_ : Nat) < _))); (conv => whnf) <;> (first | exact OkR.mk (by kernel_rfl) | exact OkC.mk (by kernel_rfl) | refine Br.dec (fun hc => absurd hc hno) (fun hc => ?_) | refine Sq.pr ?_ | refine Br.dec (fun hc => ?_) (fun hc => ?_) | refine Br.tt ?_ | refine Br.ff ?_ | refine Br.not ?_ | refine Br.mk (fun hc => ?_) (fun hc => ?_) | refine Opt.nn ?_ | refine Opt.ss ?_ | refine AltA.l ?_ | exact PV.leL_nil | refine PV.leL_cons ?_ ?_ | refine And.intro ?_ ?_ | refine ix_map (fun x hx => ?_) | refine exU8 ?_ | refine nilc (fun hn => ?_) ?_ | exact PV.le_refl _ | exact Nat.zero_lt_succ _ | exact Nat.le_of_ble_eq_true rfl | exact onesOf rfl | exact Or.inl rfl | exact noMem | exact onesOfP rfl | exact okAll rfl | exact okMap (fun _ => ⟨rfl, onesOfP rfl⟩) | exact nonz | refine imp0 (fun hpos => ?_) | refine fits_i64 ?_ ?_ | exact rfl | (with_reducible show LeG _ _) | (with_reducible show Lp _ _ _ _) | (with_reducible show Exists _) | (with_reducible show callX _ _ _ _ _)))) <;> (try (first | exact LeG.refl _ | omega | ((first | (with_reducible show (_ : Int) ≤ _) | (with_reducible show (_ : Int) < _) | (with_reducible show (_ : Nat) ≤ _) | (with_reducible show (_ : Nat) < _) | (with_reducible show ¬ _) | (with_reducible show (_ : Int) = _) | (with_reducible show (_ : Nat) = _)); (simp only [List.length_map, List.length_append, List.length_cons, List.length_nil, List.length_replicate, List.length_take, List.length_drop, List.length_set, Int.toNat_natCast, Int.reduceToNat] <;> omega)) | exact of_decide_eq_true rfl))
    refine LeG.of (congrArg (fun q => PV.sl 10 false q) ?_)
    show List.take ((S.take i).filter _).length (List.drop 0 (((S.take i).filter _).map eA)) = (S.filter (cvsB q)).map eA
    rw [List.take_of_length_le (l := S) (by omega), List.drop_zero, List.take_of_length_le (by simp)]
  | some y =>
    have hlt : i < S.length := (List.getElem?_eq_some_iff.1 hxi).1
    have hyes : ((i : Int) < ((S.map eA).length : Int)) := by rw [List.length_map]; omega
    have hft := filter_take (cvsB q) hxi
    repeat' (first | ((with_reducible show _ = _); exact rfl) | ((with_reducible show (_ : Nat) < _); exact Nat.zero_lt_succ _) | ((with_reducible show (_ : Nat) ≤ _); exact Nat.le_of_ble_eq_true rfl) | ((with_reducible show Exists _); refine exU8 ?_) | ((with_reducible show callX _ _ _ _ _); (first | refine call_p (rcovers_calls _ _) (by kernel_rfl) rfl ?_)) | ((fail_if_success (first | (with_reducible show LeG _ _) | (with_reducible show Lp _ _ _ _) | (with_reducible show Exists _) | (with_reducible show callX _ _ _ _ _) | (with_reducible show (_ : Int) ≤ _) | (with_reducible show (_ : Int) < _) | (with_reducible show (_ : Nat) ≤ _) | (with_reducible show (_ : Nat) < _))); (conv => whnf) <;> (first | exact OkR.mk (by kernel_rfl) | exact OkC.mk (by kernel_rfl) | refine Br.dec (fun hc => ?_) (fun hc => absurd hyes hc) | refine ix_at hxi ?_ | refine Sq.pr ?_ | refine Br.dec (fun hc => ?_) (fun hc => ?_) | refine Br.tt ?_ | refine Br.ff ?_ | refine Br.not ?_ | refine Br.mk (fun hc => ?_) (fun hc => ?_) | refine Opt.nn ?_ | refine Opt.ss ?_ | refine AltA.l ?_ | exact PV.leL_nil | refine PV.leL_cons ?_ ?_ | refine And.intro ?_ ?_ | refine ix_map (fun x hx => ?_) | refine exU8 ?_ | refine nilc (fun hn => ?_) ?_ | refine call_p (rcovers_calls _ _) (by kernel_rfl) rfl ?_ | exact PV.le_refl _ | exact Nat.zero_lt_succ _ | exact Nat.le_of_ble_eq_true rfl | exact onesOf rfl | exact Or.inl rfl | exact noMem | exact onesOfP rfl | exact okAll rfl | exact okMap (fun _ => ⟨rfl, onesOfP rfl⟩) | exact nonz | refine imp0 (fun hpos => ?_) | refine fits_i64 ?_ ?_ | exact rfl | (with_reducible show LeG _ _) | (with_reducible show Lp _ _ _ _) | (with_reducible show Exists _) | (with_reducible show callX _ _ _ _ _)))) <;> (try (first | exact LeG.refl _ | omega | ((first | (with_reducible show (_ : Int) ≤ _) | (with_reducible show (_ : Int) < _) | (with_reducible show (_ : Nat) ≤ _) | (with_reducible show (_ : Nat) < _) | (with_reducible show ¬ _) | (with_reducible show (_ : Int) = _) | (with_reducible show (_ : Nat) = _)); (simp only [List.length_map, List.length_append, List.length_cons, List.length_nil, List.length_replicate, List.length_take, List.length_drop, List.length_set, Int.toNat_natCast, Int.reduceToNat] <;> omega)) | exact of_decide_eq_true rfl))
    all_goals (
      refine ⟨⟨i + 1, hlt⟩, by show S.length - (i + 1) < S.length - i; omega, ?_⟩
      (first | refine Ent.ofA [] ?_ | refine Ent.ofC [] ?_) <;> (repeat' (first | exact trivial | refine HpLe.dd ?_ | refine HpLe.mk rfl (by simp) rfl (fun h => AObj.noConfusion h) ?_ ?_ | refine And.intro ?_ ?_ | exact VLe.refl _ | exact VLe.msl rfl | exact VLe.rsl rfl | exact VLe.csl rfl | exact VLe.cslr rfl | exact VLe.mp rfl | exact VLe.eptr rfl | exact VLe.ptr rfl | exact VLe.any _ | refine VLe.pe ?_ | refine VLe.agg ?_ | refine VLeL.cons ?_ ?_ | exact VLeL.nil | exact OLe.row _ _ | rfl | refine VLe.rsle rfl ?_ ?_ ?_ | refine OLe.rowe2 ?_ ?_ | refine OLe.mape ?_ ?_ | refine OLe.iter0 ?_ | refine OLe.itere ?_ ?_)) <;> try (first | (simp; done) | (congr 1; omega) | (congr 1; (first | (simp; done) | (simp; omega))))
      all_goals first
      | (rw [hft]; simp_all; done)
      | (rw [hft]; simp_all; rfl))
end Go.Proofs.Ytghgjobknmddgaa

namespace Go.Proofs.Ytghgjobknmddgaa
open Go Go.Sg
set_option maxRecDepth 100000
set_option maxHeartbeats 20000000
theorem findSome_hit {α β : Type} {f : α → Option β} {w : β} : ∀ {S : List α} {i : Nat} {x : α}, (∀ (j : Nat) y, j < i → S[j]? = some y → f y = none) → S[i]? = some x → f x = some w → S.findSome? f = some w
  | [], _, _, _, h, _ => by simp at h
  | y :: S, 0, x, _, h, hx => by
    have h : some y = some x := h
    injection h with h; subst h
    simp [List.findSome?_cons, hx]
  | y :: S, i + 1, x, hq, h, hx => by
    have h0 := hq 0 y (by omega) rfl
    rw [List.findSome?_cons, h0]
    exact findSome_hit (i := i) (fun j z hj hz => hq (j + 1) z (by omega) hz) h hx
theorem findSome_miss {α β : Type} {f : α → Option β} {S : List α} {i : Nat} (hq : ∀ (j : Nat) y, j < i → S[j]? = some y → f y = none) (hi : S.length ≤ i) : S.findSome? f = none := by
  rw [List.findSome?_eq_none_iff]
  intro x hx
  obtain ⟨j, hj⟩ := List.getElem?_of_mem hx
  exact hq j x (by have := (List.getElem?_eq_some_iff.1 hj).1; omega) hj
theorem noneN {β : Type} {f : Dp → Option β} {S : List Dp} {i : Nat} {x : Dp} (hq : ∀ (j : Nat) y, j < i → S[j]? = some y → f y = none) (hx : S[i]? = some x) (h : f x = none) : ∀ (j : Nat) y, j < i + 1 → S[j]? = some y → f y = none := fun j y hj hy => by
  rcases Nat.lt_or_ge j i with hl | hl
  · exact hq j y hl hy
  · have : j = i := by omega
    subst this
    rw [hx] at hy; injection hy with hy; subst hy; exact h
theorem walk_calls (S : List Dp) (t : Int) (hS : S.length < 1000000) : ∀ (n : Nat) (p : Int) (ps : List Int), n ≤ 8 → ps.length + n ≤ 100 → PCalls Try.prog 35 [eL S, eIs (ps ++ [p]), eI t, eI (n : Int)] (.tup [eIs (walkA S t n p (ps ++ [p])).1, .bool (walkA S t n p (ps ++ [p])).2]) := by
  intro n
  induction n with
  | zero =>
    intro p ps _ hps
    have hlast : (ps ++ [p])[((((ps ++ [p]).map eI).length : Int) - 1).toNat]? = some p := by simp
    refine PCalls.of (N := 75) (res := [.tmp 8, .tmp 9]) mixed Try.func35 rfl rfl rfl (by kernel_rfl) (by simp) [0, 1, 2, 3, 8, 9, 10, 11, 12, 13, 21, 29, 47, 66] ?_
    repeat' (first | ((with_reducible show _ = _); exact rfl) | ((with_reducible show (_ : Nat) < _); exact Nat.zero_lt_succ _) | ((with_reducible show (_ : Nat) ≤ _); exact Nat.le_of_ble_eq_true rfl) | ((with_reducible show Exists _); refine exU8 ?_) | ((fail_if_success (first | (with_reducible show LeG _ _) | (with_reducible show Lp _ _ _ _) | (with_reducible show Exists _) | (with_reducible show callX _ _ _ _ _) | (with_reducible show (_ : Int) ≤ _) | (with_reducible show (_ : Int) < _) | (with_reducible show (_ : Nat) ≤ _) | (with_reducible show (_ : Nat) < _))); (conv => whnf) <;> (first | exact OkR.mk (by kernel_rfl) | exact OkC.mk (by kernel_rfl) | refine ix_at hlast ?_ | refine Br.dec (fun hc => ?_) (fun hc => absurd rfl hc) | refine Sq.pr ?_ | refine Br.dec (fun hc => ?_) (fun hc => ?_) | refine Br.tt ?_ | refine Br.ff ?_ | refine Br.not ?_ | refine Br.mk (fun hc => ?_) (fun hc => ?_) | refine Opt.nn ?_ | refine Opt.ss ?_ | refine AltA.l ?_ | exact PV.leL_nil | refine PV.leL_cons ?_ ?_ | refine And.intro ?_ ?_ | refine ix_map (fun x hx => ?_) | refine exU8 ?_ | refine nilc (fun hn => ?_) ?_ | exact PV.le_refl _ | exact Nat.zero_lt_succ _ | exact Nat.le_of_ble_eq_true rfl | exact onesOf rfl | exact Or.inl rfl | exact noMem | exact onesOfP rfl | exact okAll rfl | exact okMap (fun _ => ⟨rfl, onesOfP rfl⟩) | exact nonz | refine imp0 (fun hpos => ?_) | refine fits_i64 ?_ ?_ | exact rfl | (with_reducible show LeG _ _) | (with_reducible show Lp _ _ _ _) | (with_reducible show Exists _) | (with_reducible show callX _ _ _ _ _)))) <;> (try (first | exact LeG.refl _ | omega | ((first | (with_reducible show (_ : Int) ≤ _) | (with_reducible show (_ : Int) < _) | (with_reducible show (_ : Nat) ≤ _) | (with_reducible show (_ : Nat) < _) | (with_reducible show ¬ _) | (with_reducible show (_ : Int) = _) | (with_reducible show (_ : Nat) = _)); (simp only [List.length_map, List.length_append, List.length_cons, List.length_nil, List.length_replicate, List.length_take, List.length_drop, List.length_set, Int.toNat_natCast, Int.reduceToNat] <;> omega)) | exact of_decide_eq_true rfl))
  | succ n ih =>
    intro p ps hn hps
    have hlast : (ps ++ [p])[((((ps ++ [p]).map eI).length : Int) - 1).toNat]? = some p := by simp
    have hne : ¬ (((n + 1 : Nat) : Int) = 0) := by omega
    have hlp : (ps ++ [p]).length ≤ 101 := by simp; omega
    refine PCalls.of (N := 75) (res := [.tmp 8, .tmp 9]) mixed Try.func35 rfl rfl rfl (by kernel_rfl) (by simp) [0, 1, 2, 3, 8, 9, 10, 11, 12, 13, 21, 29, 47, 66] ?_
    repeat' (first | ((with_reducible show _ = _); exact rfl) | ((with_reducible show (_ : Nat) < _); exact Nat.zero_lt_succ _) | ((with_reducible show (_ : Nat) ≤ _); exact Nat.le_of_ble_eq_true rfl) | ((with_reducible show Exists _); refine exU8 ?_) | ((fail_if_success (first | (with_reducible show LeG _ _) | (with_reducible show Lp _ _ _ _) | (with_reducible show Exists _) | (with_reducible show callX _ _ _ _ _) | (with_reducible show (_ : Int) ≤ _) | (with_reducible show (_ : Int) < _) | (with_reducible show (_ : Nat) ≤ _) | (with_reducible show (_ : Nat) < _))); (conv => whnf) <;> (first | exact OkR.mk (by kernel_rfl) | exact OkC.mk (by kernel_rfl) | refine ix_at hlast ?_ | refine Br.dec (fun hc => absurd hc hne) (fun hc => ?_) | refine Sq.pr ?_ | refine Br.dec (fun hc => ?_) (fun hc => ?_) | refine Br.tt ?_ | refine Br.ff ?_ | refine Br.not ?_ | refine Br.mk (fun hc => ?_) (fun hc => ?_) | refine Opt.nn ?_ | refine Opt.ss ?_ | refine AltA.l ?_ | exact PV.leL_nil | refine PV.leL_cons ?_ ?_ | refine And.intro ?_ ?_ | refine ix_map (fun x hx => ?_) | refine exU8 ?_ | refine nilc (fun hn => ?_) ?_ | exact PV.le_refl _ | exact Nat.zero_lt_succ _ | exact Nat.le_of_ble_eq_true rfl | exact onesOf rfl | exact Or.inl rfl | exact noMem | exact onesOfP rfl | exact okAll rfl | exact okMap (fun _ => ⟨rfl, onesOfP rfl⟩) | exact nonz | refine imp0 (fun hpos => ?_) | refine fits_i64 ?_ ?_ | exact rfl | (with_reducible show LeG _ _) | (with_reducible show Lp _ _ _ _) | (with_reducible show Exists _) | (with_reducible show callX _ _ _ _ _)))) <;> (try (first | exact LeG.refl _ | omega | ((first | (with_reducible show (_ : Int) ≤ _) | (with_reducible show (_ : Int) < _) | (with_reducible show (_ : Nat) ≤ _) | (with_reducible show (_ : Nat) < _) | (with_reducible show ¬ _) | (with_reducible show (_ : Int) = _) | (with_reducible show (_ : Nat) = _)); (simp only [List.length_map, List.length_append, List.length_cons, List.length_nil, List.length_replicate, List.length_take, List.length_drop, List.length_set, Int.toNat_natCast, Int.reduceToNat] <;> omega)) | exact of_decide_eq_true rfl))
    refine Wpc.loopB (α := {i : Nat // i ≤ S.length ∧ ∀ (j : Nat) y, j < i → S[j]? = some y → tryW (walkA S t n) p (ps ++ [p]) y = none}) mixed [0, 1, 2, 3, 8, 9, 10, 11, 12, 13, 21, 29, 47, 66] (fun i => [(11, .p (eI i.1))]) (fun i => S.length - i.1) ⟨0, by omega, fun j z h => absurd h (by omega)⟩ ?_ ?_
    · (first | refine Ent.ofA [] ?_ | refine Ent.ofC [] ?_) <;> (repeat' (first | exact trivial | refine HpLe.dd ?_ | refine HpLe.mk rfl (by simp) rfl (fun h => AObj.noConfusion h) ?_ ?_ | refine And.intro ?_ ?_ | exact VLe.refl _ | exact VLe.msl rfl | exact VLe.rsl rfl | exact VLe.csl rfl | exact VLe.cslr rfl | exact VLe.mp rfl | exact VLe.eptr rfl | exact VLe.ptr rfl | exact VLe.any _ | refine VLe.pe ?_ | refine VLe.agg ?_ | refine VLeL.cons ?_ ?_ | exact VLeL.nil | exact OLe.row _ _ | rfl | refine VLe.rsle rfl ?_ ?_ ?_ | refine OLe.rowe2 ?_ ?_ | refine OLe.mape ?_ ?_ | refine OLe.iter0 ?_ | refine OLe.itere ?_ ?_)) <;> try (first | (simp; done) | (congr 1; omega) | (congr 1; (first | (simp; done) | (simp; omega))))
    rintro ⟨i, hi, hq⟩
    have hi : i ≤ S.length := hi
    have hq : ∀ (j : Nat) y, j < i → S[j]? = some y → tryW (walkA S t n) p (ps ++ [p]) y = none := hq
    cases hxi : S[i]? with
    | none =>
      have hge : S.length ≤ i := List.getElem?_eq_none_iff.1 hxi
      have hno : ¬ ((i : Int) < ((S.map eA).length : Int)) := by rw [List.length_map]; omega
      have hw : walkA S t (n + 1) p (ps ++ [p]) = ([], false) := by
        show (match S.findSome? (tryW (walkA S t n) p (ps ++ [p])) with | some w => (w, true) | none => (([] : List Int), false)) = _
        rw [findSome_miss hq hge]
      rw [hw]
      repeat' (first | ((with_reducible show _ = _); exact rfl) | ((with_reducible show (_ : Nat) < _); exact Nat.zero_lt_succ _) | ((with_reducible show (_ : Nat) ≤ _); exact Nat.le_of_ble_eq_true rfl) | ((with_reducible show Exists _); refine exU8 ?_) | ((fail_if_success (first | (with_reducible show LeG _ _) | (with_reducible show Lp _ _ _ _) | (with_reducible show Exists _) | (with_reducible show callX _ _ _ _ _) | (with_reducible show (_ : Int) ≤ _) | (with_reducible show (_ : Int) < _) | (with_reducible show (_ : Nat) ≤ _) | (with_reducible show (_ : Nat) < _))); (conv => whnf) <;> (first | exact OkR.mk (by kernel_rfl) | exact OkC.mk (by kernel_rfl) | refine Br.dec (fun hc => absurd hc hno) (fun hc => ?_) | refine Sq.pr ?_ | refine Br.dec (fun hc => ?_) (fun hc => ?_) | refine Br.tt ?_ | refine Br.ff ?_ | refine Br.not ?_ | refine Br.mk (fun hc => ?_) (fun hc => ?_) | refine Opt.nn ?_ | refine Opt.ss ?_ | refine AltA.l ?_ | exact PV.leL_nil | refine PV.leL_cons ?_ ?_ | refine And.intro ?_ ?_ | refine ix_map (fun x hx => ?_) | refine exU8 ?_ | refine nilc (fun hn => ?_) ?_ | exact PV.le_refl _ | exact Nat.zero_lt_succ _ | exact Nat.le_of_ble_eq_true rfl | exact onesOf rfl | exact Or.inl rfl | exact noMem | exact onesOfP rfl | exact okAll rfl | exact okMap (fun _ => ⟨rfl, onesOfP rfl⟩) | exact nonz | refine imp0 (fun hpos => ?_) | refine fits_i64 ?_ ?_ | exact rfl | (with_reducible show LeG _ _) | (with_reducible show Lp _ _ _ _) | (with_reducible show Exists _) | (with_reducible show callX _ _ _ _ _)))) <;> (try (first | exact LeG.refl _ | omega | ((first | (with_reducible show (_ : Int) ≤ _) | (with_reducible show (_ : Int) < _) | (with_reducible show (_ : Nat) ≤ _) | (with_reducible show (_ : Nat) < _) | (with_reducible show ¬ _) | (with_reducible show (_ : Int) = _) | (with_reducible show (_ : Nat) = _)); (simp only [List.length_map, List.length_append, List.length_cons, List.length_nil, List.length_replicate, List.length_take, List.length_drop, List.length_set, Int.toNat_natCast, Int.reduceToNat] <;> omega)) | exact of_decide_eq_true rfl))
      exact LeG.mk (PV.le_tup (PV.leL_cons (PV.le_nil _ _ _) (PV.leL_refl _)))
    | some x =>
      have hlt : i < S.length := (List.getElem?_eq_some_iff.1 hxi).1
      have hyes : ((i : Int) < ((S.map eA).length : Int)) := by rw [List.length_map]; omega
      have hh := rhas_calls (ps ++ [p]) x.to (by omega)
      have hw := ih x.to (ps ++ [p]) (by omega) (by simp; omega)
      have hr := walkA_len (S := S) (t := t) n x.to (ps ++ [p] ++ [x.to])
      rw [show ((n : Nat) : Int) = ((n + 1 : Nat) : Int) - 1 from by omega] at hw
      have hsk : ¬ (x.frm = p ∧ ¬ x.to ∈ ps ++ [p]) → tryW (walkA S t n) p (ps ++ [p]) x = none := fun h => by unfold tryW; rw [if_neg h]
      have hgo : x.frm = p → ¬ x.to ∈ ps ++ [p] → tryW (walkA S t n) p (ps ++ [p]) x = if (walkA S t n x.to (ps ++ [p] ++ [x.to])).2 = true then some (x.no :: (walkA S t n x.to (ps ++ [p] ++ [x.to])).1) else none := fun h1 h2 => by unfold tryW; rw [if_pos ⟨h1, h2⟩]
      generalize hW : walkA S t n x.to (ps ++ [p] ++ [x.to]) = W at *
      obtain ⟨w, b⟩ := W
      repeat' (first | ((with_reducible show _ = _); exact rfl) | ((with_reducible show (_ : Nat) < _); exact Nat.zero_lt_succ _) | ((with_reducible show (_ : Nat) ≤ _); exact Nat.le_of_ble_eq_true rfl) | ((with_reducible show Exists _); refine exU8 ?_) | ((with_reducible show callX _ _ _ _ _); (first | refine call_p (hh) (by kernel_rfl) rfl ?_)) | ((fail_if_success (first | (with_reducible show LeG _ _) | (with_reducible show Lp _ _ _ _) | (with_reducible show Exists _) | (with_reducible show callX _ _ _ _ _) | (with_reducible show (_ : Int) ≤ _) | (with_reducible show (_ : Int) < _) | (with_reducible show (_ : Nat) ≤ _) | (with_reducible show (_ : Nat) < _))); (conv => whnf) <;> (first | exact OkR.mk (by kernel_rfl) | exact OkC.mk (by kernel_rfl) | refine Br.dec (fun hc => ?_) (fun hc => absurd hyes hc) | refine ix_at hxi ?_ | refine Sq.pr ?_ | refine Br.dec (fun hc => ?_) (fun hc => ?_) | refine Br.tt ?_ | refine Br.ff ?_ | refine Br.not ?_ | refine Br.mk (fun hc => ?_) (fun hc => ?_) | refine Opt.nn ?_ | refine Opt.ss ?_ | refine AltA.l ?_ | exact PV.leL_nil | refine PV.leL_cons ?_ ?_ | refine And.intro ?_ ?_ | refine ix_map (fun x hx => ?_) | refine exU8 ?_ | refine nilc (fun hn => ?_) ?_ | refine call_p (hh) (by kernel_rfl) rfl ?_ | exact PV.le_refl _ | exact Nat.zero_lt_succ _ | exact Nat.le_of_ble_eq_true rfl | exact onesOf rfl | exact Or.inl rfl | exact noMem | exact onesOfP rfl | exact okAll rfl | exact okMap (fun _ => ⟨rfl, onesOfP rfl⟩) | exact nonz | refine imp0 (fun hpos => ?_) | refine fits_i64 ?_ ?_ | exact rfl | (with_reducible show LeG _ _) | (with_reducible show Lp _ _ _ _) | (with_reducible show Exists _) | (with_reducible show callX _ _ _ _ _)))) <;> (try (first | exact LeG.refl _ | omega | ((first | (with_reducible show (_ : Int) ≤ _) | (with_reducible show (_ : Int) < _) | (with_reducible show (_ : Nat) ≤ _) | (with_reducible show (_ : Nat) < _) | (with_reducible show ¬ _) | (with_reducible show (_ : Int) = _) | (with_reducible show (_ : Nat) = _)); (simp only [List.length_map, List.length_append, List.length_cons, List.length_nil, List.length_replicate, List.length_take, List.length_drop, List.length_set, Int.toNat_natCast, Int.reduceToNat] <;> omega)) | exact of_decide_eq_true rfl))
      · refine ⟨⟨i + 1, hlt, noneN hq hxi (hsk (fun h => hc h.1))⟩, by show S.length - (i + 1) < S.length - i; omega, ?_⟩
        (first | refine Ent.ofA [] ?_ | refine Ent.ofC [] ?_) <;> (repeat' (first | exact trivial | refine HpLe.dd ?_ | refine HpLe.mk rfl (by simp) rfl (fun h => AObj.noConfusion h) ?_ ?_ | refine And.intro ?_ ?_ | exact VLe.refl _ | exact VLe.msl rfl | exact VLe.rsl rfl | exact VLe.csl rfl | exact VLe.cslr rfl | exact VLe.mp rfl | exact VLe.eptr rfl | exact VLe.ptr rfl | exact VLe.any _ | refine VLe.pe ?_ | refine VLe.agg ?_ | refine VLeL.cons ?_ ?_ | exact VLeL.nil | exact OLe.row _ _ | rfl | refine VLe.rsle rfl ?_ ?_ ?_ | refine OLe.rowe2 ?_ ?_ | refine OLe.mape ?_ ?_ | refine OLe.iter0 ?_ | refine OLe.itere ?_ ?_)) <;> try (first | (simp; done) | (congr 1; omega) | (congr 1; (first | (simp; done) | (simp; omega))))
      · refine ⟨⟨i + 1, hlt, noneN hq hxi (hsk (fun h => h.2 hc))⟩, by show S.length - (i + 1) < S.length - i; omega, ?_⟩
        (first | refine Ent.ofA [] ?_ | refine Ent.ofC [] ?_) <;> (repeat' (first | exact trivial | refine HpLe.dd ?_ | refine HpLe.mk rfl (by simp) rfl (fun h => AObj.noConfusion h) ?_ ?_ | refine And.intro ?_ ?_ | exact VLe.refl _ | exact VLe.msl rfl | exact VLe.rsl rfl | exact VLe.csl rfl | exact VLe.cslr rfl | exact VLe.mp rfl | exact VLe.eptr rfl | exact VLe.ptr rfl | exact VLe.any _ | refine VLe.pe ?_ | refine VLe.agg ?_ | refine VLeL.cons ?_ ?_ | exact VLeL.nil | exact OLe.row _ _ | rfl | refine VLe.rsle rfl ?_ ?_ ?_ | refine OLe.rowe2 ?_ ?_ | refine OLe.mape ?_ ?_ | refine OLe.iter0 ?_ | refine OLe.itere ?_ ?_)) <;> try (first | (simp; done) | (congr 1; omega) | (congr 1; (first | (simp; done) | (simp; omega))))
      · refine call_z hw (by kernel_rfl) rfl ?_
        repeat' (first | exact PV.leL_nil | refine PV.leL_cons ?_ ?_ | refine And.intro ?_ ?_ | exact OkR.mk (by kernel_rfl) | exact Nat.zero_lt_succ _ | exact Nat.le_of_ble_eq_true rfl | exact PV.le_refl _ )
        · exact rfl
        · simp
        · refine PV.le_of ?_
          show PV.sl 1 false _ = PV.sl 1 false _
          congr 1
          simp only [List.drop_zero, List.nil_append]
          rw [List.take_of_length_le (by simp)]
          simp
        · have hr : w.length ≤ n := hr
          repeat' (first | ((with_reducible show _ = _); exact rfl) | ((with_reducible show (_ : Nat) < _); exact Nat.zero_lt_succ _) | ((with_reducible show (_ : Nat) ≤ _); exact Nat.le_of_ble_eq_true rfl) | ((with_reducible show Exists _); refine exU8 ?_) | ((fail_if_success (first | (with_reducible show LeG _ _) | (with_reducible show Lp _ _ _ _) | (with_reducible show Exists _) | (with_reducible show callX _ _ _ _ _) | (with_reducible show (_ : Int) ≤ _) | (with_reducible show (_ : Int) < _) | (with_reducible show (_ : Nat) ≤ _) | (with_reducible show (_ : Nat) < _))); (conv => whnf) <;> (first | exact OkR.mk (by kernel_rfl) | exact OkC.mk (by kernel_rfl) | refine Br.dec (fun hc => ?_) (fun hc => absurd hyes hc) | refine ix_at hxi ?_ | refine Sq.pr ?_ | refine Br.dec (fun hc => ?_) (fun hc => ?_) | refine Br.tt ?_ | refine Br.ff ?_ | refine Br.not ?_ | refine Br.mk (fun hc => ?_) (fun hc => ?_) | refine Opt.nn ?_ | refine Opt.ss ?_ | refine AltA.l ?_ | exact PV.leL_nil | refine PV.leL_cons ?_ ?_ | refine And.intro ?_ ?_ | refine ix_map (fun x hx => ?_) | refine exU8 ?_ | refine nilc (fun hn => ?_) ?_ | exact PV.le_refl _ | exact Nat.zero_lt_succ _ | exact Nat.le_of_ble_eq_true rfl | exact onesOf rfl | exact Or.inl rfl | exact noMem | exact onesOfP rfl | exact okAll rfl | exact okMap (fun _ => ⟨rfl, onesOfP rfl⟩) | exact nonz | refine imp0 (fun hpos => ?_) | refine fits_i64 ?_ ?_ | exact rfl | (with_reducible show LeG _ _) | (with_reducible show Lp _ _ _ _) | (with_reducible show Exists _) | (with_reducible show callX _ _ _ _ _)))) <;> (try (first | exact LeG.refl _ | omega | ((first | (with_reducible show (_ : Int) ≤ _) | (with_reducible show (_ : Int) < _) | (with_reducible show (_ : Nat) ≤ _) | (with_reducible show (_ : Nat) < _) | (with_reducible show ¬ _) | (with_reducible show (_ : Int) = _) | (with_reducible show (_ : Nat) = _)); (simp only [List.length_map, List.length_append, List.length_cons, List.length_nil, List.length_replicate, List.length_take, List.length_drop, List.length_set, Int.toNat_natCast, Int.reduceToNat] <;> omega)) | exact of_decide_eq_true rfl))
          · have hcx : x.frm = p := Classical.not_not.1 (by assumption)
            have hcb : b = true := hc
            subst hcb
            have hw1 : walkA S t (n + 1) p (ps ++ [p]) = (x.no :: w, true) := by
              show (match S.findSome? (tryW (walkA S t n) p (ps ++ [p])) with | some w => (w, true) | none => (([] : List Int), false)) = _
              rw [findSome_hit hq hxi (by rw [hgo hcx (by assumption), if_pos rfl])]
            rw [hw1]
            refine LeG.of (congrArg (fun z => PV.tup [PV.sl 1 false z, .bool true]) ?_)
            show List.take (1 + (w.map eI).length) (List.drop 0 ([eI x.no] ++ _)) = (x.no :: w).map eI
            rw [List.take_of_length_le (by simp <;> omega)]
            simp
          · have hcx : x.frm = p := Classical.not_not.1 (by assumption)
            have hcb : b = false := hc
            subst hcb
            refine ⟨⟨i + 1, hlt, noneN hq hxi (by rw [hgo hcx (by assumption)]; exact if_neg Bool.false_ne_true)⟩, by show S.length - (i + 1) < S.length - i; omega, ?_⟩
            (first | refine Ent.ofA [] ?_ | refine Ent.ofC [] ?_) <;> (repeat' (first | exact trivial | refine HpLe.dd ?_ | refine HpLe.mk rfl (by simp) rfl (fun h => AObj.noConfusion h) ?_ ?_ | refine And.intro ?_ ?_ | exact VLe.refl _ | exact VLe.msl rfl | exact VLe.rsl rfl | exact VLe.csl rfl | exact VLe.cslr rfl | exact VLe.mp rfl | exact VLe.eptr rfl | exact VLe.ptr rfl | exact VLe.any _ | refine VLe.pe ?_ | refine VLe.agg ?_ | refine VLeL.cons ?_ ?_ | exact VLeL.nil | exact OLe.row _ _ | rfl | refine VLe.rsle rfl ?_ ?_ ?_ | refine OLe.rowe2 ?_ ?_ | refine OLe.mape ?_ ?_ | refine OLe.iter0 ?_ | refine OLe.itere ?_ ?_)) <;> try (first | (simp; done) | (congr 1; omega) | (congr 1; (first | (simp; done) | (simp; omega))))
end Go.Proofs.Ytghgjobknmddgaa
