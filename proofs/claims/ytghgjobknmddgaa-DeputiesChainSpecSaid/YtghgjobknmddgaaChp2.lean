/- A part of the proof: contracts of the functions that the statement reaches. -/
import Derived.Test.YtghgjobknmddgaaChp1
import Derived.Test.YtghgjobknmddgaaRows
set_option linter.unusedSimpArgs false
set_option linter.unusedVariables false
set_option linter.unnecessarySimpa false
namespace Go.Proofs.Ytghgjobknmddgaa
open Go Go.Sg
set_option maxRecDepth 100000
set_option maxHeartbeats 20000000
theorem rchain_calls (l : List Dp) (f t : Int) (q : Qn) (hl : l.length < 1000000) : PCalls Try.prog 17 [eL l, eI f, eI t, eI q.off, eI q.kind, eI q.val, eI q.tm, eI q.known] (eC (chainA l f t q)) := by
  have q1 := rError_calls l f t q hl
  unfold chainA
  by_cases hz : askA l f t q = 0
  · have hck : chkA l = 0 := Classical.byContradiction fun hn => by
      unfold askA at hz
      simp_all
    rw [hz] at q1
    rw [if_pos hz]
    have q2 := rcovering_calls q l hl
    rw [← covL_eq q hck] at q2
    have hSl : (covL q l).length < 1000000 := Nat.lt_of_le_of_lt (List.length_filter_le _ _) hl
    generalize covL q l = S at *
    refine PCalls.of (N := 58) (res := [.tmp 16, .tmp 17, .tmp 18]) mixed Try.func17 rfl rfl rfl (by kernel_rfl) (by simp) [0, 1, 2, 3, 4, 5, 6, 7, 16, 17, 18, 19, 20, 21, 22, 23, 34, 44, 56] ?_
    repeat' (first | ((with_reducible show _ = _); exact rfl) | ((with_reducible show (_ : Nat) < _); exact Nat.zero_lt_succ _) | ((with_reducible show (_ : Nat) ≤ _); exact Nat.le_of_ble_eq_true rfl) | ((with_reducible show Exists _); refine exU8 ?_) | ((with_reducible show callX _ _ _ _ _); (first | refine call_p (q1) (by kernel_rfl) rfl ?_ | refine call_p (q2) (by kernel_rfl) rfl ?_)) | ((fail_if_success (first | (with_reducible show LeG _ _) | (with_reducible show Lp _ _ _ _) | (with_reducible show Exists _) | (with_reducible show callX _ _ _ _ _) | (with_reducible show (_ : Int) ≤ _) | (with_reducible show (_ : Int) < _) | (with_reducible show (_ : Nat) ≤ _) | (with_reducible show (_ : Nat) < _))); (conv => whnf) <;> (first | exact OkR.mk (by kernel_rfl) | exact OkC.mk (by kernel_rfl) | refine Br.dec (fun hc => absurd rfl hc) (fun hc => ?_) | refine Sq.pr ?_ | refine Br.dec (fun hc => ?_) (fun hc => ?_) | refine Br.tt ?_ | refine Br.ff ?_ | refine Br.not ?_ | refine Br.mk (fun hc => ?_) (fun hc => ?_) | refine Opt.nn ?_ | refine Opt.ss ?_ | refine AltA.l ?_ | exact PV.leL_nil | refine PV.leL_cons ?_ ?_ | refine And.intro ?_ ?_ | refine ix_map (fun x hx => ?_) | refine exU8 ?_ | refine nilc (fun hn => ?_) ?_ | refine call_p (q1) (by kernel_rfl) rfl ?_ | refine call_p (q2) (by kernel_rfl) rfl ?_ | exact PV.le_refl _ | exact Nat.zero_lt_succ _ | exact Nat.le_of_ble_eq_true rfl | exact onesOf rfl | exact Or.inl rfl | exact noMem | exact onesOfP rfl | exact okAll rfl | exact okMap (fun _ => ⟨rfl, onesOfP rfl⟩) | exact nonz | refine imp0 (fun hpos => ?_) | refine fits_i64 ?_ ?_ | exact rfl | (with_reducible show LeG _ _) | (with_reducible show Lp _ _ _ _) | (with_reducible show Exists _) | (with_reducible show callX _ _ _ _ _)))) <;> (try (first | exact LeG.refl _ | omega | ((first | (with_reducible show (_ : Int) ≤ _) | (with_reducible show (_ : Int) < _) | (with_reducible show (_ : Nat) ≤ _) | (with_reducible show (_ : Nat) < _) | (with_reducible show ¬ _) | (with_reducible show (_ : Int) = _) | (with_reducible show (_ : Nat) = _)); (simp only [List.length_map, List.length_append, List.length_cons, List.length_nil, List.length_replicate, List.length_take, List.length_drop, List.length_set, Int.toNat_natCast, Int.reduceToNat] <;> omega)) | exact of_decide_eq_true rfl))
    refine Wpc.loopB (α := {i : Nat // i ≤ 9 ∧ ∀ n, n < i → (walkA S t n f [f]).2 = false}) mixed [0, 1, 2, 3, 4, 5, 6, 7, 16, 17, 18, 19, 20, 21, 22, 23, 34, 44, 56] (fun i => [(21, .p (eI i.1))]) (fun i => 9 - i.1) ⟨0, by omega, fun n h => absurd h (by omega)⟩ ?_ ?_
    · (first | refine Ent.ofA [] ?_ | refine Ent.ofC [] ?_) <;> (repeat' (first | exact trivial | refine HpLe.dd ?_ | refine HpLe.mk rfl (by simp) rfl (fun h => AObj.noConfusion h) ?_ ?_ | refine And.intro ?_ ?_ | exact VLe.refl _ | exact VLe.msl rfl | exact VLe.rsl rfl | exact VLe.csl rfl | exact VLe.cslr rfl | exact VLe.mp rfl | exact VLe.eptr rfl | exact VLe.ptr rfl | exact VLe.any _ | refine VLe.pe ?_ | refine VLe.agg ?_ | refine VLeL.cons ?_ ?_ | exact VLeL.nil | exact OLe.row _ _ | rfl | refine VLe.rsle rfl ?_ ?_ ?_ | refine OLe.rowe2 ?_ ?_ | refine OLe.mape ?_ ?_ | refine OLe.iter0 ?_ | refine OLe.itere ?_ ?_)) <;> try (first | (simp; done) | (congr 1; omega) | (congr 1; (first | (simp; done) | (simp; omega))))
    rintro ⟨i, hi, hq⟩
    have hi : i ≤ 9 := hi
    have hq : ∀ n, n < i → (walkA S t n f [f]).2 = false := hq
    by_cases hi8 : i ≤ 8
    · have hyes : (i : Int) ≤ 8 := by omega
      have hw := walk_calls S t hSl i f [] hi8 (by simp; omega)
      have hlen := walkA_len (S := S) (t := t) i f [f]
      have hsome := chainF_some (S := S) (t := t) (f := f) hi8 hq
      have hw : PCalls Try.prog 35 [eL S, eIs [f], eI t, eI (i : Int)] (.tup [eIs (walkA S t i f [f]).1, .bool (walkA S t i f [f]).2]) := hw
      have hnn : (walkA S t i f [f]).2 = false → ∀ n, n < i + 1 → (walkA S t n f [f]).2 = false := fun h n hn => by
        rcases Nat.lt_or_ge n i with h1 | h1
        · exact hq n h1
        · have : n = i := by omega
          subst this; exact h
      generalize walkA S t i f [f] = W at *
      obtain ⟨w, b⟩ := W
      repeat' (first | ((with_reducible show _ = _); exact rfl) | ((with_reducible show (_ : Nat) < _); exact Nat.zero_lt_succ _) | ((with_reducible show (_ : Nat) ≤ _); exact Nat.le_of_ble_eq_true rfl) | ((with_reducible show Exists _); refine exU8 ?_) | ((with_reducible show callX _ _ _ _ _); (first | refine call_p (hw) (by kernel_rfl) rfl ?_ | (refine call_z (hw) (by kernel_rfl) rfl ?_; (repeat' (first | exact PV.leL_nil | refine PV.leL_cons ?_ ?_ | refine And.intro ?_ ?_ | exact Nat.zero_lt_succ _ | exact Nat.le_of_ble_eq_true rfl | exact PV.le_refl _ | exact PV.le_nil _ _ _ | exact PV.le_clip _ _ _ | refine PV.le_agg ?_ | refine PV.le_tup ?_ | rfl)); fail_if_success (any_goals (refine PV.le_of ?_))))) | ((fail_if_success (first | (with_reducible show LeG _ _) | (with_reducible show Lp _ _ _ _) | (with_reducible show Exists _) | (with_reducible show callX _ _ _ _ _) | (with_reducible show (_ : Int) ≤ _) | (with_reducible show (_ : Int) < _) | (with_reducible show (_ : Nat) ≤ _) | (with_reducible show (_ : Nat) < _))); (conv => whnf) <;> (first | exact OkR.mk (by kernel_rfl) | exact OkC.mk (by kernel_rfl) | refine Br.dec (fun hc => ?_) (fun hc => absurd hyes hc) | refine Sq.pr ?_ | refine Br.dec (fun hc => ?_) (fun hc => ?_) | refine Br.tt ?_ | refine Br.ff ?_ | refine Br.not ?_ | refine Br.mk (fun hc => ?_) (fun hc => ?_) | refine Opt.nn ?_ | refine Opt.ss ?_ | refine AltA.l ?_ | exact PV.leL_nil | refine PV.leL_cons ?_ ?_ | refine And.intro ?_ ?_ | refine ix_map (fun x hx => ?_) | refine exU8 ?_ | refine nilc (fun hn => ?_) ?_ | refine call_p (hw) (by kernel_rfl) rfl ?_ | (refine call_z (hw) (by kernel_rfl) rfl ?_; (repeat' (first | exact PV.leL_nil | refine PV.leL_cons ?_ ?_ | refine And.intro ?_ ?_ | exact Nat.zero_lt_succ _ | exact Nat.le_of_ble_eq_true rfl | exact PV.le_refl _ | exact PV.le_nil _ _ _ | exact PV.le_clip _ _ _ | refine PV.le_agg ?_ | refine PV.le_tup ?_ | rfl)); fail_if_success (any_goals (refine PV.le_of ?_))) | exact PV.le_refl _ | exact Nat.zero_lt_succ _ | exact Nat.le_of_ble_eq_true rfl | exact onesOf rfl | exact Or.inl rfl | exact noMem | exact onesOfP rfl | exact okAll rfl | exact okMap (fun _ => ⟨rfl, onesOfP rfl⟩) | exact nonz | refine imp0 (fun hpos => ?_) | refine fits_i64 ?_ ?_ | exact rfl | (with_reducible show LeG _ _) | (with_reducible show Lp _ _ _ _) | (with_reducible show Exists _) | (with_reducible show callX _ _ _ _ _)))) <;> (try (first | exact LeG.refl _ | omega | ((first | (with_reducible show (_ : Int) ≤ _) | (with_reducible show (_ : Int) < _) | (with_reducible show (_ : Nat) ≤ _) | (with_reducible show (_ : Nat) < _) | (with_reducible show ¬ _) | (with_reducible show (_ : Int) = _) | (with_reducible show (_ : Nat) = _)); (simp only [List.length_map, List.length_append, List.length_cons, List.length_nil, List.length_replicate, List.length_take, List.length_drop, List.length_set, Int.toNat_natCast, Int.reduceToNat] <;> omega)) | exact of_decide_eq_true rfl))
      · have hcb : b = true := by assumption
        rw [hsome hcb]
        exact LeG.refl _
      · have hcb : b = false := by assumption
        refine ⟨⟨i + 1, by omega, hnn hcb⟩, by show 9 - (i + 1) < 9 - i; omega, ?_⟩
        (first | refine Ent.ofA [] ?_ | refine Ent.ofC [] ?_) <;> (repeat' (first | exact trivial | refine HpLe.dd ?_ | refine HpLe.mk rfl (by simp) rfl (fun h => AObj.noConfusion h) ?_ ?_ | refine And.intro ?_ ?_ | exact VLe.refl _ | exact VLe.msl rfl | exact VLe.rsl rfl | exact VLe.csl rfl | exact VLe.cslr rfl | exact VLe.mp rfl | exact VLe.eptr rfl | exact VLe.ptr rfl | exact VLe.any _ | refine VLe.pe ?_ | refine VLe.agg ?_ | refine VLeL.cons ?_ ?_ | exact VLeL.nil | exact OLe.row _ _ | rfl | refine VLe.rsle rfl ?_ ?_ ?_ | refine OLe.rowe2 ?_ ?_ | refine OLe.mape ?_ ?_ | refine OLe.iter0 ?_ | refine OLe.itere ?_ ?_)) <;> try (first | (simp; done) | (congr 1; omega) | (congr 1; (first | (simp; done) | (simp; omega))))
    · have h9 : i = 9 := by omega
      subst h9
      have hno : ¬ ((9 : Nat) : Int) ≤ 8 := by omega
      rw [chainF_none hq]
      repeat' (first | ((with_reducible show _ = _); exact rfl) | ((with_reducible show (_ : Nat) < _); exact Nat.zero_lt_succ _) | ((with_reducible show (_ : Nat) ≤ _); exact Nat.le_of_ble_eq_true rfl) | ((with_reducible show Exists _); refine exU8 ?_) | ((fail_if_success (first | (with_reducible show LeG _ _) | (with_reducible show Lp _ _ _ _) | (with_reducible show Exists _) | (with_reducible show callX _ _ _ _ _) | (with_reducible show (_ : Int) ≤ _) | (with_reducible show (_ : Int) < _) | (with_reducible show (_ : Nat) ≤ _) | (with_reducible show (_ : Nat) < _))); (conv => whnf) <;> (first | exact OkR.mk (by kernel_rfl) | exact OkC.mk (by kernel_rfl) | refine Br.dec (fun hc => absurd hc hno) (fun hc => ?_) | refine Sq.pr ?_ | refine Br.dec (fun hc => ?_) (fun hc => ?_) | refine Br.tt ?_ | refine Br.ff ?_ | refine Br.not ?_ | refine Br.mk (fun hc => ?_) (fun hc => ?_) | refine Opt.nn ?_ | refine Opt.ss ?_ | refine AltA.l ?_ | exact PV.leL_nil | refine PV.leL_cons ?_ ?_ | refine And.intro ?_ ?_ | refine ix_map (fun x hx => ?_) | refine exU8 ?_ | refine nilc (fun hn => ?_) ?_ | exact PV.le_refl _ | exact Nat.zero_lt_succ _ | exact Nat.le_of_ble_eq_true rfl | exact onesOf rfl | exact Or.inl rfl | exact noMem | exact onesOfP rfl | exact okAll rfl | exact okMap (fun _ => ⟨rfl, onesOfP rfl⟩) | exact nonz | refine imp0 (fun hpos => ?_) | refine fits_i64 ?_ ?_ | exact rfl | (with_reducible show LeG _ _) | (with_reducible show Lp _ _ _ _) | (with_reducible show Exists _) | (with_reducible show callX _ _ _ _ _)))) <;> (try (first | exact LeG.refl _ | omega | ((first | (with_reducible show (_ : Int) ≤ _) | (with_reducible show (_ : Int) < _) | (with_reducible show (_ : Nat) ≤ _) | (with_reducible show (_ : Nat) < _) | (with_reducible show ¬ _) | (with_reducible show (_ : Int) = _) | (with_reducible show (_ : Nat) = _)); (simp only [List.length_map, List.length_append, List.length_cons, List.length_nil, List.length_replicate, List.length_take, List.length_drop, List.length_set, Int.toNat_natCast, Int.reduceToNat] <;> omega)) | exact of_decide_eq_true rfl))
      exact LeG.mk (PV.le_tup (PV.leL_cons (PV.le_nil _ _ _) (PV.leL_refl _)))
  · rw [if_neg hz]
    refine PCalls.of (N := 58) (res := [.tmp 16, .tmp 17, .tmp 18]) mixed Try.func17 rfl rfl rfl (by kernel_rfl) (by simp) [0, 1, 2, 3, 4, 5, 6, 7, 16, 17, 18, 19, 20, 21, 22, 23, 34, 44, 56] ?_
    repeat' (first | ((with_reducible show _ = _); exact rfl) | ((with_reducible show (_ : Nat) < _); exact Nat.zero_lt_succ _) | ((with_reducible show (_ : Nat) ≤ _); exact Nat.le_of_ble_eq_true rfl) | ((with_reducible show Exists _); refine exU8 ?_) | ((with_reducible show callX _ _ _ _ _); (first | refine call_p (q1) (by kernel_rfl) rfl ?_)) | ((fail_if_success (first | (with_reducible show LeG _ _) | (with_reducible show Lp _ _ _ _) | (with_reducible show Exists _) | (with_reducible show callX _ _ _ _ _) | (with_reducible show (_ : Int) ≤ _) | (with_reducible show (_ : Int) < _) | (with_reducible show (_ : Nat) ≤ _) | (with_reducible show (_ : Nat) < _))); (conv => whnf) <;> (first | exact OkR.mk (by kernel_rfl) | exact OkC.mk (by kernel_rfl) | refine Br.dec (fun hc => ?_) (fun hc => absurd hz hc) | refine Sq.pr ?_ | refine Br.dec (fun hc => ?_) (fun hc => ?_) | refine Br.tt ?_ | refine Br.ff ?_ | refine Br.not ?_ | refine Br.mk (fun hc => ?_) (fun hc => ?_) | refine Opt.nn ?_ | refine Opt.ss ?_ | refine AltA.l ?_ | exact PV.leL_nil | refine PV.leL_cons ?_ ?_ | refine And.intro ?_ ?_ | refine ix_map (fun x hx => ?_) | refine exU8 ?_ | refine nilc (fun hn => ?_) ?_ | refine call_p (q1) (by kernel_rfl) rfl ?_ | exact PV.le_refl _ | exact Nat.zero_lt_succ _ | exact Nat.le_of_ble_eq_true rfl | exact onesOf rfl | exact Or.inl rfl | exact noMem | exact onesOfP rfl | exact okAll rfl | exact okMap (fun _ => ⟨rfl, onesOfP rfl⟩) | exact nonz | refine imp0 (fun hpos => ?_) | refine fits_i64 ?_ ?_ | exact rfl | (with_reducible show LeG _ _) | (with_reducible show Lp _ _ _ _) | (with_reducible show Exists _) | (with_reducible show callX _ _ _ _ _)))) <;> (try (first | exact LeG.refl _ | omega | ((first | (with_reducible show (_ : Int) ≤ _) | (with_reducible show (_ : Int) < _) | (with_reducible show (_ : Nat) ≤ _) | (with_reducible show (_ : Nat) < _) | (with_reducible show ¬ _) | (with_reducible show (_ : Int) = _) | (with_reducible show (_ : Nat) = _)); (simp only [List.length_map, List.length_append, List.length_cons, List.length_nil, List.length_replicate, List.length_take, List.length_drop, List.length_set, Int.toNat_natCast, Int.reduceToNat] <;> omega)) | exact of_decide_eq_true rfl))
    exact LeG.mk (PV.le_tup (PV.leL_cons (PV.le_nil _ _ _) (PV.leL_refl _)))
end Go.Proofs.Ytghgjobknmddgaa

namespace Go.Proofs.Ytghgjobknmddgaa
open Go Go.Sg
set_option maxRecDepth 100000
theorem byF_none {F : List Dp} {n : Int} (h : ∀ (j : Nat) y, j < F.length → F[j]? = some y → ¬ y.no = n) : aget n (byF F) = none := by
  cases ha : aget n (byF F) with
  | none => rfl
  | some x =>
    have := byF_mem (F := F) (n := n) (x := x) F.length (by rw [List.take_length]; exact ha)
    obtain ⟨j, hj⟩ := List.getElem?_of_mem this.1
    exact absurd this.2 (h j x (List.getElem?_eq_some_iff.1 hj).1 hj)
theorem byF_some {F : List Dp} (hs : F.Pairwise (fun a b => a.no < b.no)) {k : Nat} {x : Dp} (hk : F[k]? = some x) : aget x.no (byF F) = some x := by
  have gen : ∀ i, k < i → aget x.no (byF (F.take i)) = some x := by
    intro i
    induction i with
    | zero => intro h; omega
    | succ i ih =>
      intro h
      cases hy : F[i]? with
      | none =>
        have : F.take (i + 1) = F.take i := by rw [List.take_add_one, hy]; simp
        rw [this]
        have h1 := (List.getElem?_eq_some_iff.1 hk).1
        have h2 := List.getElem?_eq_none_iff.1 hy
        exact ih (by omega)
      | some y =>
        rw [byF_take hy, aget_put]
        by_cases he : k = i
        · subst he
          rw [hk] at hy; injection hy with hy; subst hy
          rw [if_pos rfl]
        · obtain ⟨g1, g2⟩ := List.getElem?_eq_some_iff.1 hk
          obtain ⟨g3, g4⟩ := List.getElem?_eq_some_iff.1 hy
          have hlt := List.pairwise_iff_getElem.1 hs k i g1 g3 (by omega)
          rw [g2, g4] at hlt
          rw [if_neg (by omega)]
          exact ih (by omega)
  have := gen F.length (List.getElem?_eq_some_iff.1 hk).1
  rwa [List.take_length] at this
end Go.Proofs.Ytghgjobknmddgaa

namespace Go.Proofs.Ytghgjobknmddgaa
open Go Go.Sg
set_option maxRecDepth 100000
set_option maxHeartbeats 20000000
theorem covL_srt {l : List Dp} (q : Qn) (hz : chkA l = 0) : (covL q l).Pairwise (fun a b => a.no < b.no) :=
  List.Pairwise.sublist (List.filter_sublist) (chkA_srt hz).2.2
theorem rproves_calls (l : List Dp) (f t : Int) (q : Qn) (p : List Int) (hl : l.length < 1000000) : PCalls Try.prog 19 [eL l, eI f, eI t, eI q.off, eI q.kind, eI q.val, eI q.tm, eI q.known, eIs p] (.tup [.bool (provA l f t q p).1, eI (provA l f t q p).2]) := by
  have q1 := rError_calls l f t q hl
  unfold provA
  by_cases hz : askA l f t q = 0
  · have hck : chkA l = 0 := Classical.byContradiction fun hn => by
      unfold askA at hz
      simp_all
    rw [hz] at q1
    rw [if_pos hz]
    have q2 := rcovering_calls q l hl
    rw [← covL_eq q hck] at q2
    have hSl : (covL q l).length < 1000000 := Nat.lt_of_le_of_lt (List.length_filter_le _ _) hl
    have hs := covL_srt q hck
    generalize covL q l = S at *
    by_cases hp : p.length ≤ 8
    · rw [if_pos hp]
      have hp9 : ¬ (8 : Int) < ((p.map eI).length : Int) := by rw [List.length_map]; omega
      refine PCalls.of (N := 114) (res := [.tmp 18, .tmp 19]) mixed Try.func19 rfl rfl rfl (by kernel_rfl) (by simp) [0, 1, 2, 3, 4, 5, 6, 7, 8, 18, 19, 20, 21, 22, 23, 24, 35, 39, 52, 70, 97] ?_
      repeat' (first | ((with_reducible show _ = _); exact rfl) | ((with_reducible show (_ : Nat) < _); exact Nat.zero_lt_succ _) | ((with_reducible show (_ : Nat) ≤ _); exact Nat.le_of_ble_eq_true rfl) | ((with_reducible show Exists _); refine exU8 ?_) | ((with_reducible show callX _ _ _ _ _); (first | refine call_p (q1) (by kernel_rfl) rfl ?_ | refine call_p (q2) (by kernel_rfl) rfl ?_)) | ((fail_if_success (first | (with_reducible show LeG _ _) | (with_reducible show Lp _ _ _ _) | (with_reducible show Exists _) | (with_reducible show callX _ _ _ _ _) | (with_reducible show (_ : Int) ≤ _) | (with_reducible show (_ : Int) < _) | (with_reducible show (_ : Nat) ≤ _) | (with_reducible show (_ : Nat) < _))); (conv => whnf) <;> (first | exact OkR.mk (by kernel_rfl) | exact OkC.mk (by kernel_rfl) | refine Br.dec (fun hc => absurd hc hp9) (fun hc => ?_) | refine Sq.pr ?_ | refine Br.dec (fun hc => ?_) (fun hc => ?_) | refine Br.tt ?_ | refine Br.ff ?_ | refine Br.not ?_ | refine Br.mk (fun hc => ?_) (fun hc => ?_) | refine Opt.nn ?_ | refine Opt.ss ?_ | refine AltA.l ?_ | exact PV.leL_nil | refine PV.leL_cons ?_ ?_ | refine And.intro ?_ ?_ | refine ix_map (fun x hx => ?_) | refine exU8 ?_ | refine nilc (fun hn => ?_) ?_ | refine call_p (q1) (by kernel_rfl) rfl ?_ | refine call_p (q2) (by kernel_rfl) rfl ?_ | exact PV.le_refl _ | exact Nat.zero_lt_succ _ | exact Nat.le_of_ble_eq_true rfl | exact onesOf rfl | exact Or.inl rfl | exact noMem | exact onesOfP rfl | exact okAll rfl | exact okMap (fun _ => ⟨rfl, onesOfP rfl⟩) | exact nonz | refine imp0 (fun hpos => ?_) | refine fits_i64 ?_ ?_ | exact rfl | (with_reducible show LeG _ _) | (with_reducible show Lp _ _ _ _) | (with_reducible show Exists _) | (with_reducible show callX _ _ _ _ _)))) <;> (try (first | exact LeG.refl _ | omega | ((first | (with_reducible show (_ : Int) ≤ _) | (with_reducible show (_ : Int) < _) | (with_reducible show (_ : Nat) ≤ _) | (with_reducible show (_ : Nat) < _) | (with_reducible show ¬ _) | (with_reducible show (_ : Int) = _) | (with_reducible show (_ : Nat) = _)); (simp only [List.length_map, List.length_append, List.length_cons, List.length_nil, List.length_replicate, List.length_take, List.length_drop, List.length_set, Int.toNat_natCast, Int.reduceToNat] <;> omega)) | exact of_decide_eq_true rfl))
      generalize hB : byF S = B at *
      generalize hR : provF B t p f [(f, true)] = R at *
      refine Wpc.loopA (α := {x : Nat × List Int × Int // x.1 ≤ p.length ∧ x.2.1.length = x.1 ∧ ∃ m : List (Int × Bool), (∀ u, (aget u m).getD false = decide (u ∈ x.2.1 ++ [x.2.2])) ∧ provF B t (p.drop x.1) x.2.2 m = R}) mixed [0, 1, 2, 3, 4, 5, 6, 7, 8, 18, 19, 20, 21, 22, 23, 24, 35, 39, 52, 70, 97] (fun x => [(22, .rsl 1664 1 0 (x.1.2.1.length + 1)), (23, .p (eI x.1.1))]) (fun x => [(1664, .row 1 ((x.1.2.1 ++ [x.1.2.2]).map eI))]) (fun _ => 0) (fun x => p.length - x.1.1) ⟨(0, [], f), by show 0 ≤ _; omega, rfl, [(f, true)], fun u => by simp [aget]; split <;> simp_all, hR⟩ ?_ ?_
      · (first | refine Ent.ofA [] ?_ | refine Ent.ofC [] ?_) <;> (repeat' (first | exact trivial | refine HpLe.dd ?_ | refine HpLe.mk rfl (by simp) rfl (fun h => AObj.noConfusion h) ?_ ?_ | refine And.intro ?_ ?_ | exact VLe.refl _ | exact VLe.msl rfl | exact VLe.rsl rfl | exact VLe.csl rfl | exact VLe.cslr rfl | exact VLe.mp rfl | exact VLe.eptr rfl | exact VLe.ptr rfl | exact VLe.any _ | refine VLe.pe ?_ | refine VLe.agg ?_ | refine VLeL.cons ?_ ?_ | exact VLeL.nil | exact OLe.row _ _ | rfl | refine VLe.rsle rfl ?_ ?_ ?_ | refine OLe.rowe2 ?_ ?_ | refine OLe.mape ?_ ?_ | refine OLe.iter0 ?_ | refine OLe.itere ?_ ?_)) <;> try (first | (simp; done) | (congr 1; omega) | (congr 1; (first | (simp; done) | (simp; omega))))
      rintro ⟨⟨i, ps, g⟩, hi, hpl, m, hm, hq⟩
      have hi : i ≤ p.length := hi
      have hpl : ps.length = i := hpl
      have hm : ∀ u, (aget u m).getD false = decide (u ∈ ps ++ [g]) := hm
      have hq : provF B t (p.drop i) g m = R := hq
      cases hxi : p[i]? with
      | none =>
        have hge : p.length ≤ i := List.getElem?_eq_none_iff.1 hxi
        have hno : ¬ ((i : Int) < ((p.map eI).length : Int)) := by rw [List.length_map]; omega
        have hd : p.drop i = [] := List.drop_eq_nil_of_le hge
        rw [hd] at hq
        have hq : decide (g = t) = R := hq
        have hix : (ps ++ [g])[0 + (((ps.length + 1 : Nat) : Int) - 1).toNat]? = some g := by simp
        repeat' (first | ((with_reducible show _ = _); exact rfl) | ((with_reducible show (_ : Nat) < _); exact Nat.zero_lt_succ _) | ((with_reducible show (_ : Nat) ≤ _); exact Nat.le_of_ble_eq_true rfl) | ((with_reducible show Exists _); refine exU8 ?_) | ((fail_if_success (first | (with_reducible show LeG _ _) | (with_reducible show Lp _ _ _ _) | (with_reducible show Exists _) | (with_reducible show callX _ _ _ _ _) | (with_reducible show (_ : Int) ≤ _) | (with_reducible show (_ : Int) < _) | (with_reducible show (_ : Nat) ≤ _) | (with_reducible show (_ : Nat) < _))); (conv => whnf) <;> (first | exact OkR.mk (by kernel_rfl) | exact OkC.mk (by kernel_rfl) | refine Br.dec (fun hc => absurd hc hno) (fun hc => ?_) | refine ix_at hix ?_ | refine Sq.pr ?_ | refine Br.dec (fun hc => ?_) (fun hc => ?_) | refine Br.tt ?_ | refine Br.ff ?_ | refine Br.not ?_ | refine Br.mk (fun hc => ?_) (fun hc => ?_) | refine Opt.nn ?_ | refine Opt.ss ?_ | refine AltA.l ?_ | exact PV.leL_nil | refine PV.leL_cons ?_ ?_ | refine And.intro ?_ ?_ | refine ix_map (fun x hx => ?_) | refine exU8 ?_ | refine nilc (fun hn => ?_) ?_ | exact PV.le_refl _ | exact Nat.zero_lt_succ _ | exact Nat.le_of_ble_eq_true rfl | exact onesOf rfl | exact Or.inl rfl | exact noMem | exact onesOfP rfl | exact okAll rfl | exact okMap (fun _ => ⟨rfl, onesOfP rfl⟩) | exact nonz | refine imp0 (fun hpos => ?_) | refine fits_i64 ?_ ?_ | exact rfl | (with_reducible show LeG _ _) | (with_reducible show Lp _ _ _ _) | (with_reducible show Exists _) | (with_reducible show callX _ _ _ _ _)))) <;> (try (first | exact LeG.refl _ | omega | ((first | (with_reducible show (_ : Int) ≤ _) | (with_reducible show (_ : Int) < _) | (with_reducible show (_ : Nat) ≤ _) | (with_reducible show (_ : Nat) < _) | (with_reducible show ¬ _) | (with_reducible show (_ : Int) = _) | (with_reducible show (_ : Nat) = _)); (simp only [List.length_map, List.length_append, List.length_cons, List.length_nil, List.length_replicate, List.length_take, List.length_drop, List.length_set, Int.toNat_natCast, Int.reduceToNat] <;> omega)) | exact of_decide_eq_true rfl))
        rw [← hq]; exact LeG.refl _
      | some no =>
        have hlt : i < p.length := (List.getElem?_eq_some_iff.1 hxi).1
        have hyes : ((i : Int) < ((p.map eI).length : Int)) := by rw [List.length_map]; omega
        have hd : p.drop i = no :: p.drop (i + 1) := by
          rw [List.drop_eq_getElem_cons hlt, (List.getElem?_eq_some_iff.1 hxi).2]
        repeat' (first | ((with_reducible show _ = _); exact rfl) | ((with_reducible show (_ : Nat) < _); exact Nat.zero_lt_succ _) | ((with_reducible show (_ : Nat) ≤ _); exact Nat.le_of_ble_eq_true rfl) | ((with_reducible show Exists _); refine exU8 ?_) | ((fail_if_success (first | (with_reducible show LeG _ _) | (with_reducible show Lp _ _ _ _) | (with_reducible show Exists _) | (with_reducible show callX _ _ _ _ _) | (with_reducible show (_ : Int) ≤ _) | (with_reducible show (_ : Int) < _) | (with_reducible show (_ : Nat) ≤ _) | (with_reducible show (_ : Nat) < _))); (conv => whnf) <;> (first | exact OkR.mk (by kernel_rfl) | exact OkC.mk (by kernel_rfl) | refine Br.dec (fun hc => ?_) (fun hc => absurd hyes hc) | refine Sq.pr ?_ | refine Br.dec (fun hc => ?_) (fun hc => ?_) | refine Br.tt ?_ | refine Br.ff ?_ | refine Br.not ?_ | refine Br.mk (fun hc => ?_) (fun hc => ?_) | refine Opt.nn ?_ | refine Opt.ss ?_ | refine AltA.l ?_ | exact PV.leL_nil | refine PV.leL_cons ?_ ?_ | refine And.intro ?_ ?_ | refine ix_map (fun x hx => ?_) | refine exU8 ?_ | refine nilc (fun hn => ?_) ?_ | exact PV.le_refl _ | exact Nat.zero_lt_succ _ | exact Nat.le_of_ble_eq_true rfl | exact onesOf rfl | exact Or.inl rfl | exact noMem | exact onesOfP rfl | exact okAll rfl | exact okMap (fun _ => ⟨rfl, onesOfP rfl⟩) | exact nonz | refine imp0 (fun hpos => ?_) | refine fits_i64 ?_ ?_ | exact rfl | (with_reducible show LeG _ _) | (with_reducible show Lp _ _ _ _) | (with_reducible show Exists _) | (with_reducible show callX _ _ _ _ _)))) <;> (try (first | exact LeG.refl _ | omega | ((first | (with_reducible show (_ : Int) ≤ _) | (with_reducible show (_ : Int) < _) | (with_reducible show (_ : Nat) ≤ _) | (with_reducible show (_ : Nat) < _) | (with_reducible show ¬ _) | (with_reducible show (_ : Int) = _) | (with_reducible show (_ : Nat) = _)); (simp only [List.length_map, List.length_append, List.length_cons, List.length_nil, List.length_replicate, List.length_take, List.length_drop, List.length_set, Int.toNat_natCast, Int.reduceToNat] <;> omega)) | exact of_decide_eq_true rfl))
        refine Wpc.loopB (α := {k : Nat // k ≤ S.length ∧ ∀ (j : Nat) y, j < k → S[j]? = some y → ¬ y.no = no}) mixed [0, 1, 2, 3, 4, 5, 6, 7, 8, 18, 19, 20, 21, 22, 23, 24, 35, 39, 52, 70, 97] (fun k => [(24, .p (eI k.1))]) (fun k => S.length - k.1) ⟨0, by omega, fun j z h => absurd h (by omega)⟩ ?_ ?_
        · (first | refine Ent.ofA [] ?_ | refine Ent.ofC [] ?_) <;> (repeat' (first | exact trivial | refine HpLe.dd ?_ | refine HpLe.mk rfl (by simp) rfl (fun h => AObj.noConfusion h) ?_ ?_ | refine And.intro ?_ ?_ | exact VLe.refl _ | exact VLe.msl rfl | exact VLe.rsl rfl | exact VLe.csl rfl | exact VLe.cslr rfl | exact VLe.mp rfl | exact VLe.eptr rfl | exact VLe.ptr rfl | exact VLe.any _ | refine VLe.pe ?_ | refine VLe.agg ?_ | refine VLeL.cons ?_ ?_ | exact VLeL.nil | exact OLe.row _ _ | rfl | refine VLe.rsle rfl ?_ ?_ ?_ | refine OLe.rowe2 ?_ ?_ | refine OLe.mape ?_ ?_ | refine OLe.iter0 ?_ | refine OLe.itere ?_ ?_)) <;> try (first | (simp; done) | (congr 1; omega) | (congr 1; (first | (simp; done) | (simp; omega))))
        rintro ⟨k, hk, hkq⟩
        have hk : k ≤ S.length := hk
        have hkq : ∀ (j : Nat) y, j < k → S[j]? = some y → ¬ y.no = no := hkq
        cases hxk : S[k]? with
        | none =>
          have hgek : S.length ≤ k := List.getElem?_eq_none_iff.1 hxk
          have hnok : ¬ ((k : Int) < ((S.map eA).length : Int)) := by rw [List.length_map]; omega
          have hek : (k : Int) = ((S.map eA).length : Int) := by rw [List.length_map]; omega
          repeat' (first | ((with_reducible show _ = _); exact rfl) | ((with_reducible show (_ : Nat) < _); exact Nat.zero_lt_succ _) | ((with_reducible show (_ : Nat) ≤ _); exact Nat.le_of_ble_eq_true rfl) | ((with_reducible show Exists _); refine exU8 ?_) | ((fail_if_success (first | (with_reducible show LeG _ _) | (with_reducible show Lp _ _ _ _) | (with_reducible show Exists _) | (with_reducible show callX _ _ _ _ _) | (with_reducible show (_ : Int) ≤ _) | (with_reducible show (_ : Int) < _) | (with_reducible show (_ : Nat) ≤ _) | (with_reducible show (_ : Nat) < _))); (conv => whnf) <;> (first | exact OkR.mk (by kernel_rfl) | exact OkC.mk (by kernel_rfl) | refine Br.dec (fun hc => absurd hc hnok) (fun hc => ?_) | refine Br.dec (fun hc => ?_) (fun hc => absurd hek hc) | refine Br.tt ?_ | refine Br.ff ?_ | refine Sq.pr ?_ | refine Br.dec (fun hc => ?_) (fun hc => ?_) | refine Br.tt ?_ | refine Br.ff ?_ | refine Br.not ?_ | refine Br.mk (fun hc => ?_) (fun hc => ?_) | refine Opt.nn ?_ | refine Opt.ss ?_ | refine AltA.l ?_ | exact PV.leL_nil | refine PV.leL_cons ?_ ?_ | refine And.intro ?_ ?_ | refine ix_map (fun x hx => ?_) | refine exU8 ?_ | refine nilc (fun hn => ?_) ?_ | exact PV.le_refl _ | exact Nat.zero_lt_succ _ | exact Nat.le_of_ble_eq_true rfl | exact onesOf rfl | exact Or.inl rfl | exact noMem | exact onesOfP rfl | exact okAll rfl | exact okMap (fun _ => ⟨rfl, onesOfP rfl⟩) | exact nonz | refine imp0 (fun hpos => ?_) | refine fits_i64 ?_ ?_ | exact rfl | (with_reducible show LeG _ _) | (with_reducible show Lp _ _ _ _) | (with_reducible show Exists _) | (with_reducible show callX _ _ _ _ _)))) <;> (try (first | exact LeG.refl _ | omega | ((first | (with_reducible show (_ : Int) ≤ _) | (with_reducible show (_ : Int) < _) | (with_reducible show (_ : Nat) ≤ _) | (with_reducible show (_ : Nat) < _) | (with_reducible show ¬ _) | (with_reducible show (_ : Int) = _) | (with_reducible show (_ : Nat) = _)); (simp only [List.length_map, List.length_append, List.length_cons, List.length_nil, List.length_replicate, List.length_take, List.length_drop, List.length_set, Int.toNat_natCast, Int.reduceToNat] <;> omega)) | exact of_decide_eq_true rfl))
          have hb0 : aget no B = none := by rw [← hB]; exact byF_none (fun j z hj hz => hkq j z (by omega) hz)
          rw [hd] at hq; unfold provF at hq; rw [hb0] at hq
          have hq : false = R := hq
          rw [← hq]; exact LeG.refl _
        | some y =>
          have hltk : k < S.length := (List.getElem?_eq_some_iff.1 hxk).1
          have hyesk : ((k : Int) < ((S.map eA).length : Int)) := by rw [List.length_map]; omega
          have hix : (ps ++ [g])[0 + ((i : Nat) : Int).toNat]? = some g := by rw [← hpl]; simp
          have hnek : ¬ (k : Int) = ((S.map eA).length : Int) := by rw [List.length_map]; omega
          repeat' (first | ((with_reducible show _ = _); exact rfl) | ((with_reducible show (_ : Nat) < _); exact Nat.zero_lt_succ _) | ((with_reducible show (_ : Nat) ≤ _); exact Nat.le_of_ble_eq_true rfl) | ((with_reducible show Exists _); refine exU8 ?_) | ((fail_if_success (first | (with_reducible show LeG _ _) | (with_reducible show Lp _ _ _ _) | (with_reducible show Exists _) | (with_reducible show callX _ _ _ _ _) | (with_reducible show (_ : Int) ≤ _) | (with_reducible show (_ : Int) < _) | (with_reducible show (_ : Nat) ≤ _) | (with_reducible show (_ : Nat) < _))); (conv => whnf) <;> (first | exact OkR.mk (by kernel_rfl) | exact OkC.mk (by kernel_rfl) | refine Br.dec (fun hc => ?_) (fun hc => absurd hyesk hc) | refine Br.dec (fun hc => absurd hc hnek) (fun hc => ?_) | refine Br.tt ?_ | refine Br.ff ?_ | refine ix_at hxi ?_ | refine ix_at hxk ?_ | refine ix_at hix ?_ | refine Sq.pr ?_ | refine Br.dec (fun hc => ?_) (fun hc => ?_) | refine Br.tt ?_ | refine Br.ff ?_ | refine Br.not ?_ | refine Br.mk (fun hc => ?_) (fun hc => ?_) | refine Opt.nn ?_ | refine Opt.ss ?_ | refine AltA.l ?_ | exact PV.leL_nil | refine PV.leL_cons ?_ ?_ | refine And.intro ?_ ?_ | refine ix_map (fun x hx => ?_) | refine exU8 ?_ | refine nilc (fun hn => ?_) ?_ | exact PV.le_refl _ | exact Nat.zero_lt_succ _ | exact Nat.le_of_ble_eq_true rfl | exact onesOf rfl | exact Or.inl rfl | exact noMem | exact onesOfP rfl | exact okAll rfl | exact okMap (fun _ => ⟨rfl, onesOfP rfl⟩) | exact nonz | refine imp0 (fun hpos => ?_) | refine fits_i64 ?_ ?_ | exact rfl | (with_reducible show LeG _ _) | (with_reducible show Lp _ _ _ _) | (with_reducible show Exists _) | (with_reducible show callX _ _ _ _ _)))) <;> (try (first | exact LeG.refl _ | omega | ((first | (with_reducible show (_ : Int) ≤ _) | (with_reducible show (_ : Int) < _) | (with_reducible show (_ : Nat) ≤ _) | (with_reducible show (_ : Nat) < _) | (with_reducible show ¬ _) | (with_reducible show (_ : Int) = _) | (with_reducible show (_ : Nat) = _)); (simp only [List.length_map, List.length_append, List.length_cons, List.length_nil, List.length_replicate, List.length_take, List.length_drop, List.length_set, Int.toNat_natCast, Int.reduceToNat] <;> omega)) | exact of_decide_eq_true rfl))
          · refine ⟨⟨k + 1, hltk, fun j z hj hz => (by
              rcases Nat.lt_or_ge j k with h1 | h1
              · exact hkq j z h1 hz
              · have : j = k := by omega
                subst this
                rw [hxk] at hz; injection hz with hz; subst hz; assumption)⟩, by show S.length - (k + 1) < S.length - k; omega, ?_⟩
            (first | refine Ent.ofA [] ?_ | refine Ent.ofC [] ?_) <;> (repeat' (first | exact trivial | refine HpLe.dd ?_ | refine HpLe.mk rfl (by simp) rfl (fun h => AObj.noConfusion h) ?_ ?_ | refine And.intro ?_ ?_ | exact VLe.refl _ | exact VLe.msl rfl | exact VLe.rsl rfl | exact VLe.csl rfl | exact VLe.cslr rfl | exact VLe.mp rfl | exact VLe.eptr rfl | exact VLe.ptr rfl | exact VLe.any _ | refine VLe.pe ?_ | refine VLe.agg ?_ | refine VLeL.cons ?_ ?_ | exact VLeL.nil | exact OLe.row _ _ | rfl | refine VLe.rsle rfl ?_ ?_ ?_ | refine OLe.rowe2 ?_ ?_ | refine OLe.mape ?_ ?_ | refine OLe.iter0 ?_ | refine OLe.itere ?_ ?_)) <;> try (first | (simp; done) | (congr 1; omega) | (congr 1; (first | (simp; done) | (simp; omega))))
          · have hyn : y.no = no := Classical.not_not.1 (by assumption)
            have hb0 : aget no B = some y := by rw [← hB, ← hyn]; exact byF_some hs hxk
            rw [hd] at hq; unfold provF at hq; rw [hb0] at hq
            have hq : (if y.frm = g then _ else false) = R := hq
            rw [if_neg (by assumption)] at hq
            rw [← hq]; exact LeG.refl _
          · have hyn : y.no = no := Classical.not_not.1 (by assumption)
            have hyf : y.frm = g := Classical.not_not.1 (by assumption)
            have hb0 : aget no B = some y := by rw [← hB, ← hyn]; exact byF_some hs hxk
            have hh := rhas_calls (ps ++ [g]) y.to (by simp; omega)
            have hmy := hm y.to
            refine call_z hh (by kernel_rfl) rfl ?_
            repeat' (first | exact PV.leL_nil | refine PV.leL_cons ?_ ?_ | refine And.intro ?_ ?_ | exact OkR.mk (by kernel_rfl) | exact Nat.zero_lt_succ _ | exact Nat.le_of_ble_eq_true rfl | exact PV.le_refl _ )
            · exact rfl
            · show 0 + (ps.length + 1) ≤ ((ps ++ [g]).map eI).length
              simp
            · refine PV.le_of ?_
              show PV.sl 1 false _ = PV.sl 1 false _
              congr 1
              show List.take (ps.length + 1) (List.drop 0 ((ps ++ [g]).map eI)) = (ps ++ [g]).map eI
              rw [List.drop_zero, List.take_of_length_le (by simp)]
            · repeat' (first | ((with_reducible show _ = _); exact rfl) | ((with_reducible show (_ : Nat) < _); exact Nat.zero_lt_succ _) | ((with_reducible show (_ : Nat) ≤ _); exact Nat.le_of_ble_eq_true rfl) | ((with_reducible show Exists _); refine exU8 ?_) | ((fail_if_success (first | (with_reducible show LeG _ _) | (with_reducible show Lp _ _ _ _) | (with_reducible show Exists _) | (with_reducible show callX _ _ _ _ _) | (with_reducible show (_ : Int) ≤ _) | (with_reducible show (_ : Int) < _) | (with_reducible show (_ : Nat) ≤ _) | (with_reducible show (_ : Nat) < _))); (conv => whnf) <;> (first | exact OkR.mk (by kernel_rfl) | exact OkC.mk (by kernel_rfl) | refine ix_at hxk ?_ | refine Sq.pr ?_ | refine Br.dec (fun hc => ?_) (fun hc => ?_) | refine Br.tt ?_ | refine Br.ff ?_ | refine Br.not ?_ | refine Br.mk (fun hc => ?_) (fun hc => ?_) | refine Opt.nn ?_ | refine Opt.ss ?_ | refine AltA.l ?_ | exact PV.leL_nil | refine PV.leL_cons ?_ ?_ | refine And.intro ?_ ?_ | refine ix_map (fun x hx => ?_) | refine exU8 ?_ | refine nilc (fun hn => ?_) ?_ | exact PV.le_refl _ | exact Nat.zero_lt_succ _ | exact Nat.le_of_ble_eq_true rfl | exact onesOf rfl | exact Or.inl rfl | exact noMem | exact onesOfP rfl | exact okAll rfl | exact okMap (fun _ => ⟨rfl, onesOfP rfl⟩) | exact nonz | refine imp0 (fun hpos => ?_) | refine fits_i64 ?_ ?_ | exact rfl | (with_reducible show LeG _ _) | (with_reducible show Lp _ _ _ _) | (with_reducible show Exists _) | (with_reducible show callX _ _ _ _ _)))) <;> (try (first | exact LeG.refl _ | omega | ((first | (with_reducible show (_ : Int) ≤ _) | (with_reducible show (_ : Int) < _) | (with_reducible show (_ : Nat) ≤ _) | (with_reducible show (_ : Nat) < _) | (with_reducible show ¬ _) | (with_reducible show (_ : Int) = _) | (with_reducible show (_ : Nat) = _)); (simp only [List.length_map, List.length_append, List.length_cons, List.length_nil, List.length_replicate, List.length_take, List.length_drop, List.length_set, Int.toNat_natCast, Int.reduceToNat] <;> omega)) | exact of_decide_eq_true rfl))
              all_goals first
              | (have hin : y.to ∈ ps ++ [g] := by assumption
                 rw [hd] at hq; unfold provF at hq; rw [hb0] at hq
                 have hq : (if y.frm = g then (if (aget y.to m).getD false then false else _) else false) = R := hq
                 rw [if_pos hyf, hmy, decide_eq_true hin, if_pos rfl] at hq
                 rw [← hq]; exact LeG.refl _)
              | (have hin : ¬ y.to ∈ ps ++ [g] := by assumption
                 rw [hd] at hq; unfold provF at hq; rw [hb0] at hq
                 have hq : (if y.frm = g then (if (aget y.to m).getD false then false else provF B t (p.drop (i + 1)) y.to (aput y.to true m)) else false) = R := hq
                 rw [if_pos hyf, hmy, decide_eq_false hin, if_neg Bool.false_ne_true] at hq
                 refine ⟨⟨(i + 1, ps ++ [g], y.to), hlt, by show (ps ++ [g]).length = i + 1; simp; omega, aput y.to true m, fun u => (by rw [aget_put]; by_cases hu : u = y.to <;> simp_all), hq⟩, by show p.length - (i + 1) < p.length - i; omega, ?_⟩
                 (first | refine Ent.ofA [] ?_ | refine Ent.ofC [] ?_) <;> (repeat' (first | exact trivial | refine HpLe.dd ?_ | refine HpLe.mk rfl (by simp) rfl (fun h => AObj.noConfusion h) ?_ ?_ | refine And.intro ?_ ?_ | exact VLe.refl _ | exact VLe.msl rfl | exact VLe.rsl rfl | exact VLe.csl rfl | exact VLe.cslr rfl | exact VLe.mp rfl | exact VLe.eptr rfl | exact VLe.ptr rfl | exact VLe.any _ | refine VLe.pe ?_ | refine VLe.agg ?_ | refine VLeL.cons ?_ ?_ | exact VLeL.nil | exact OLe.row _ _ | rfl | refine VLe.rsle rfl ?_ ?_ ?_ | refine OLe.rowe2 ?_ ?_ | refine OLe.mape ?_ ?_ | refine OLe.iter0 ?_ | refine OLe.itere ?_ ?_)) <;> try (first | (simp; done) | (congr 1; omega) | (congr 1; (first | (simp; done) | (simp; omega))))
                 all_goals simp)

    · rw [if_neg hp]
      have hp9 : (8 : Int) < ((p.map eI).length : Int) := by rw [List.length_map]; omega
      refine PCalls.of (N := 114) (res := [.tmp 18, .tmp 19]) mixed Try.func19 rfl rfl rfl (by kernel_rfl) (by simp) [0, 1, 2, 3, 4, 5, 6, 7, 8, 18, 19, 20, 21, 22, 23, 24, 35, 39, 52, 70, 97] ?_
      repeat' (first | ((with_reducible show _ = _); exact rfl) | ((with_reducible show (_ : Nat) < _); exact Nat.zero_lt_succ _) | ((with_reducible show (_ : Nat) ≤ _); exact Nat.le_of_ble_eq_true rfl) | ((with_reducible show Exists _); refine exU8 ?_) | ((with_reducible show callX _ _ _ _ _); (first | refine call_p (q1) (by kernel_rfl) rfl ?_)) | ((fail_if_success (first | (with_reducible show LeG _ _) | (with_reducible show Lp _ _ _ _) | (with_reducible show Exists _) | (with_reducible show callX _ _ _ _ _) | (with_reducible show (_ : Int) ≤ _) | (with_reducible show (_ : Int) < _) | (with_reducible show (_ : Nat) ≤ _) | (with_reducible show (_ : Nat) < _))); (conv => whnf) <;> (first | exact OkR.mk (by kernel_rfl) | exact OkC.mk (by kernel_rfl) | refine Br.dec (fun hc => ?_) (fun hc => absurd hp9 hc) | refine Sq.pr ?_ | refine Br.dec (fun hc => ?_) (fun hc => ?_) | refine Br.tt ?_ | refine Br.ff ?_ | refine Br.not ?_ | refine Br.mk (fun hc => ?_) (fun hc => ?_) | refine Opt.nn ?_ | refine Opt.ss ?_ | refine AltA.l ?_ | exact PV.leL_nil | refine PV.leL_cons ?_ ?_ | refine And.intro ?_ ?_ | refine ix_map (fun x hx => ?_) | refine exU8 ?_ | refine nilc (fun hn => ?_) ?_ | refine call_p (q1) (by kernel_rfl) rfl ?_ | exact PV.le_refl _ | exact Nat.zero_lt_succ _ | exact Nat.le_of_ble_eq_true rfl | exact onesOf rfl | exact Or.inl rfl | exact noMem | exact onesOfP rfl | exact okAll rfl | exact okMap (fun _ => ⟨rfl, onesOfP rfl⟩) | exact nonz | refine imp0 (fun hpos => ?_) | refine fits_i64 ?_ ?_ | exact rfl | (with_reducible show LeG _ _) | (with_reducible show Lp _ _ _ _) | (with_reducible show Exists _) | (with_reducible show callX _ _ _ _ _)))) <;> (try (first | exact LeG.refl _ | omega | ((first | (with_reducible show (_ : Int) ≤ _) | (with_reducible show (_ : Int) < _) | (with_reducible show (_ : Nat) ≤ _) | (with_reducible show (_ : Nat) < _) | (with_reducible show ¬ _) | (with_reducible show (_ : Int) = _) | (with_reducible show (_ : Nat) = _)); (simp only [List.length_map, List.length_append, List.length_cons, List.length_nil, List.length_replicate, List.length_take, List.length_drop, List.length_set, Int.toNat_natCast, Int.reduceToNat] <;> omega)) | exact of_decide_eq_true rfl))
  · rw [if_neg hz]
    refine PCalls.of (N := 114) (res := [.tmp 18, .tmp 19]) mixed Try.func19 rfl rfl rfl (by kernel_rfl) (by simp) [0, 1, 2, 3, 4, 5, 6, 7, 8, 18, 19, 20, 21, 22, 23, 24, 35, 39, 52, 70, 97] ?_
    repeat' (first | ((with_reducible show _ = _); exact rfl) | ((with_reducible show (_ : Nat) < _); exact Nat.zero_lt_succ _) | ((with_reducible show (_ : Nat) ≤ _); exact Nat.le_of_ble_eq_true rfl) | ((with_reducible show Exists _); refine exU8 ?_) | ((with_reducible show callX _ _ _ _ _); (first | refine call_p (q1) (by kernel_rfl) rfl ?_)) | ((fail_if_success (first | (with_reducible show LeG _ _) | (with_reducible show Lp _ _ _ _) | (with_reducible show Exists _) | (with_reducible show callX _ _ _ _ _) | (with_reducible show (_ : Int) ≤ _) | (with_reducible show (_ : Int) < _) | (with_reducible show (_ : Nat) ≤ _) | (with_reducible show (_ : Nat) < _))); (conv => whnf) <;> (first | exact OkR.mk (by kernel_rfl) | exact OkC.mk (by kernel_rfl) | refine Br.dec (fun hc => ?_) (fun hc => absurd hz hc) | refine Sq.pr ?_ | refine Br.dec (fun hc => ?_) (fun hc => ?_) | refine Br.tt ?_ | refine Br.ff ?_ | refine Br.not ?_ | refine Br.mk (fun hc => ?_) (fun hc => ?_) | refine Opt.nn ?_ | refine Opt.ss ?_ | refine AltA.l ?_ | exact PV.leL_nil | refine PV.leL_cons ?_ ?_ | refine And.intro ?_ ?_ | refine ix_map (fun x hx => ?_) | refine exU8 ?_ | refine nilc (fun hn => ?_) ?_ | refine call_p (q1) (by kernel_rfl) rfl ?_ | exact PV.le_refl _ | exact Nat.zero_lt_succ _ | exact Nat.le_of_ble_eq_true rfl | exact onesOf rfl | exact Or.inl rfl | exact noMem | exact onesOfP rfl | exact okAll rfl | exact okMap (fun _ => ⟨rfl, onesOfP rfl⟩) | exact nonz | refine imp0 (fun hpos => ?_) | refine fits_i64 ?_ ?_ | exact rfl | (with_reducible show LeG _ _) | (with_reducible show Lp _ _ _ _) | (with_reducible show Exists _) | (with_reducible show callX _ _ _ _ _)))) <;> (try (first | exact LeG.refl _ | omega | ((first | (with_reducible show (_ : Int) ≤ _) | (with_reducible show (_ : Int) < _) | (with_reducible show (_ : Nat) ≤ _) | (with_reducible show (_ : Nat) < _) | (with_reducible show ¬ _) | (with_reducible show (_ : Int) = _) | (with_reducible show (_ : Nat) = _)); (simp only [List.length_map, List.length_append, List.length_cons, List.length_nil, List.length_replicate, List.length_take, List.length_drop, List.length_set, Int.toNat_natCast, Int.reduceToNat] <;> omega)) | exact of_decide_eq_true rfl))
end Go.Proofs.Ytghgjobknmddgaa

namespace Go.Proofs.Ytghgjobknmddgaa
open Go Go.Sg
set_option maxRecDepth 100000
set_option maxHeartbeats 40000000
theorem chainA_short (l : List Dp) (f t : Int) (q : Qn) : (chainA l f t q).1.length < 1000000 := by
  unfold chainA
  split
  · rename_i hz
    have hck : chkA l = 0 := Classical.byContradiction fun hn => by
      unfold askA at hz
      simp_all
    obtain ⟨_, _, hs⟩ := chkA_srt hck
    obtain ⟨w, b, e, _, h8⟩ := chr_of (S := covL q l) (hs.sublist List.filter_sublist) f t
    rw [e]; show w.length < _; omega
  · simp
theorem chainSpec_calls (l : List Dp) (x : Ak) (p : List Int) : PCalls Try.prog 4 [eL l, eAk x, eIs p] (.bool true) := by
  have q0 := few2_calls l
  cases hf : fewL l with
  | false =>
    rw [hf] at q0
    refine PCalls.of (N := 104) (res := [.tmp 6]) mixed Try.func4 rfl rfl rfl (by kernel_rfl) (by simp) [0, 1, 2, 4, 6, 7, 8, 9, 10, 11, 12, 13, 14, 15, 16, 18, 26] ?_
    repeat' (first | ((with_reducible show _ = _); exact rfl) | ((with_reducible show (_ : Nat) < _); exact Nat.zero_lt_succ _) | ((with_reducible show (_ : Nat) ≤ _); exact Nat.le_of_ble_eq_true rfl) | ((with_reducible show Exists _); refine exU8 ?_) | ((with_reducible show callX _ _ _ _ _); (first | refine call_p (sane_calls) (by kernel_rfl) rfl ?_ | refine call_p (q0) (by kernel_rfl) rfl ?_)) | ((fail_if_success (first | (with_reducible show LeG _ _) | (with_reducible show Lp _ _ _ _) | (with_reducible show Exists _) | (with_reducible show callX _ _ _ _ _) | (with_reducible show (_ : Int) ≤ _) | (with_reducible show (_ : Int) < _) | (with_reducible show (_ : Nat) ≤ _) | (with_reducible show (_ : Nat) < _))); (conv => whnf) <;> (first | exact OkR.mk (by kernel_rfl) | exact OkC.mk (by kernel_rfl) | refine Sq.pr ?_ | refine Br.dec (fun hc => ?_) (fun hc => ?_) | refine Br.tt ?_ | refine Br.ff ?_ | refine Br.not ?_ | refine Br.mk (fun hc => ?_) (fun hc => ?_) | refine Opt.nn ?_ | refine Opt.ss ?_ | refine AltA.l ?_ | exact PV.leL_nil | refine PV.leL_cons ?_ ?_ | refine And.intro ?_ ?_ | refine ix_map (fun x hx => ?_) | refine exU8 ?_ | refine nilc (fun hn => ?_) ?_ | refine call_p (sane_calls) (by kernel_rfl) rfl ?_ | refine call_p (q0) (by kernel_rfl) rfl ?_ | exact PV.le_refl _ | exact Nat.zero_lt_succ _ | exact Nat.le_of_ble_eq_true rfl | exact onesOf rfl | exact Or.inl rfl | exact noMem | exact onesOfP rfl | exact okAll rfl | exact okMap (fun _ => ⟨rfl, onesOfP rfl⟩) | exact nonz | refine imp0 (fun hpos => ?_) | refine fits_i64 ?_ ?_ | exact rfl | (with_reducible show LeG _ _) | (with_reducible show Lp _ _ _ _) | (with_reducible show Exists _) | (with_reducible show callX _ _ _ _ _)))) <;> (try (first | exact LeG.refl _ | omega | ((first | (with_reducible show (_ : Int) ≤ _) | (with_reducible show (_ : Int) < _) | (with_reducible show (_ : Nat) ≤ _) | (with_reducible show (_ : Nat) < _) | (with_reducible show ¬ _) | (with_reducible show (_ : Int) = _) | (with_reducible show (_ : Nat) = _)); (simp only [List.length_map, List.length_append, List.length_cons, List.length_nil, List.length_replicate, List.length_take, List.length_drop, List.length_set, Int.toNat_natCast, Int.reduceToNat] <;> omega)) | exact of_decide_eq_true rfl))
  | true =>
    rw [hf] at q0
    have hl := fewL_len hf
    by_cases hp : p.length ≤ 20
    · have hp20 : ¬ (20 : Int) < ((p.map eI).length : Int) := by rw [List.length_map]; omega
      have q1 := chainL_calls l x hl
      have q2 := rchain_calls l x.frm x.to x.q hl
      have q3 := provesL_calls l x p hl
      have q4 := rproves_calls l x.frm x.to x.q p hl
      have hcl := chainA_short l x.frm x.to x.q
      have q5 := sameI_calls (chainA l x.frm x.to x.q).1 (chainA l x.frm x.to x.q).1 hcl
      rw [decide_eq_true rfl] at q5
      generalize chainA l x.frm x.to x.q = R at *
      generalize provA l x.frm x.to x.q p = S at *
      obtain ⟨r1, r2, r3⟩ := R
      obtain ⟨s1, s2⟩ := S
      refine PCalls.of (N := 104) (res := [.tmp 6]) mixed Try.func4 rfl rfl rfl (by kernel_rfl) (by simp) [0, 1, 2, 4, 6, 7, 8, 9, 10, 11, 12, 13, 14, 15, 16, 18, 26] ?_
      repeat' (first | ((with_reducible show _ = _); exact rfl) | ((with_reducible show (_ : Nat) < _); exact Nat.zero_lt_succ _) | ((with_reducible show (_ : Nat) ≤ _); exact Nat.le_of_ble_eq_true rfl) | ((with_reducible show Exists _); refine exU8 ?_) | ((with_reducible show callX _ _ _ _ _); (first | refine call_p (sane_calls) (by kernel_rfl) rfl ?_ | refine call_p (q0) (by kernel_rfl) rfl ?_ | refine call_p (q1) (by kernel_rfl) rfl ?_ | refine call_p (q2) (by kernel_rfl) rfl ?_ | refine call_p (q3) (by kernel_rfl) rfl ?_ | refine call_p (q4) (by kernel_rfl) rfl ?_ | refine call_p (q5) (by kernel_rfl) rfl ?_)) | ((fail_if_success (first | (with_reducible show LeG _ _) | (with_reducible show Lp _ _ _ _) | (with_reducible show Exists _) | (with_reducible show callX _ _ _ _ _) | (with_reducible show (_ : Int) ≤ _) | (with_reducible show (_ : Int) < _) | (with_reducible show (_ : Nat) ≤ _) | (with_reducible show (_ : Nat) < _))); (conv => whnf) <;> (first | exact OkR.mk (by kernel_rfl) | exact OkC.mk (by kernel_rfl) | refine Br.dec (fun hc => absurd hc hp20) (fun hc => ?_) | refine Sq.pr ?_ | refine Br.dec (fun hc => ?_) (fun hc => ?_) | refine Br.tt ?_ | refine Br.ff ?_ | refine Br.not ?_ | refine Br.mk (fun hc => ?_) (fun hc => ?_) | refine Opt.nn ?_ | refine Opt.ss ?_ | refine AltA.l ?_ | exact PV.leL_nil | refine PV.leL_cons ?_ ?_ | refine And.intro ?_ ?_ | refine ix_map (fun x hx => ?_) | refine exU8 ?_ | refine nilc (fun hn => ?_) ?_ | refine call_p (sane_calls) (by kernel_rfl) rfl ?_ | refine call_p (q0) (by kernel_rfl) rfl ?_ | refine call_p (q1) (by kernel_rfl) rfl ?_ | refine call_p (q2) (by kernel_rfl) rfl ?_ | refine call_p (q3) (by kernel_rfl) rfl ?_ | refine call_p (q4) (by kernel_rfl) rfl ?_ | refine call_p (q5) (by kernel_rfl) rfl ?_ | exact PV.le_refl _ | exact Nat.zero_lt_succ _ | exact Nat.le_of_ble_eq_true rfl | exact onesOf rfl | exact Or.inl rfl | exact noMem | exact onesOfP rfl | exact okAll rfl | exact okMap (fun _ => ⟨rfl, onesOfP rfl⟩) | exact nonz | refine imp0 (fun hpos => ?_) | refine fits_i64 ?_ ?_ | exact rfl | (with_reducible show LeG _ _) | (with_reducible show Lp _ _ _ _) | (with_reducible show Exists _) | (with_reducible show callX _ _ _ _ _)))) <;> (try (first | exact LeG.refl _ | omega | ((first | (with_reducible show (_ : Int) ≤ _) | (with_reducible show (_ : Int) < _) | (with_reducible show (_ : Nat) ≤ _) | (with_reducible show (_ : Nat) < _) | (with_reducible show ¬ _) | (with_reducible show (_ : Int) = _) | (with_reducible show (_ : Nat) = _)); (simp only [List.length_map, List.length_append, List.length_cons, List.length_nil, List.length_replicate, List.length_take, List.length_drop, List.length_set, Int.toNat_natCast, Int.reduceToNat] <;> omega)) | exact of_decide_eq_true rfl))
      all_goals first
      | exact LeG.refl _
      | exact LeG.bool (decide_eq_true rfl)
      | (exfalso; first | exact absurd rfl hc | (simp at *; done))
    · have hp20 : (20 : Int) < ((p.map eI).length : Int) := by rw [List.length_map]; omega
      refine PCalls.of (N := 104) (res := [.tmp 6]) mixed Try.func4 rfl rfl rfl (by kernel_rfl) (by simp) [0, 1, 2, 4, 6, 7, 8, 9, 10, 11, 12, 13, 14, 15, 16, 18, 26] ?_
      repeat' (first | ((with_reducible show _ = _); exact rfl) | ((with_reducible show (_ : Nat) < _); exact Nat.zero_lt_succ _) | ((with_reducible show (_ : Nat) ≤ _); exact Nat.le_of_ble_eq_true rfl) | ((with_reducible show Exists _); refine exU8 ?_) | ((with_reducible show callX _ _ _ _ _); (first | refine call_p (sane_calls) (by kernel_rfl) rfl ?_ | refine call_p (q0) (by kernel_rfl) rfl ?_)) | ((fail_if_success (first | (with_reducible show LeG _ _) | (with_reducible show Lp _ _ _ _) | (with_reducible show Exists _) | (with_reducible show callX _ _ _ _ _) | (with_reducible show (_ : Int) ≤ _) | (with_reducible show (_ : Int) < _) | (with_reducible show (_ : Nat) ≤ _) | (with_reducible show (_ : Nat) < _))); (conv => whnf) <;> (first | exact OkR.mk (by kernel_rfl) | exact OkC.mk (by kernel_rfl) | refine Br.dec (fun hc => ?_) (fun hc => absurd hp20 hc) | refine Sq.pr ?_ | refine Br.dec (fun hc => ?_) (fun hc => ?_) | refine Br.tt ?_ | refine Br.ff ?_ | refine Br.not ?_ | refine Br.mk (fun hc => ?_) (fun hc => ?_) | refine Opt.nn ?_ | refine Opt.ss ?_ | refine AltA.l ?_ | exact PV.leL_nil | refine PV.leL_cons ?_ ?_ | refine And.intro ?_ ?_ | refine ix_map (fun x hx => ?_) | refine exU8 ?_ | refine nilc (fun hn => ?_) ?_ | refine call_p (sane_calls) (by kernel_rfl) rfl ?_ | refine call_p (q0) (by kernel_rfl) rfl ?_ | exact PV.le_refl _ | exact Nat.zero_lt_succ _ | exact Nat.le_of_ble_eq_true rfl | exact onesOf rfl | exact Or.inl rfl | exact noMem | exact onesOfP rfl | exact okAll rfl | exact okMap (fun _ => ⟨rfl, onesOfP rfl⟩) | exact nonz | refine imp0 (fun hpos => ?_) | refine fits_i64 ?_ ?_ | exact rfl | (with_reducible show LeG _ _) | (with_reducible show Lp _ _ _ _) | (with_reducible show Exists _) | (with_reducible show callX _ _ _ _ _)))) <;> (try (first | exact LeG.refl _ | omega | ((first | (with_reducible show (_ : Int) ≤ _) | (with_reducible show (_ : Int) < _) | (with_reducible show (_ : Nat) ≤ _) | (with_reducible show (_ : Nat) < _) | (with_reducible show ¬ _) | (with_reducible show (_ : Int) = _) | (with_reducible show (_ : Nat) = _)); (simp only [List.length_map, List.length_append, List.length_cons, List.length_nil, List.length_replicate, List.length_take, List.length_drop, List.length_set, Int.toNat_natCast, Int.reduceToNat] <;> omega)) | exact of_decide_eq_true rfl))
end Go.Proofs.Ytghgjobknmddgaa

namespace Go.Proofs.Ytghgjobknmddgaa
open Go Go.Sg
set_option maxRecDepth 100000
theorem rI : Rdc Try.prog 3 Int (fun n => [eI n]) (fun n => (Lit.int .i64 n).wf = true) := Rdc.int (by kernel_rfl) (by kernel_rfl)
theorem rBool : Rdc Try.prog 4 Bool (fun n => [.bool n]) (fun _ => True) := Rdc.bool (by kernel_rfl) (by kernel_rfl)
def okDp (x : Dp) : Prop := (Lit.int .i64 x.no).wf = true ∧ (Lit.int .i64 x.tm).wf = true ∧ (Lit.int .i64 x.known).wf = true ∧ (Lit.int .i64 x.till).wf = true ∧ (Lit.int .i64 x.frm).wf = true ∧ (Lit.int .i64 x.to).wf = true ∧ (Lit.int .i64 x.off).wf = true ∧ (Lit.int .i64 x.kind).wf = true ∧ (Lit.int .i64 x.most).wf = true
theorem rDp : Rdc Try.prog 24 Dp (fun x => [eI x.no, eI x.tm, eI x.known, eI x.till, eI x.frm, eI x.to, eI x.off, eI x.kind, eI x.most, .bool x.gone]) okDp := by
  have h := Rdc.struct (P := Try.prog) (t := 24) Try.underlying24 (Rdf.cons rI (Rdf.cons rI (Rdf.cons rI (Rdf.cons rI (Rdf.cons rI (Rdf.cons rI (Rdf.cons rI (Rdf.cons rI (Rdf.cons rI (Rdf.cons rBool Rdf.nil (by kernel_rfl) rfl) (by kernel_rfl) rfl) (by kernel_rfl) rfl) (by kernel_rfl) rfl) (by kernel_rfl) rfl) (by kernel_rfl) rfl) (by kernel_rfl) rfl) (by kernel_rfl) rfl) (by kernel_rfl) rfl) (by kernel_rfl) rfl) (by kernel_rfl)
  exact h.map (fun x => (⟨x.1, x.2.1, x.2.2.1, x.2.2.2.1, x.2.2.2.2.1, x.2.2.2.2.2.1, x.2.2.2.2.2.2.1, x.2.2.2.2.2.2.2.1, x.2.2.2.2.2.2.2.2.1, x.2.2.2.2.2.2.2.2.2.1⟩ : Dp)) (fun w => (w.no, w.tm, w.known, w.till, w.frm, w.to, w.off, w.kind, w.most, w.gone, ())) (fun _ => rfl) (fun _ _ => rfl)
    (fun x h => ⟨h.1, h.2.1, h.2.2.1, h.2.2.2.1, h.2.2.2.2.1, h.2.2.2.2.2.1, h.2.2.2.2.2.2.1, h.2.2.2.2.2.2.2.1, h.2.2.2.2.2.2.2.2.1⟩) (fun y h => ⟨h.1, h.2.1, h.2.2.1, h.2.2.2.1, h.2.2.2.2.1, h.2.2.2.2.2.1, h.2.2.2.2.2.2.1, h.2.2.2.2.2.2.2.1, h.2.2.2.2.2.2.2.2, trivial, trivial⟩)
def okAk (x : Ak) : Prop := (Lit.int .i64 x.frm).wf = true ∧ (Lit.int .i64 x.to).wf = true ∧ (Lit.int .i64 x.q.off).wf = true ∧ (Lit.int .i64 x.q.kind).wf = true ∧ (Lit.int .i64 x.q.val).wf = true ∧ (Lit.int .i64 x.q.tm).wf = true ∧ (Lit.int .i64 x.q.known).wf = true
theorem rAk : Rdc Try.prog 34 Ak (fun x => [eI x.frm, eI x.to, eI x.q.off, eI x.q.kind, eI x.q.val, eI x.q.tm, eI x.q.known]) okAk := by
  have h := Rdc.struct (P := Try.prog) (t := 34) Try.underlying34 (Rdf.cons rI (Rdf.cons rI (Rdf.cons rI (Rdf.cons rI (Rdf.cons rI (Rdf.cons rI (Rdf.cons rI Rdf.nil (by kernel_rfl) rfl) (by kernel_rfl) rfl) (by kernel_rfl) rfl) (by kernel_rfl) rfl) (by kernel_rfl) rfl) (by kernel_rfl) rfl) (by kernel_rfl) rfl) (by kernel_rfl)
  exact h.map (fun x => (⟨x.1, x.2.1, ⟨x.2.2.1, x.2.2.2.1, x.2.2.2.2.1, x.2.2.2.2.2.1, x.2.2.2.2.2.2.1⟩⟩ : Ak)) (fun w => (w.frm, w.to, w.q.off, w.q.kind, w.q.val, w.q.tm, w.q.known, ())) (fun _ => rfl) (fun _ _ => rfl)
    (fun x h => ⟨h.1, h.2.1, h.2.2.1, h.2.2.2.1, h.2.2.2.2.1, h.2.2.2.2.2.1, h.2.2.2.2.2.2.1⟩) (fun y h => ⟨h.1, h.2.1, h.2.2.1, h.2.2.2.1, h.2.2.2.2.1, h.2.2.2.2.2.1, h.2.2.2.2.2.2, trivial⟩)
def okL (l : List Dp) : Prop := l.length ≤ reachBytes ∧ ∀ b ∈ l, okDp b
theorem rL : Rdc Try.prog 22 (List Dp) (fun b => [eL b]) okL :=
  Rdc.slice (e := 24) (sz := 10) (by kernel_rfl) (by kernel_rfl) rDp (by kernel_rfl) (by decide) (of_decide_eq_true (by kernel_rfl)) (fun _ _ => rfl)
def okIs (l : List Int) : Prop := l.length ≤ reachBytes ∧ ∀ b ∈ l, (Lit.int .i64 b).wf = true
theorem rIs : Rdc Try.prog 35 (List Int) (fun b => [eIs b]) okIs :=
  Rdc.slice (e := 3) (sz := 1) (by kernel_rfl) (by kernel_rfl) rI (by kernel_rfl) (by decide) (of_decide_eq_true (by kernel_rfl)) (fun _ _ => rfl)
theorem rU32 : Rdc Try.prog 46 Int (fun n => [.int .u32 n]) (fun n => (Lit.int .u32 n).wf = true) := Rdc.int (by kernel_rfl) (by kernel_rfl)
theorem aU32 : Rda Try.prog 46 Int (fun n => .int .u32 n) (fun n => (Lit.int .u32 n).wf = true) := Rda.one rU32 (by kernel_rfl)
theorem wf_u32 {n : Int} (h : (Lit.int .u32 n).wf = true) : 0 ≤ n ∧ n ≤ 4294967295 := by
  simp [Lit.wf, IntKind.min, IntKind.max, IntKind.signed, IntKind.bits] at h; omega
theorem rU8 : Rdc Try.prog 5 Int (fun n => [.int .u8 n]) (fun n => (Lit.int .u8 n).wf = true) := Rdc.int (by kernel_rfl) (by kernel_rfl)
def okBs (l : List Int) : Prop := l.length ≤ reachBytes ∧ ∀ b ∈ l, (Lit.int .u8 b).wf = true
theorem rBs : Rdc Try.prog 48 (List Int) (fun b => [.sl 1 false (b.map (PV.int .u8))]) okBs :=
  Rdc.slice (e := 5) (sz := 1) (by kernel_rfl) (by kernel_rfl) rU8 (by kernel_rfl) (by decide) (of_decide_eq_true (by kernel_rfl)) (fun _ _ => rfl)
theorem aBs : Rda Try.prog 48 (List Int) (fun b => .sl 1 false (b.map (PV.int .u8))) okBs := Rda.one rBs (by kernel_rfl)
theorem okBs.len {l : List Int} (h : okBs l) : l.length < 140737488355328 := Nat.lt_of_le_of_lt h.1 reachBytes_lt
theorem wf_u8 {n : Int} (h : (Lit.int .u8 n).wf = true) : 0 ≤ n ∧ n ≤ 255 := by
  simp [Lit.wf, IntKind.min, IntKind.max, IntKind.signed, IntKind.bits] at h; omega
theorem aDp : Rda Try.prog 24 Dp eA okDp := Rda.agg rDp (by kernel_rfl)
theorem aAk : Rda Try.prog 34 Ak eAk okAk := Rda.agg rAk (by kernel_rfl)
theorem aI : Rda Try.prog 3 Int eI (fun n => (Lit.int .i64 n).wf = true) := Rda.one rI (by kernel_rfl)
theorem aL : Rda Try.prog 22 (List Dp) eL okL := Rda.one rL (by kernel_rfl)
theorem aIs : Rda Try.prog 35 (List Int) eIs okIs := Rda.one rIs (by kernel_rfl)
theorem okL.len {l : List Dp} (h : okL l) : l.length < 140737488355328 := Nat.lt_of_le_of_lt h.1 reachBytes_lt
theorem okIs.len {l : List Int} (h : okIs l) : l.length < 140737488355328 := Nat.lt_of_le_of_lt h.1 reachBytes_lt
theorem own : ownKnob Try.prog.godebug = none := by kernel_rfl
end Go.Proofs.Ytghgjobknmddgaa
