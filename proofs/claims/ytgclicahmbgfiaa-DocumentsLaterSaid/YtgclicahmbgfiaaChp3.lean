/- A part of the proof: contracts of the functions that the statement reaches. -/
import Derived.Test.YtgclicahmbgfiaaChp2
import Derived.Test.YtgclicahmbgfiaaRows
set_option linter.unusedSimpArgs false
set_option linter.unusedVariables false
set_option linter.unnecessarySimpa false
namespace Go.Proofs.Ytgclicahmbgfiaa
open Go Go.Sg
set_option maxRecDepth 100000
set_option maxHeartbeats 20000000
theorem fewD_f3 {x : Dc} (h : fewD x = true) : okF x := by
  unfold fewD at h
  simp only [Bool.and_eq_true, decide_eq_true_eq] at h
  exact ⟨h.1.1, h.1.2, h.2⟩
theorem rsignings_calls (l : List Dc) (sg : List Int) (hsl : sg.length < 140737488355328) : PCalls Try.prog 56 [eL l, eIs sg] (.bool (sgB l sg)) := by
  refine PCalls.of (N := 30) (res := [.tmp 4]) mixed Try.func56 rfl rfl rfl (by kernel_rfl) (by simp) [0, 1, 4, 5, 9, 24] ?_
  repeat' (first | exact cl1 | ((with_reducible show Exists _); first | exact exHM _ | refine exU8 ?_) | ((fail_if_success refine stp ?_); (conv => whnf) <;> (first | exact cl2 | refine XAlt.l ?_ | refine Sq.pr ?_ | refine Br.dec (fun hc => ?_) (fun hc => ?_) | refine Br.tt ?_ | refine Br.ff ?_ | refine Br.not ?_ | refine Br.mk (fun hc => ?_) (fun hc => ?_) | refine Opt.nn ?_ | refine Opt.ss ?_ | refine AltA.l ?_ | exact PV.leL_nil | refine PV.leL_cons ?_ ?_ | refine And.intro ?_ ?_ | refine ix_map (fun x hx => ?_) | refine exU8 ?_ | refine nilc (fun hn => ?_) ?_ | exact cl3 | refine imp0 (fun hpos => ?_) | refine fits_i64 ?_ ?_ | exact rfl | exact trivial | (first | refine stq ?_ | fail)))) <;> (try exact cl5)
  refine Wpc.loopB (α := {i : Nat // i ≤ sg.length ∧ ∀ j t, j < i → sg[j]? = some t → oddB t = false}) mixed [0, 1, 4, 5, 9, 24] (fun i => [(5, .p (eI i.1))]) (fun i => sg.length - i.1) ⟨0, by omega, by intro j t h; omega⟩ ?_ ?_
  · (first | refine Ent.ofA [] ?_ | refine Ent.ofC [] ?_) <;> (repeat' (first | exact trivial | refine HpLe.dd ?_ | refine HpLe.mk rfl (by simp) rfl (fun h => AObj.noConfusion h) ?_ ?_ | refine And.intro ?_ ?_ | exact cl9 | refine VLe.pe ?_ | refine VLe.agg ?_ | refine VLe.tup ?_ | refine VLe.fn ?_ ?_ | refine VLeL.cons ?_ ?_ | exact VLeL.nil | exact OLe.row _ _ | rfl | refine VLe.rsle rfl ?_ ?_ ?_ | refine OLe.rowe2 ?_ ?_ | refine OLe.mape ?_ ?_ | refine OLe.iter0 ?_ | refine OLe.itere ?_ ?_ | refine OLe.chane ?_ ?_ | refine OLe.mapSe ?_ ?_ ?_ | exact OLe.mapS0 rfl)) <;> try (first | (simp; done) | (congr 1; omega) | (congr 1; (first | (simp; done) | (simp; omega))))
  rintro ⟨i, hi, hq⟩
  have hi : i ≤ sg.length := hi
  have hq : ∀ j t, j < i → sg[j]? = some t → oddB t = false := hq
  cases hx : sg[i]? with
  | some t =>
    have hlt := (List.getElem?_eq_some_iff.1 hx).1
    have hyes : ((i : Int) < ((sg.map eI).length : Int)) := by rw [List.length_map]; omega
    have q := rtime_calls t
    have hbad : oddB t = true → sgB l sg = false := fun h => by
      unfold sgB
      rw [show sg.any oddB = true from List.any_eq_true.2 ⟨t, List.mem_of_getElem? hx, h⟩]; simp
    have hgo : oddB t = false → ∀ j u, j < i + 1 → sg[j]? = some u → oddB u = false := fun h j u hj hu => by
      rcases Nat.lt_succ_iff_lt_or_eq.1 hj with h1 | h1
      · exact hq j u h1 hu
      · rw [h1, hx] at hu; injection hu with hu; rw [← hu]; exact h
    by_cases ht : t = -1
    · have hn : ¬ t ≠ -1 := fun h => h ht
      have ho : oddB t = false := by unfold oddB; rw [decide_eq_true ht]; rfl
      repeat' (first | exact cl1 | ((with_reducible show Exists _); first | exact exHM _ | refine exU8 ?_) | ((fail_if_success refine stp ?_); (conv => whnf) <;> (first | exact cl2 | refine Br.dec (fun hc => absurd hc hn) (fun hc => ?_) | refine Br.dec (fun hc => ?_) (fun hc => absurd hyes hc) | refine ix_at hx ?_ | refine XAlt.l ?_ | refine Sq.pr ?_ | refine Br.dec (fun hc => ?_) (fun hc => ?_) | refine Br.tt ?_ | refine Br.ff ?_ | refine Br.not ?_ | refine Br.mk (fun hc => ?_) (fun hc => ?_) | refine Opt.nn ?_ | refine Opt.ss ?_ | refine AltA.l ?_ | exact PV.leL_nil | refine PV.leL_cons ?_ ?_ | refine And.intro ?_ ?_ | refine ix_map (fun x hx => ?_) | refine exU8 ?_ | refine nilc (fun hn => ?_) ?_ | exact cl3 | refine imp0 (fun hpos => ?_) | refine fits_i64 ?_ ?_ | exact rfl | exact trivial | (first | refine stq ?_ | fail)))) <;> (try exact cl5)
      refine ⟨⟨i + 1, hlt, hgo ho⟩, by show sg.length - (i + 1) < sg.length - i; omega, ?_⟩
      (first | refine Ent.ofA [] ?_ | refine Ent.ofC [] ?_) <;> (repeat' (first | exact trivial | refine HpLe.dd ?_ | refine HpLe.mk rfl (by simp) rfl (fun h => AObj.noConfusion h) ?_ ?_ | refine And.intro ?_ ?_ | exact cl9 | refine VLe.pe ?_ | refine VLe.agg ?_ | refine VLe.tup ?_ | refine VLe.fn ?_ ?_ | refine VLeL.cons ?_ ?_ | exact VLeL.nil | exact OLe.row _ _ | rfl | refine VLe.rsle rfl ?_ ?_ ?_ | refine OLe.rowe2 ?_ ?_ | refine OLe.mape ?_ ?_ | refine OLe.iter0 ?_ | refine OLe.itere ?_ ?_ | refine OLe.chane ?_ ?_ | refine OLe.mapSe ?_ ?_ ?_ | exact OLe.mapS0 rfl)) <;> try (first | (simp; done) | (congr 1; omega) | (congr 1; (first | (simp; done) | (simp; omega))))
    · cases hw : wiB TM t with
      | true =>
        rw [hw] at q
        have ho : oddB t = false := by unfold oddB; rw [hw]; simp
        repeat' (first | exact cl1 | ((with_reducible show Exists _); first | exact exHM _ | refine exU8 ?_) | ((with_reducible show callX _ _ _ _ _); (first | refine call_p (q) (by kernel_rfl) rfl ?_)) | ((fail_if_success refine stp ?_); (conv => whnf) <;> (first | exact cl2 | refine Br.dec (fun hc => ?_) (fun hc => absurd ht hc) | refine Br.dec (fun hc => ?_) (fun hc => absurd hyes hc) | refine ix_at hx ?_ | refine XAlt.l ?_ | refine Sq.pr ?_ | refine Br.dec (fun hc => ?_) (fun hc => ?_) | refine Br.tt ?_ | refine Br.ff ?_ | refine Br.not ?_ | refine Br.mk (fun hc => ?_) (fun hc => ?_) | refine Opt.nn ?_ | refine Opt.ss ?_ | refine AltA.l ?_ | exact PV.leL_nil | refine PV.leL_cons ?_ ?_ | refine And.intro ?_ ?_ | refine ix_map (fun x hx => ?_) | refine exU8 ?_ | refine nilc (fun hn => ?_) ?_ | exact cl3 | refine imp0 (fun hpos => ?_) | refine fits_i64 ?_ ?_ | exact rfl | exact trivial | (first | refine stq ?_ | fail)))) <;> (try exact cl5)
        refine ⟨⟨i + 1, hlt, hgo ho⟩, by show sg.length - (i + 1) < sg.length - i; omega, ?_⟩
        (first | refine Ent.ofA [] ?_ | refine Ent.ofC [] ?_) <;> (repeat' (first | exact trivial | refine HpLe.dd ?_ | refine HpLe.mk rfl (by simp) rfl (fun h => AObj.noConfusion h) ?_ ?_ | refine And.intro ?_ ?_ | exact cl9 | refine VLe.pe ?_ | refine VLe.agg ?_ | refine VLe.tup ?_ | refine VLe.fn ?_ ?_ | refine VLeL.cons ?_ ?_ | exact VLeL.nil | exact OLe.row _ _ | rfl | refine VLe.rsle rfl ?_ ?_ ?_ | refine OLe.rowe2 ?_ ?_ | refine OLe.mape ?_ ?_ | refine OLe.iter0 ?_ | refine OLe.itere ?_ ?_ | refine OLe.chane ?_ ?_ | refine OLe.mapSe ?_ ?_ ?_ | exact OLe.mapS0 rfl)) <;> try (first | (simp; done) | (congr 1; omega) | (congr 1; (first | (simp; done) | (simp; omega))))
      | false =>
        rw [hw] at q
        have ho : oddB t = true := by unfold oddB; rw [hw, decide_eq_false ht]; rfl
        rw [hbad ho]
        repeat' (first | exact cl1 | ((with_reducible show Exists _); first | exact exHM _ | refine exU8 ?_) | ((with_reducible show callX _ _ _ _ _); (first | refine call_p (q) (by kernel_rfl) rfl ?_)) | ((fail_if_success refine stp ?_); (conv => whnf) <;> (first | exact cl2 | refine Br.dec (fun hc => ?_) (fun hc => absurd ht hc) | refine Br.dec (fun hc => ?_) (fun hc => absurd hyes hc) | refine ix_at hx ?_ | refine XAlt.l ?_ | refine Sq.pr ?_ | refine Br.dec (fun hc => ?_) (fun hc => ?_) | refine Br.tt ?_ | refine Br.ff ?_ | refine Br.not ?_ | refine Br.mk (fun hc => ?_) (fun hc => ?_) | refine Opt.nn ?_ | refine Opt.ss ?_ | refine AltA.l ?_ | exact PV.leL_nil | refine PV.leL_cons ?_ ?_ | refine And.intro ?_ ?_ | refine ix_map (fun x hx => ?_) | refine exU8 ?_ | refine nilc (fun hn => ?_) ?_ | exact cl3 | refine imp0 (fun hpos => ?_) | refine fits_i64 ?_ ?_ | exact rfl | exact trivial | (first | refine stq ?_ | fail)))) <;> (try exact cl5)
  | none =>
    have hge : sg.length ≤ i := List.getElem?_eq_none_iff.1 hx
    have hno : ¬ ((i : Int) < ((sg.map eI).length : Int)) := by rw [List.length_map]; omega
    have ha : sg.any oddB = false := List.any_eq_false.2 fun t ht e => by
      obtain ⟨j, hj⟩ := List.getElem?_of_mem ht
      rw [hq j t (by have := (List.getElem?_eq_some_iff.1 hj).1; omega) hj] at e; cases e
    have e : sgB l sg = decide (sg.length = l.length) := by unfold sgB; rw [ha]; simp
    rw [e]
    repeat' (first | exact cl1 | ((with_reducible show Exists _); first | exact exHM _ | refine exU8 ?_) | ((fail_if_success refine stp ?_); (conv => whnf) <;> (first | exact cl2 | refine Br.dec (fun hc => absurd hc hno) (fun hc => ?_) | refine XAlt.l ?_ | refine Sq.pr ?_ | refine Br.dec (fun hc => ?_) (fun hc => ?_) | refine Br.tt ?_ | refine Br.ff ?_ | refine Br.not ?_ | refine Br.mk (fun hc => ?_) (fun hc => ?_) | refine Opt.nn ?_ | refine Opt.ss ?_ | refine AltA.l ?_ | exact PV.leL_nil | refine PV.leL_cons ?_ ?_ | refine And.intro ?_ ?_ | refine ix_map (fun x hx => ?_) | refine exU8 ?_ | refine nilc (fun hn => ?_) ?_ | exact cl3 | refine imp0 (fun hpos => ?_) | refine fits_i64 ?_ ?_ | exact rfl | exact trivial | (first | refine stq ?_ | fail)))) <;> (try exact cl5)
    refine LeG.bool ?_
    simp only [List.length_map]
    by_cases h : sg.length = l.length
    · rw [decide_eq_true h, decide_eq_true (by omega)]
    · rw [decide_eq_false h, decide_eq_false (by omega)]
def rgtB (l : List Dc) (sg : List Int) : Bool := decide (l.length ≤ 20) && fewA l && decide (chkA l = 0) && sgB l sg
theorem rgtB_f {l : List Dc} {sg : List Int} (h : rgtB l sg = true) : l.length ≤ 20 ∧ (∀ x ∈ l, okF x) ∧ chkA l = 0 ∧ sgB l sg = true := by
  unfold rgtB at h
  simp only [Bool.and_eq_true, decide_eq_true_eq] at h
  obtain ⟨⟨⟨h1, h2⟩, h3⟩, h4⟩ := h
  refine ⟨h1, fun x hx => ?_, h3, h4⟩
  unfold fewA at h2
  rw [Bool.and_eq_true] at h2
  refine fewD_f3 (List.all_eq_true.1 h2.1 x ?_)
  rw [List.take_of_length_le (by omega)]; exact hx
theorem lawRight_calls (l : List Dc) (sg : List Int) (hl : l.length < 140737488355328) (hsl : sg.length < 140737488355328) : PCalls Try.prog 25 [eL l, eIs sg] (.bool (rgtB l sg)) := by
  have q1 : PCalls Try.prog 11 [eL l] (.bool (fewA l)) := few_calls l hl
  have q3 := rsignings_calls l sg hsl
  unfold rgtB
  by_cases h20 : l.length ≤ 20
  · have h20' : ((l.map eA).length : Int) ≤ 20 := by rw [List.length_map]; omega
    rw [decide_eq_true h20]
    cases hf : fewA l with
    | false =>
      rw [hf] at q1
      refine PCalls.of (N := 22) (res := [.tmp 4]) mixed Try.func25 rfl rfl rfl (by kernel_rfl) (by simp) [0, 1, 4] ?_
      repeat' (first | exact cl1 | ((with_reducible show Exists _); first | exact exHM _ | refine exU8 ?_) | ((with_reducible show callX _ _ _ _ _); (first | refine call_p (q1) (by kernel_rfl) rfl ?_)) | ((fail_if_success refine stp ?_); (conv => whnf) <;> (first | exact cl2 | refine Br.dec (fun hc => ?_) (fun hc => absurd h20' hc) | refine XAlt.l ?_ | refine Sq.pr ?_ | refine Br.dec (fun hc => ?_) (fun hc => ?_) | refine Br.tt ?_ | refine Br.ff ?_ | refine Br.not ?_ | refine Br.mk (fun hc => ?_) (fun hc => ?_) | refine Opt.nn ?_ | refine Opt.ss ?_ | refine AltA.l ?_ | exact PV.leL_nil | refine PV.leL_cons ?_ ?_ | refine And.intro ?_ ?_ | refine ix_map (fun x hx => ?_) | refine exU8 ?_ | refine nilc (fun hn => ?_) ?_ | exact cl3 | refine imp0 (fun hpos => ?_) | refine fits_i64 ?_ ?_ | exact rfl | exact trivial | (first | refine stq ?_ | fail)))) <;> (try exact cl5)
    | true =>
      rw [hf] at q1
      have hd : ∀ x ∈ l, okF x := fun x hx => by
        unfold fewA at hf
        rw [Bool.and_eq_true] at hf
        refine fewD_f3 (List.all_eq_true.1 hf.1 x ?_)
        rw [List.take_of_length_le (by omega)]; exact hx
      have q2 := rcheck_calls l (by omega) (fun x hx => (hd x hx).e.d)
      by_cases hz : chkA l = 0
      · rw [hz] at q2
        rw [decide_eq_true hz]
        cases hs : sgB l sg with
        | false =>
          rw [hs] at q3
          refine PCalls.of (N := 22) (res := [.tmp 4]) mixed Try.func25 rfl rfl rfl (by kernel_rfl) (by simp) [0, 1, 4] ?_
          repeat' (first | exact cl1 | ((with_reducible show Exists _); first | exact exHM _ | refine exU8 ?_) | ((with_reducible show callX _ _ _ _ _); (first | refine call_p (q1) (by kernel_rfl) rfl ?_ | refine call_p (q2) (by kernel_rfl) rfl ?_ | refine call_p (q3) (by kernel_rfl) rfl ?_)) | ((fail_if_success refine stp ?_); (conv => whnf) <;> (first | exact cl2 | refine Br.dec (fun hc => ?_) (fun hc => absurd h20' hc) | refine XAlt.l ?_ | refine Sq.pr ?_ | refine Br.dec (fun hc => ?_) (fun hc => ?_) | refine Br.tt ?_ | refine Br.ff ?_ | refine Br.not ?_ | refine Br.mk (fun hc => ?_) (fun hc => ?_) | refine Opt.nn ?_ | refine Opt.ss ?_ | refine AltA.l ?_ | exact PV.leL_nil | refine PV.leL_cons ?_ ?_ | refine And.intro ?_ ?_ | refine ix_map (fun x hx => ?_) | refine exU8 ?_ | refine nilc (fun hn => ?_) ?_ | exact cl3 | refine imp0 (fun hpos => ?_) | refine fits_i64 ?_ ?_ | exact rfl | exact trivial | (first | refine stq ?_ | fail)))) <;> (try exact cl5)
        | true =>
          rw [hs] at q3
          refine PCalls.of (N := 22) (res := [.tmp 4]) mixed Try.func25 rfl rfl rfl (by kernel_rfl) (by simp) [0, 1, 4] ?_
          repeat' (first | exact cl1 | ((with_reducible show Exists _); first | exact exHM _ | refine exU8 ?_) | ((with_reducible show callX _ _ _ _ _); (first | refine call_p (q1) (by kernel_rfl) rfl ?_ | refine call_p (q2) (by kernel_rfl) rfl ?_ | refine call_p (q3) (by kernel_rfl) rfl ?_)) | ((fail_if_success refine stp ?_); (conv => whnf) <;> (first | exact cl2 | refine Br.dec (fun hc => ?_) (fun hc => absurd h20' hc) | refine XAlt.l ?_ | refine Sq.pr ?_ | refine Br.dec (fun hc => ?_) (fun hc => ?_) | refine Br.tt ?_ | refine Br.ff ?_ | refine Br.not ?_ | refine Br.mk (fun hc => ?_) (fun hc => ?_) | refine Opt.nn ?_ | refine Opt.ss ?_ | refine AltA.l ?_ | exact PV.leL_nil | refine PV.leL_cons ?_ ?_ | refine And.intro ?_ ?_ | refine ix_map (fun x hx => ?_) | refine exU8 ?_ | refine nilc (fun hn => ?_) ?_ | exact cl3 | refine imp0 (fun hpos => ?_) | refine fits_i64 ?_ ?_ | exact rfl | exact trivial | (first | refine stq ?_ | fail)))) <;> (try exact cl5)
      · rw [decide_eq_false hz]
        refine PCalls.of (N := 22) (res := [.tmp 4]) mixed Try.func25 rfl rfl rfl (by kernel_rfl) (by simp) [0, 1, 4] ?_
        repeat' (first | exact cl1 | ((with_reducible show Exists _); first | exact exHM _ | refine exU8 ?_) | ((with_reducible show callX _ _ _ _ _); (first | refine call_p (q1) (by kernel_rfl) rfl ?_ | refine call_p (q2) (by kernel_rfl) rfl ?_)) | ((fail_if_success refine stp ?_); (conv => whnf) <;> (first | exact cl2 | refine Br.dec (fun hc => ?_) (fun hc => absurd h20' hc) | refine Br.dec (fun hc => absurd hc hz) (fun hc => ?_) | refine XAlt.l ?_ | refine Sq.pr ?_ | refine Br.dec (fun hc => ?_) (fun hc => ?_) | refine Br.tt ?_ | refine Br.ff ?_ | refine Br.not ?_ | refine Br.mk (fun hc => ?_) (fun hc => ?_) | refine Opt.nn ?_ | refine Opt.ss ?_ | refine AltA.l ?_ | exact PV.leL_nil | refine PV.leL_cons ?_ ?_ | refine And.intro ?_ ?_ | refine ix_map (fun x hx => ?_) | refine exU8 ?_ | refine nilc (fun hn => ?_) ?_ | exact cl3 | refine imp0 (fun hpos => ?_) | refine fits_i64 ?_ ?_ | exact rfl | exact trivial | (first | refine stq ?_ | fail)))) <;> (try exact cl5)
  · have h20' : ¬ ((l.map eA).length : Int) ≤ 20 := by rw [List.length_map]; omega
    rw [decide_eq_false h20]
    refine PCalls.of (N := 22) (res := [.tmp 4]) mixed Try.func25 rfl rfl rfl (by kernel_rfl) (by simp) [0, 1, 4] ?_
    repeat' (first | exact cl1 | ((with_reducible show Exists _); first | exact exHM _ | refine exU8 ?_) | ((fail_if_success refine stp ?_); (conv => whnf) <;> (first | exact cl2 | refine Br.dec (fun hc => absurd hc h20') (fun hc => ?_) | refine XAlt.l ?_ | refine Sq.pr ?_ | refine Br.dec (fun hc => ?_) (fun hc => ?_) | refine Br.tt ?_ | refine Br.ff ?_ | refine Br.not ?_ | refine Br.mk (fun hc => ?_) (fun hc => ?_) | refine Opt.nn ?_ | refine Opt.ss ?_ | refine AltA.l ?_ | exact PV.leL_nil | refine PV.leL_cons ?_ ?_ | refine And.intro ?_ ?_ | refine ix_map (fun x hx => ?_) | refine exU8 ?_ | refine nilc (fun hn => ?_) ?_ | exact cl3 | refine imp0 (fun hpos => ?_) | refine fits_i64 ?_ ?_ | exact rfl | exact trivial | (first | refine stq ?_ | fail)))) <;> (try exact cl5)
end Go.Proofs.Ytgclicahmbgfiaa

namespace Go.Proofs.Ytgclicahmbgfiaa
open Go Go.Sg
set_option maxRecDepth 100000
set_option maxHeartbeats 4000000
theorem dropWhile_stop {α : Type} {p : α → Bool} {A : List α} (hA : ∀ y ∈ A, p y = false) : ∀ B : List α, (B ++ A).dropWhile p = B.dropWhile p ++ A
  | [] => by
    cases A with
    | nil => rfl
    | cons a r => simp [List.dropWhile_cons, hA a (by simp)]
  | b :: r => by
    rw [List.cons_append, List.dropWhile_cons, List.dropWhile_cons]
    cases hp : p b with
    | true => simp only [if_true]; exact dropWhile_stop hA r
    | false => simp
theorem insR_low {f : Nat → Int} {A B : List Nat} {x : Nat} {t : Int} (hB : ∀ b ∈ B, t < f b) (hx : f x ≤ t) : insR f (A ++ B) x = insR f A x ++ B := by
  have hp : posR f x (A ++ B) = posR f x A := by
    unfold posR
    rw [List.reverse_append, List.dropWhile_append_of_pos fun y hy => decide_eq_true (by have := hB y (List.mem_reverse.1 hy); omega)]
  have hk : posR f x A ≤ A.length := by
    unfold posR
    have := List.Sublist.length_le (List.dropWhile_sublist (fun y => decide (f x < f y)) (l := A.reverse))
    rwa [List.length_reverse] at this
  unfold insR
  rw [hp, List.take_append_of_le_length hk, List.drop_append_of_le_length hk]
  simp
theorem insR_high {f : Nat → Int} {A B : List Nat} {x : Nat} {t : Int} (hA : ∀ a ∈ A, f a ≤ t) (hx : t < f x) : insR f (A ++ B) x = A ++ insR f B x := by
  have hp : posR f x (A ++ B) = A.length + posR f x B := by
    unfold posR
    rw [List.reverse_append, dropWhile_stop fun y hy => decide_eq_false (by have := hA y (List.mem_reverse.1 hy); omega)]
    simp; omega
  unfold insR
  rw [hp, List.take_length_add_append, List.drop_length_add_append]
  simp
theorem fold_split {f : Nat → Int} {t : Int} : ∀ (xs A B : List Nat), (∀ a ∈ A, f a ≤ t) → (∀ b ∈ B, t < f b) →
    xs.foldl (insR f) (A ++ B) = (xs.filter fun y => decide (f y ≤ t)).foldl (insR f) A ++ (xs.filter fun y => !decide (f y ≤ t)).foldl (insR f) B
  | [], A, B, _, _ => rfl
  | x :: r, A, B, hA, hB => by
    rw [List.foldl_cons]
    by_cases hx : f x ≤ t
    · rw [insR_low hB hx, fold_split r _ _ (fun a ha => by
        rcases mem_insR.1 ha with e | e
        · rw [e]; exact hx
        · exact hA a e) hB]
      simp [hx]
    · rw [insR_high hA (by omega), fold_split r _ _ hA (fun b hb => by
        rcases mem_insR.1 hb with e | e
        · rw [e]; omega
        · exact hB b e)]
      simp [hx]
theorem ordL_later {sg : List Int} {t u : Int} (h : t ≤ u) : ∃ R, ordL sg u = ordL sg t ++ R := by
  have h1 := fold_split (f := sgF sg) (t := t) (upL sg u sg.length) [] [] (fun a ha => by cases ha) (fun a ha => by cases ha)
  refine ⟨((upL sg u sg.length).filter fun y => !decide (sgF sg y ≤ t)).foldl (insR (sgF sg)) [], ?_⟩
  unfold ordL ordF
  rw [List.append_nil] at h1
  rw [h1]
  congr 2
  unfold upL
  rw [List.filter_filter]
  congr 1
  funext i
  unfold upB
  by_cases h1 : sgF sg i ≤ t
  · have : sgF sg i ≤ u := by omega
    simp [h1, this]
  · simp [h1]
def Ext (m m' : List (Int × List Int)) : Prop := ∀ n z, aget n m = some z → ∃ t, aget n m' = some (z ++ t)
theorem Ext.refl (m : List (Int × List Int)) : Ext m m := fun n z h => ⟨[], by rw [List.append_nil]; exact h⟩
theorem Ext.trans {a b c : List (Int × List Int)} (h : Ext a b) (k : Ext b c) : Ext a c := fun n z hz => by
  obtain ⟨t, ht⟩ := h n z hz
  obtain ⟨s, hs⟩ := k n _ ht
  exact ⟨t ++ s, by rw [← List.append_assoc]; exact hs⟩
theorem Ext.add (no : Int) (m : List (Int × List Int)) (n : Int) : Ext m (addR no m n) := fun k z hz => by
  unfold addR
  rw [aget_put]
  by_cases e : k = n
  · subst e; rw [if_pos rfl, hz]; exact ⟨[no], rfl⟩
  · rw [if_neg e]; exact ⟨[], by rw [List.append_nil]; exact hz⟩
theorem Ext.fold (no : Int) : ∀ (R : List Int) (m : List (Int × List Int)), Ext m (R.foldl (addR no) m)
  | [], m => Ext.refl m
  | n :: r, m => (Ext.add no m n).trans (Ext.fold no r _)
structure Aft (l : List Dc) (p p' : Pl) (i : Nat) : Prop where
  lk : p'.lk.getD i 0 = p.lk.getD i 0
  rv : Ext p.rv p'.rv
theorem Aft.step {l : List Dc} {sg : List Int} {p : Pl} {i j : Nat} (hij : i ≠ j) : Aft l p (stepP l sg p j) i := by
  unfold stepP
  cases hd : l[j]? with
  | none => exact ⟨rfl, Ext.refl _⟩
  | some d =>
    refine ⟨?_, ?_⟩
    · show (p.lk.set j _).getD i 0 = _
      simp only [List.getD]
      rw [List.getElem?_set_ne (fun e => hij e.symm)]
    · show Ext p.rv (if _ then _ else _)
      split
      · exact Ext.fold _ _ _
      · exact Ext.refl _
theorem Aft.fold {l : List Dc} {sg : List Int} {i : Nat} : ∀ (o : List Nat) (p : Pl), i ∉ o → Aft l p (o.foldl (stepP l sg) p) i
  | [], p, _ => ⟨rfl, Ext.refl _⟩
  | j :: r, p, h => by
    have h1 := Aft.step (l := l) (sg := sg) (p := p) (show i ≠ j from fun e => h (by simp [e]))
    have h2 := Aft.fold (l := l) (sg := sg) r (stepP l sg p j) (fun hm : i ∈ r => h (List.mem_cons_of_mem _ hm))
    exact ⟨h2.lk.trans h1.lk, h1.rv.trans h2.rv⟩
theorem minL_app (x : Int) (r t : List Int) : minL x (r ++ t) ≤ minL x r := by
  unfold minL
  rw [List.foldl_append]
  generalize r.foldl (fun a b => if b < a then b else a) x = y
  induction t generalizing y with
  | nil => exact Int.le_refl _
  | cons b t ih =>
    rw [List.foldl_cons]
    refine Int.le_trans (ih _) ?_
    split <;> omega
theorem later_law {l : List Dc} {p p' : Pl} {i : Nat} {d : Dc} (hd : l[i]? = some d) {t u : Int} (hdn : p.dn.getD i false = true → p'.dn.getD i false = true) (ha : p.dn.getD i false = true → Aft l p p' i) :
    ((stA l p i t).1 = 4 → (stA l p' i u).1 = 4 ∧ (stA l p' i u).2 = (stA l p i t).2) ∧ ((stA l p i t).1 = 5 → (stA l p' i u).1 = 5 ∧ (stA l p' i u).2 ≤ (stA l p i t).2) ∧ ((stA l p i t).1 ≠ 1 → (stA l p' i u).1 ≠ 1) := by
  cases hb : p.dn.getD i false with
  | false =>
    have e : stA l p i t = (1, -1) := by
      unfold stA; rw [hd]
      show (if p.dn.getD i false = false then _ else _) = _
      rw [if_pos hb]
    rw [e]
    exact ⟨fun h => absurd h (by decide), fun h => absurd h (by decide), fun h => absurd rfl h⟩
  | true =>
    have hb' := hdn hb
    have A := ha hb
    by_cases h0 : 0 ≤ p.lk.getD i 0
    · have e : stA l p i t = (4, p.lk.getD i 0) := by unfold stA; rw [hd]; simp only [hb]; rw [if_neg (by decide), if_pos h0]
      have e' : stA l p' i u = (4, p.lk.getD i 0) := by unfold stA; rw [hd]; simp only [hb', A.lk]; rw [if_neg (by decide), if_pos h0]
      rw [e, e']
      exact ⟨fun _ => ⟨rfl, rfl⟩, fun h => absurd h (show ¬ (4 : Int) = 5 by decide), fun _ => (show (4 : Int) ≠ 1 by decide)⟩
    · have f : ∀ (q : Pl) (v : Int), q.dn.getD i false = true → q.lk.getD i 0 = p.lk.getD i 0 → stA l q i v = (match aget d.no q.rv with | some (x :: r) => (5, minL x r) | _ => if v < d.frm then (2, -1) else if d.til ≤ v then (3, -1) else (0, -1)) := fun q v h1 h2 => by
        unfold stA; rw [hd]; simp only [h1, h2]; rw [if_neg (by decide), if_neg h0]
        cases aget d.no q.rv with
        | none => rfl
        | some z => cases z <;> rfl
      rw [f p t hb rfl, f p' u hb' A.lk]
      have n1 : ∀ v : Int, (if v < d.frm then ((2 : Int), (-1 : Int)) else if d.til ≤ v then (3, -1) else (0, -1)).1 ≠ 4 ∧ (if v < d.frm then ((2 : Int), (-1 : Int)) else if d.til ≤ v then (3, -1) else (0, -1)).1 ≠ 5 ∧ (if v < d.frm then ((2 : Int), (-1 : Int)) else if d.til ≤ v then (3, -1) else (0, -1)).1 ≠ 1 := fun v => by
        split
        · decide
        · split <;> decide
      have n2 : (match aget d.no p'.rv with | some (x :: r) => (5, minL x r) | _ => if u < d.frm then ((2 : Int), (-1 : Int)) else if d.til ≤ u then (3, -1) else (0, -1)).1 ≠ 1 := by
        split
        · exact (by decide : (5 : Int) ≠ 1)
        · exact (n1 u).2.2
      refine ⟨fun h => ?_, fun h => ?_, fun _ => n2⟩
      · exfalso
        split at h
        · exact absurd h (show ¬ (5 : Int) = 4 by decide)
        · exact (n1 t).1 h
      · cases hg : aget d.no p.rv with
        | none => rw [hg] at h; exact absurd h (n1 t).2.1
        | some z =>
          cases z with
          | nil => rw [hg] at h; exact absurd h (n1 t).2.1
          | cons x r =>
            obtain ⟨s, hs⟩ := A.rv _ _ hg
            rw [hs]
            exact ⟨rfl, minL_app x r s⟩
end Go.Proofs.Ytgclicahmbgfiaa

namespace Go.Proofs.Ytgclicahmbgfiaa
open Go Go.Sg
set_option maxRecDepth 100000
set_option maxHeartbeats 20000000
def cut1 (t u : Int) : Int := if t < u then -1 else u
def cutL (sg : List Int) (t : Int) : List Int := sg.map (cut1 t)
theorem sgF_cut {sg : List Int} {t : Int} {i : Nat} (h : sgF sg i ≤ t) : sgF (cutL sg t) i = sgF sg i := by
  unfold sgF cutL at *
  simp only [List.getD, List.getElem?_map] at *
  cases hx : sg[i]? with
  | none => rfl
  | some u =>
    rw [hx] at h
    have h : u ≤ t := h
    show cut1 t u = u
    unfold cut1; rw [if_neg (by omega)]
theorem upB_cut (sg : List Int) (t : Int) (i : Nat) : upB (cutL sg t) t i = upB sg t i := by
  by_cases h : sgF sg i ≤ t
  · unfold upB; rw [sgF_cut h]
  · unfold upB
    rw [decide_eq_false h, Bool.and_false]
    have : sgF (cutL sg t) i = -1 ∨ sgF (cutL sg t) i = sgF sg i := by
      unfold sgF cutL
      simp only [List.getD, List.getElem?_map]
      cases sg[i]? with
      | none => exact .inr rfl
      | some u =>
        show cut1 t u = -1 ∨ cut1 t u = u
        unfold cut1
        by_cases hu : t < u
        · exact .inl (if_pos hu)
        · exact .inr (if_neg hu)
    rcases this with e | e
    · rw [e]; rfl
    · rw [e, decide_eq_false h, Bool.and_false]
theorem dw_congr {p q : Nat → Bool} : ∀ {l : List Nat}, (∀ y ∈ l, p y = q y) → l.dropWhile p = l.dropWhile q
  | [], _ => rfl
  | a :: r, h => by
    rw [List.dropWhile_cons, List.dropWhile_cons, h a (by simp), dw_congr (l := r) fun y hy => h y (by simp [hy])]
theorem insR_congr {f g : Nat → Int} {out : List Nat} {x : Nat} (hx : f x = g x) (h : ∀ y ∈ out, f y = g y) : insR f out x = insR g out x := by
  have : posR f x out = posR g x out := by
    unfold posR
    rw [dw_congr fun y hy => by rw [hx, h y (List.mem_reverse.1 hy)]]
  unfold insR; rw [this]
theorem fold_congr {f g : Nat → Int} : ∀ (xs out : List Nat), (∀ y ∈ xs, f y = g y) → (∀ y ∈ out, f y = g y) → xs.foldl (insR f) out = xs.foldl (insR g) out
  | [], _, _, _ => rfl
  | x :: r, out, h, k => by
    rw [List.foldl_cons, List.foldl_cons, insR_congr (h x (by simp)) k]
    exact fold_congr r _ (fun y hy => h y (by simp [hy])) fun y hy => by
      rcases mem_insR.1 hy with e | e
      · rw [e]; exact h x (by simp)
      · exact k y e
theorem ordL_cut (sg : List Int) (t : Int) : ordL (cutL sg t) t = ordL sg t := by
  unfold ordL ordF
  have hl : (cutL sg t).length = sg.length := by simp [cutL]
  have hu : upL (cutL sg t) t (cutL sg t).length = upL sg t sg.length := by
    unfold upL; rw [hl]
    congr 1
    funext i; exact upB_cut sg t i
  rw [hu]
  refine fold_congr _ _ (fun y hy => ?_) (fun y hy => by cases hy)
  have := (upL_lt hy).2
  unfold upB at this
  rw [Bool.and_eq_true] at this
  exact sgF_cut (of_decide_eq_true this.2)
theorem play_congr {l : List Dc} {a b : List Int} : ∀ (o : List Nat) (p : Pl), (∀ i ∈ o, sgF a i = sgF b i) → o.foldl (stepP l a) p = o.foldl (stepP l b) p
  | [], _, _ => rfl
  | i :: r, p, h => by
    have e : stepP l a p i = stepP l b p i := by unfold stepP; rw [h i (by simp)]
    rw [List.foldl_cons, List.foldl_cons, e]
    exact play_congr r _ fun j hj => h j (by simp [hj])
theorem finP_cut (l : List Dc) (sg : List Int) (t : Int) : finP l (cutL sg t) t = finP l sg t := by
  unfold finP playP
  rw [ordL_cut]
  refine play_congr _ _ fun i hi => ?_
  have := (ordL_mem.1 hi).2
  unfold upB at this
  rw [Bool.and_eq_true] at this
  exact sgF_cut (of_decide_eq_true this.2)
theorem sgB_cut {l : List Dc} {sg : List Int} {t : Int} (h : sgB l sg = true) : sgB l (cutL sg t) = true := by
  unfold sgB at *
  rw [Bool.and_eq_true] at *
  refine ⟨by have := of_decide_eq_true h.1; exact decide_eq_true (by simp [cutL, this]), ?_⟩
  have h2 : sg.any oddB = false := by simpa using h.2
  have : (cutL sg t).any oddB = false := List.any_eq_false.2 fun u hu e => by
    unfold cutL at hu
    obtain ⟨v, hv, rfl⟩ := List.mem_map.1 hu
    unfold cut1 at e
    by_cases hc : t < v
    · rw [if_pos hc] at e; exact absurd e (by decide)
    · rw [if_neg hc] at e; exact absurd e (List.any_eq_false.1 h2 v hv)
  rw [this]; rfl
theorem why_at {l : List Dc} {sg : List Int} {t : Int} {i : Nat} {d : Dc} (hz : chkA l = 0) (hs : sgB l sg = true) (ht : wiB TM t = true) (hd : l[i]? = some d) :
    whyA l sg d.no t = ((stA l (finP l sg t) i t).1, (stA l (finP l sg t) i t).2, 0) := by
  obtain ⟨_, _, hsr, _⟩ := chkA_srt hz
  obtain ⟨d', h1, h2, h3⟩ := ixF_of (l := l) (no := d.no) (List.any_eq_true.2 ⟨d, List.mem_of_getElem? hd, decide_eq_true rfl⟩)
  have hi : ixF l d.no = i := by
    rcases Nat.lt_trichotomy (ixF l d.no) i with h | h | h
    · have := srt_lt Dc.no hsr h h2 hd; omega
    · exact h
    · have := srt_lt Dc.no hsr h hd h2; omega
  unfold whyA
  rw [if_pos hz, hs, ht, h1, hi]
  rfl
theorem later_all {l : List Dc} {sg : List Int} {t u : Int} {i : Nat} {d : Dc} (hsl : sg.length = l.length) (h : t ≤ u) (hd : l[i]? = some d) :
    ((stA l (finP l sg t) i t).1 = 4 → (stA l (finP l sg u) i u).1 = 4 ∧ (stA l (finP l sg u) i u).2 = (stA l (finP l sg t) i t).2) ∧ ((stA l (finP l sg t) i t).1 = 5 → (stA l (finP l sg u) i u).1 = 5 ∧ (stA l (finP l sg u) i u).2 ≤ (stA l (finP l sg t) i t).2) ∧ ((stA l (finP l sg t) i t).1 ≠ 1 → (stA l (finP l sg u) i u).1 ≠ 1) := by
  obtain ⟨R, hR⟩ := ordL_later (sg := sg) h
  have hlt : ∀ v, ∀ j ∈ ordL sg v, j < l.length := fun v j hj => by have := (ordL_mem.1 hj).1; omega
  have hnd := ordL_nodup sg u
  rw [hR] at hnd
  have e : finP l sg u = R.foldl (stepP l sg) (finP l sg t) := by unfold finP playP; rw [hR, List.foldl_append]
  have hdt : (finP l sg t).dn.getD i false = decide (i ∈ ordL sg t) := play_dn _ (hlt t) i
  have hdu : (finP l sg u).dn.getD i false = decide (i ∈ ordL sg u) := play_dn _ (hlt u) i
  refine later_law hd (fun hb => ?_) (fun hb => ?_)
  · rw [hdt] at hb
    rw [hdu, hR]
    exact decide_eq_true (List.mem_append_left _ (of_decide_eq_true hb))
  · rw [hdt] at hb
    rw [e]
    refine Aft.fold R _ fun hm => ?_
    exact (List.nodup_append.1 hnd).2.2 i (of_decide_eq_true hb) i hm rfl
def sto (sg : List Int) (t : Int) (i : Nat) : List Int := (sg.take i).map (cut1 t) ++ List.replicate (sg.length - i) 0
theorem sto_len {sg : List Int} {t : Int} {i : Nat} (h : i ≤ sg.length) : (sto sg t i).length = sg.length := by
  unfold sto; simp; omega
theorem sto_set {sg : List Int} {t u : Int} {i : Nat} (h : sg[i]? = some u) : (sto sg t i).set i (cut1 t u) = sto sg t (i + 1) := by
  have hlt := (List.getElem?_eq_some_iff.1 h).1
  unfold sto
  have hl : ((sg.take i).map (cut1 t)).length = i := by simp; omega
  rw [List.set_append_right _ _ (by omega), hl, Nat.sub_self, List.take_add_one, h, show sg.length - i = (sg.length - (i + 1)) + 1 by omega, List.replicate_succ]
  simp
theorem sto_end (sg : List Int) (t : Int) : sto sg t sg.length = cutL sg t := by unfold sto cutL; simp
theorem later_calls (l : List Dc) (sg : List Int) (t u : Int) (hl : l.length < 140737488355328) (hsl : sg.length < 140737488355328) : PCalls Try.prog 7 [eL l, eIs sg, eI t, eI u] (.bool true) := by
  have q0 := sane_calls
  have q1 := lawRight_calls l sg hl hsl
  have q2 := rtime_calls t
  have q3 := rtime_calls u
  cases hr : rgtB l sg with
  | false =>
    rw [hr] at q1
    refine PCalls.of (N := 154) (res := [.tmp 8]) mixed Try.func7 rfl rfl rfl (by kernel_rfl) (by simp) [0, 1, 2, 3, 8, 9, 10, 11, 13, 14, 15, 16, 17, 18, 19, 20, 21, 22, 24, 43, 47, 48, 49, 50, 60, 65, 66, 67, 68, 120, 152] ?_
    repeat' (first | exact cl1 | ((with_reducible show Exists _); first | exact exHM _ | refine exU8 ?_) | ((with_reducible show callX _ _ _ _ _); (first | refine call_p (q0) (by kernel_rfl) rfl ?_ | refine call_p (q1) (by kernel_rfl) rfl ?_)) | ((fail_if_success refine stp ?_); (conv => whnf) <;> (first | exact cl2 | refine XAlt.l ?_ | refine Sq.pr ?_ | refine Br.dec (fun hc => ?_) (fun hc => ?_) | refine Br.tt ?_ | refine Br.ff ?_ | refine Br.not ?_ | refine Br.mk (fun hc => ?_) (fun hc => ?_) | refine Opt.nn ?_ | refine Opt.ss ?_ | refine AltA.l ?_ | exact PV.leL_nil | refine PV.leL_cons ?_ ?_ | refine And.intro ?_ ?_ | refine ix_map (fun x hx => ?_) | refine exU8 ?_ | refine nilc (fun hn => ?_) ?_ | exact cl3 | refine imp0 (fun hpos => ?_) | refine fits_i64 ?_ ?_ | exact rfl | exact trivial | (first | refine stq ?_ | fail)))) <;> (try exact cl5)
  | true =>
  rw [hr] at q1
  cases ht : wiB TM t with
  | false =>
    rw [ht] at q2
    refine PCalls.of (N := 154) (res := [.tmp 8]) mixed Try.func7 rfl rfl rfl (by kernel_rfl) (by simp) [0, 1, 2, 3, 8, 9, 10, 11, 13, 14, 15, 16, 17, 18, 19, 20, 21, 22, 24, 43, 47, 48, 49, 50, 60, 65, 66, 67, 68, 120, 152] ?_
    repeat' (first | exact cl1 | ((with_reducible show Exists _); first | exact exHM _ | refine exU8 ?_) | ((with_reducible show callX _ _ _ _ _); (first | refine call_p (q0) (by kernel_rfl) rfl ?_ | refine call_p (q1) (by kernel_rfl) rfl ?_ | refine call_p (q2) (by kernel_rfl) rfl ?_)) | ((fail_if_success refine stp ?_); (conv => whnf) <;> (first | exact cl2 | refine XAlt.l ?_ | refine Sq.pr ?_ | refine Br.dec (fun hc => ?_) (fun hc => ?_) | refine Br.tt ?_ | refine Br.ff ?_ | refine Br.not ?_ | refine Br.mk (fun hc => ?_) (fun hc => ?_) | refine Opt.nn ?_ | refine Opt.ss ?_ | refine AltA.l ?_ | exact PV.leL_nil | refine PV.leL_cons ?_ ?_ | refine And.intro ?_ ?_ | refine ix_map (fun x hx => ?_) | refine exU8 ?_ | refine nilc (fun hn => ?_) ?_ | exact cl3 | refine imp0 (fun hpos => ?_) | refine fits_i64 ?_ ?_ | exact rfl | exact trivial | (first | refine stq ?_ | fail)))) <;> (try exact cl5)
  | true =>
  rw [ht] at q2
  cases hu : wiB TM u with
  | false =>
    rw [hu] at q3
    refine PCalls.of (N := 154) (res := [.tmp 8]) mixed Try.func7 rfl rfl rfl (by kernel_rfl) (by simp) [0, 1, 2, 3, 8, 9, 10, 11, 13, 14, 15, 16, 17, 18, 19, 20, 21, 22, 24, 43, 47, 48, 49, 50, 60, 65, 66, 67, 68, 120, 152] ?_
    repeat' (first | exact cl1 | ((with_reducible show Exists _); first | exact exHM _ | refine exU8 ?_) | ((with_reducible show callX _ _ _ _ _); (first | refine call_p (q0) (by kernel_rfl) rfl ?_ | refine call_p (q1) (by kernel_rfl) rfl ?_ | refine call_p (q2) (by kernel_rfl) rfl ?_ | refine call_p (q3) (by kernel_rfl) rfl ?_)) | ((fail_if_success refine stp ?_); (conv => whnf) <;> (first | exact cl2 | refine XAlt.l ?_ | refine Sq.pr ?_ | refine Br.dec (fun hc => ?_) (fun hc => ?_) | refine Br.tt ?_ | refine Br.ff ?_ | refine Br.not ?_ | refine Br.mk (fun hc => ?_) (fun hc => ?_) | refine Opt.nn ?_ | refine Opt.ss ?_ | refine AltA.l ?_ | exact PV.leL_nil | refine PV.leL_cons ?_ ?_ | refine And.intro ?_ ?_ | refine ix_map (fun x hx => ?_) | refine exU8 ?_ | refine nilc (fun hn => ?_) ?_ | exact cl3 | refine imp0 (fun hpos => ?_) | refine fits_i64 ?_ ?_ | exact rfl | exact trivial | (first | refine stq ?_ | fail)))) <;> (try exact cl5)
  | true =>
  rw [hu] at q3
  by_cases htu : u < t
  · refine PCalls.of (N := 154) (res := [.tmp 8]) mixed Try.func7 rfl rfl rfl (by kernel_rfl) (by simp) [0, 1, 2, 3, 8, 9, 10, 11, 13, 14, 15, 16, 17, 18, 19, 20, 21, 22, 24, 43, 47, 48, 49, 50, 60, 65, 66, 67, 68, 120, 152] ?_
    repeat' (first | exact cl1 | ((with_reducible show Exists _); first | exact exHM _ | refine exU8 ?_) | ((with_reducible show callX _ _ _ _ _); (first | refine call_p (q0) (by kernel_rfl) rfl ?_ | refine call_p (q1) (by kernel_rfl) rfl ?_ | refine call_p (q2) (by kernel_rfl) rfl ?_ | refine call_p (q3) (by kernel_rfl) rfl ?_)) | ((fail_if_success refine stp ?_); (conv => whnf) <;> (first | exact cl2 | refine Br.dec (fun hc => ?_) (fun hc => absurd htu hc) | refine XAlt.l ?_ | refine Sq.pr ?_ | refine Br.dec (fun hc => ?_) (fun hc => ?_) | refine Br.tt ?_ | refine Br.ff ?_ | refine Br.not ?_ | refine Br.mk (fun hc => ?_) (fun hc => ?_) | refine Opt.nn ?_ | refine Opt.ss ?_ | refine AltA.l ?_ | exact PV.leL_nil | refine PV.leL_cons ?_ ?_ | refine And.intro ?_ ?_ | refine ix_map (fun x hx => ?_) | refine exU8 ?_ | refine nilc (fun hn => ?_) ?_ | exact cl3 | refine imp0 (fun hpos => ?_) | refine fits_i64 ?_ ?_ | exact rfl | exact trivial | (first | refine stq ?_ | fail)))) <;> (try exact cl5)
  obtain ⟨h20, hd, hz, hs⟩ := rgtB_f hr
  have hsz := sgB_len hs
  refine PCalls.of (N := 154) (res := [.tmp 8]) mixed Try.func7 rfl rfl rfl (by kernel_rfl) (by simp) [0, 1, 2, 3, 8, 9, 10, 11, 13, 14, 15, 16, 17, 18, 19, 20, 21, 22, 24, 43, 47, 48, 49, 50, 60, 65, 66, 67, 68, 120, 152] ?_
  repeat' (first | exact cl1 | ((with_reducible show Exists _); first | exact exHM _ | refine exU8 ?_) | ((with_reducible show callX _ _ _ _ _); (first | refine call_p (q0) (by kernel_rfl) rfl ?_ | refine call_p (q1) (by kernel_rfl) rfl ?_ | refine call_p (q2) (by kernel_rfl) rfl ?_ | refine call_p (q3) (by kernel_rfl) rfl ?_)) | ((fail_if_success refine stp ?_); (conv => whnf) <;> (first | exact cl2 | refine Br.dec (fun hc => absurd hc htu) (fun hc => ?_) | refine XAlt.l ?_ | refine Sq.pr ?_ | refine Br.dec (fun hc => ?_) (fun hc => ?_) | refine Br.tt ?_ | refine Br.ff ?_ | refine Br.not ?_ | refine Br.mk (fun hc => ?_) (fun hc => ?_) | refine Opt.nn ?_ | refine Opt.ss ?_ | refine AltA.l ?_ | exact PV.leL_nil | refine PV.leL_cons ?_ ?_ | refine And.intro ?_ ?_ | refine ix_map (fun x hx => ?_) | refine exU8 ?_ | refine nilc (fun hn => ?_) ?_ | exact cl3 | refine imp0 (fun hpos => ?_) | refine fits_i64 ?_ ?_ | exact rfl | exact trivial | (first | refine stq ?_ | fail)))) <;> (try exact cl5)
  refine Wpc.loopA (α := {i : Nat // i ≤ sg.length}) mixed [0, 1, 2, 3, 8, 9, 10, 11, 13, 14, 15, 16, 17, 18, 19, 20, 21, 22, 24, 43, 47, 48, 49, 50, 60, 65, 66, 67, 68, 120, 152] (fun i => [(49, .p (eI i.1))]) (fun i => [(1536, .row 1 ((sto sg t i.1).map eI))]) (fun _ => 0) (fun i => sg.length - i.1) ⟨0, by omega⟩ ?_ ?_
  · (first | refine Ent.ofA [] ?_ | refine Ent.ofC [] ?_) <;> (repeat' (first | exact trivial | refine HpLe.dd ?_ | refine HpLe.mk rfl (by simp) rfl (fun h => AObj.noConfusion h) ?_ ?_ | refine And.intro ?_ ?_ | exact cl9 | refine VLe.pe ?_ | refine VLe.agg ?_ | refine VLe.tup ?_ | refine VLe.fn ?_ ?_ | refine VLeL.cons ?_ ?_ | exact VLeL.nil | exact OLe.row _ _ | rfl | refine VLe.rsle rfl ?_ ?_ ?_ | refine OLe.rowe2 ?_ ?_ | refine OLe.mape ?_ ?_ | refine OLe.iter0 ?_ | refine OLe.itere ?_ ?_ | refine OLe.chane ?_ ?_ | refine OLe.mapSe ?_ ?_ ?_ | exact OLe.mapS0 rfl)) <;> try (first | (simp; done) | (congr 1; omega) | (congr 1; (first | (simp; done) | (simp; omega))))
    try (show List.replicate (((sg.map eI).length : Nat) : Int).toNat (eI 0) = (sto sg t 0).map eI; simp [sto])
  rintro ⟨i, hi⟩
  have hi : i ≤ sg.length := hi
  have hstl := sto_len (t := t) hi
  cases hxi : sg[i]? with
  | some y =>
    have hlt : i < sg.length := (List.getElem?_eq_some_iff.1 hxi).1
    have hyes : ((i : Int) < ((sg.map eI).length : Int)) := by rw [List.length_map]; omega
    have hset := sto_set (t := t) hxi
    by_cases hty : t < y
    · have hc1 : cut1 t y = -1 := by unfold cut1; rw [if_pos hty]
      repeat' (first | exact cl1 | ((with_reducible show Exists _); first | exact exHM _ | refine exU8 ?_) | ((fail_if_success refine stp ?_); (conv => whnf) <;> (first | exact cl2 | refine Br.dec (fun hc => ?_) (fun hc => absurd hty hc) | refine Br.dec (fun hc => ?_) (fun hc => absurd hyes hc) | refine ix_at hxi ?_ | refine XAlt.l ?_ | refine Sq.pr ?_ | refine Br.dec (fun hc => ?_) (fun hc => ?_) | refine Br.tt ?_ | refine Br.ff ?_ | refine Br.not ?_ | refine Br.mk (fun hc => ?_) (fun hc => ?_) | refine Opt.nn ?_ | refine Opt.ss ?_ | refine AltA.l ?_ | exact PV.leL_nil | refine PV.leL_cons ?_ ?_ | refine And.intro ?_ ?_ | refine ix_map (fun x hx => ?_) | refine exU8 ?_ | refine nilc (fun hn => ?_) ?_ | exact cl3 | refine imp0 (fun hpos => ?_) | refine fits_i64 ?_ ?_ | exact rfl | exact trivial | (first | refine stq ?_ | fail)))) <;> (try exact cl5)
      refine ⟨⟨i + 1, hlt⟩, by show sg.length - (i + 1) < sg.length - i; omega, ?_⟩
      (first | refine Ent.ofA [] ?_ | refine Ent.ofC [] ?_) <;> (repeat' (first | exact trivial | refine HpLe.dd ?_ | refine HpLe.mk rfl (by simp) rfl (fun h => AObj.noConfusion h) ?_ ?_ | refine And.intro ?_ ?_ | exact cl9 | refine VLe.pe ?_ | refine VLe.agg ?_ | refine VLe.tup ?_ | refine VLe.fn ?_ ?_ | refine VLeL.cons ?_ ?_ | exact VLeL.nil | exact OLe.row _ _ | rfl | refine VLe.rsle rfl ?_ ?_ ?_ | refine OLe.rowe2 ?_ ?_ | refine OLe.mape ?_ ?_ | refine OLe.iter0 ?_ | refine OLe.itere ?_ ?_ | refine OLe.chane ?_ ?_ | refine OLe.mapSe ?_ ?_ ?_ | exact OLe.mapS0 rfl)) <;> try (first | (simp; done) | (congr 1; omega) | (congr 1; (first | (simp; done) | (simp; omega))))
      show (((sto sg t i).map eI).set (0 + (i : Int).toNat) (eI y)).set (0 + (i : Int).toNat) (eI (-1)) = (sto sg t (i + 1)).map eI
      rw [List.set_set, show 0 + (i : Int).toNat = i by omega, ← List.map_set, ← hc1, hset]
    · have hc1 : cut1 t y = y := by unfold cut1; rw [if_neg hty]
      repeat' (first | exact cl1 | ((with_reducible show Exists _); first | exact exHM _ | refine exU8 ?_) | ((fail_if_success refine stp ?_); (conv => whnf) <;> (first | exact cl2 | refine Br.dec (fun hc => absurd hc hty) (fun hc => ?_) | refine Br.dec (fun hc => ?_) (fun hc => absurd hyes hc) | refine ix_at hxi ?_ | refine XAlt.l ?_ | refine Sq.pr ?_ | refine Br.dec (fun hc => ?_) (fun hc => ?_) | refine Br.tt ?_ | refine Br.ff ?_ | refine Br.not ?_ | refine Br.mk (fun hc => ?_) (fun hc => ?_) | refine Opt.nn ?_ | refine Opt.ss ?_ | refine AltA.l ?_ | exact PV.leL_nil | refine PV.leL_cons ?_ ?_ | refine And.intro ?_ ?_ | refine ix_map (fun x hx => ?_) | refine exU8 ?_ | refine nilc (fun hn => ?_) ?_ | exact cl3 | refine imp0 (fun hpos => ?_) | refine fits_i64 ?_ ?_ | exact rfl | exact trivial | (first | refine stq ?_ | fail)))) <;> (try exact cl5)
      refine ⟨⟨i + 1, hlt⟩, by show sg.length - (i + 1) < sg.length - i; omega, ?_⟩
      (first | refine Ent.ofA [] ?_ | refine Ent.ofC [] ?_) <;> (repeat' (first | exact trivial | refine HpLe.dd ?_ | refine HpLe.mk rfl (by simp) rfl (fun h => AObj.noConfusion h) ?_ ?_ | refine And.intro ?_ ?_ | exact cl9 | refine VLe.pe ?_ | refine VLe.agg ?_ | refine VLe.tup ?_ | refine VLe.fn ?_ ?_ | refine VLeL.cons ?_ ?_ | exact VLeL.nil | exact OLe.row _ _ | rfl | refine VLe.rsle rfl ?_ ?_ ?_ | refine OLe.rowe2 ?_ ?_ | refine OLe.mape ?_ ?_ | refine OLe.iter0 ?_ | refine OLe.itere ?_ ?_ | refine OLe.chane ?_ ?_ | refine OLe.mapSe ?_ ?_ ?_ | exact OLe.mapS0 rfl)) <;> try (first | (simp; done) | (congr 1; omega) | (congr 1; (first | (simp; done) | (simp; omega))))
      show ((sto sg t i).map eI).set (0 + (i : Int).toNat) (eI y) = (sto sg t (i + 1)).map eI
      rw [show 0 + (i : Int).toNat = i by omega, ← List.map_set, ← hset, hc1]
  | none =>
    have hge : sg.length ≤ i := List.getElem?_eq_none_iff.1 hxi
    have hno : ¬ ((i : Int) < ((sg.map eI).length : Int)) := by rw [List.length_map]; omega
    have hil : i = sg.length := by omega
    have hrow : sto sg t i = cutL sg t := by rw [hil]; exact sto_end sg t
    rw [hrow]
    have hcl : (cutL sg t).length = sg.length := by simp [cutL]
    repeat' (first | exact cl1 | ((with_reducible show Exists _); first | exact exHM _ | refine exU8 ?_) | ((fail_if_success refine stp ?_); (conv => whnf) <;> (first | exact cl2 | refine Sq.fz (id := 13) [(9, false)] ?_ | refine Br.dec (fun hc => absurd hc hno) (fun hc => ?_) | refine XAlt.l ?_ | refine Sq.pr ?_ | refine Br.dec (fun hc => ?_) (fun hc => ?_) | refine Br.tt ?_ | refine Br.ff ?_ | refine Br.not ?_ | refine Br.mk (fun hc => ?_) (fun hc => ?_) | refine Opt.nn ?_ | refine Opt.ss ?_ | refine AltA.l ?_ | exact PV.leL_nil | refine PV.leL_cons ?_ ?_ | refine And.intro ?_ ?_ | refine ix_map (fun x hx => ?_) | refine exU8 ?_ | refine nilc (fun hn => ?_) ?_ | exact cl3 | refine imp0 (fun hpos => ?_) | refine fits_i64 ?_ ?_ | exact rfl | exact trivial | (first | refine stq ?_ | fail)))) <;> (try exact cl5)
    refine Wpc.loopB (α := {k : Nat // k ≤ l.length}) mixed [0, 1, 2, 3, 8, 9, 10, 11, 13, 14, 15, 16, 17, 18, 19, 20, 21, 22, 24, 43, 47, 48, 49, 50, 60, 65, 66, 67, 68, 120, 152] (fun k => [(67, .p (eI k.1))]) (fun k => l.length - k.1) ⟨0, by omega⟩ ?_ ?_
    · (first | refine Ent.ofA [] ?_ | refine Ent.ofC [] ?_) <;> (repeat' (first | exact trivial | refine HpLe.dd ?_ | refine HpLe.mk rfl (by simp) rfl (fun h => AObj.noConfusion h) ?_ ?_ | refine And.intro ?_ ?_ | exact cl9 | refine VLe.pe ?_ | refine VLe.agg ?_ | refine VLe.tup ?_ | refine VLe.fn ?_ ?_ | refine VLeL.cons ?_ ?_ | exact VLeL.nil | exact OLe.row _ _ | rfl | refine VLe.rsle rfl ?_ ?_ ?_ | refine OLe.rowe2 ?_ ?_ | refine OLe.mape ?_ ?_ | refine OLe.iter0 ?_ | refine OLe.itere ?_ ?_ | refine OLe.chane ?_ ?_ | refine OLe.mapSe ?_ ?_ ?_ | exact OLe.mapS0 rfl)) <;> try (first | (simp; done) | (congr 1; omega) | (congr 1; (first | (simp; done) | (simp; omega))))
    rintro ⟨k, hk⟩
    have hk : k ≤ l.length := hk
    cases hx : l[k]? with
    | none =>
      have hge2 : l.length ≤ k := List.getElem?_eq_none_iff.1 hx
      have hno2 : ¬ ((k : Int) < ((l.map eA).length : Int)) := by rw [List.length_map]; omega
      repeat' (first | exact cl1 | ((with_reducible show Exists _); first | exact exHM _ | refine exU8 ?_) | ((fail_if_success refine stp ?_); (conv => whnf) <;> (first | exact cl2 | refine Br.dec (fun hc => absurd hc hno2) (fun hc => ?_) | refine XAlt.l ?_ | refine Sq.pr ?_ | refine Br.dec (fun hc => ?_) (fun hc => ?_) | refine Br.tt ?_ | refine Br.ff ?_ | refine Br.not ?_ | refine Br.mk (fun hc => ?_) (fun hc => ?_) | refine Opt.nn ?_ | refine Opt.ss ?_ | refine AltA.l ?_ | exact PV.leL_nil | refine PV.leL_cons ?_ ?_ | refine And.intro ?_ ?_ | refine ix_map (fun x hx => ?_) | refine exU8 ?_ | refine nilc (fun hn => ?_) ?_ | exact cl3 | refine imp0 (fun hpos => ?_) | refine fits_i64 ?_ ?_ | exact rfl | exact trivial | (first | refine stq ?_ | fail)))) <;> (try exact cl5)
    | some d =>
      have hlt2 := (List.getElem?_eq_some_iff.1 hx).1
      have hyes2 : ((k : Int) < ((l.map eA).length : Int)) := by rw [List.length_map]; omega
      have hL := later_all (t := t) (u := u) hsz (by omega) hx
      have q5 := why_calls l sg d.no t h20 hd (by omega)
      have q6 := why_calls l (cutL sg t) d.no t h20 hd (by omega)
      have q7 := why_calls l sg d.no u h20 hd (by omega)
      rw [why_at hz hs ht hx] at q5
      rw [why_at hz (sgB_cut hs) ht hx, finP_cut] at q6
      rw [why_at hz hs hu hx] at q7
      have e6 : eIs (cutL sg t) = .sl 1 false (List.take (((sg.map eI).length : Nat) : Int).toNat (List.drop 0 (List.map eI (cutL sg t)))) := by
        rw [List.drop_zero, List.take_of_length_le (by simp only [List.length_map, hcl]; omega)]; rfl
      rw [e6] at q6
      generalize stA l (finP l sg t) k t = w1 at *
      generalize stA l (finP l sg u) k u = w2 at *
      obtain ⟨x, b⟩ := w1
      obtain ⟨z, c⟩ := w2
      have hL : (x = 4 → z = 4 ∧ c = b) ∧ (x = 5 → z = 5 ∧ c ≤ b) ∧ (x ≠ 1 → z ≠ 1) := hL
      repeat' (first | exact cl1 | ((with_reducible show Exists _); first | exact exHM _ | refine exU8 ?_) | ((with_reducible show callX _ _ _ _ _); (first | refine call_p (q5) (by kernel_rfl) rfl ?_ | refine call_p (q6) (by kernel_rfl) rfl ?_ | refine call_p (q7) (by kernel_rfl) rfl ?_)) | ((fail_if_success refine stp ?_); (conv => whnf) <;> (first | exact cl2 | refine Br.dec (fun hc => absurd rfl hc) (fun hc => ?_) | refine Br.dec (fun hc => ?_) (fun hc => absurd hyes2 hc) | refine ix_at hx ?_ | refine XAlt.l ?_ | refine Sq.pr ?_ | refine Br.dec (fun hc => ?_) (fun hc => ?_) | refine Br.tt ?_ | refine Br.ff ?_ | refine Br.not ?_ | refine Br.mk (fun hc => ?_) (fun hc => ?_) | refine Opt.nn ?_ | refine Opt.ss ?_ | refine AltA.l ?_ | exact PV.leL_nil | refine PV.leL_cons ?_ ?_ | refine And.intro ?_ ?_ | refine ix_map (fun x hx => ?_) | refine exU8 ?_ | refine nilc (fun hn => ?_) ?_ | exact cl3 | refine imp0 (fun hpos => ?_) | refine fits_i64 ?_ ?_ | exact rfl | exact trivial | (first | refine stq ?_ | fail)))) <;> (try exact cl5)
      all_goals first
      | (refine ⟨⟨k + 1, hlt2⟩, by show l.length - (k + 1) < l.length - k; omega, ?_⟩
         (first | refine Ent.ofA [] ?_ | refine Ent.ofC [] ?_) <;> (repeat' (first | exact trivial | refine HpLe.dd ?_ | refine HpLe.mk rfl (by simp) rfl (fun h => AObj.noConfusion h) ?_ ?_ | refine And.intro ?_ ?_ | exact cl9 | refine VLe.pe ?_ | refine VLe.agg ?_ | refine VLe.tup ?_ | refine VLe.fn ?_ ?_ | refine VLeL.cons ?_ ?_ | exact VLeL.nil | exact OLe.row _ _ | rfl | refine VLe.rsle rfl ?_ ?_ ?_ | refine OLe.rowe2 ?_ ?_ | refine OLe.mape ?_ ?_ | refine OLe.iter0 ?_ | refine OLe.itere ?_ ?_ | refine OLe.chane ?_ ?_ | refine OLe.mapSe ?_ ?_ ?_ | exact OLe.mapS0 rfl)) <;> try (first | (simp; done) | (congr 1; omega) | (congr 1; (first | (simp; done) | (simp; omega))))
         done)
      | (exfalso; omega)
      | (exfalso; dsimp only at *; omega)
      | trace_state
end Go.Proofs.Ytgclicahmbgfiaa

namespace Go.Proofs.Ytgclicahmbgfiaa
open Go Go.Sg
set_option maxRecDepth 100000
set_option maxHeartbeats 8000000
theorem rI : Rdc Try.prog 3 Int (fun n => [eI n]) (fun n => (Lit.int .i64 n).wf = true) := Rdc.int (by kernel_rfl) (by kernel_rfl)
def okIs (l : List Int) : Prop := l.length ≤ reachBytes ∧ ∀ b ∈ l, (Lit.int .i64 b).wf = true
theorem rIs : Rdc Try.prog 23 (List Int) (fun b => [eIs b]) okIs :=
  Rdc.slice (e := 3) (sz := 1) (by kernel_rfl) (by kernel_rfl) rI (by kernel_rfl) (by decide) (of_decide_eq_true (by kernel_rfl)) (fun _ _ => rfl)
theorem rU8 : Rdc Try.prog 5 Int (fun n => [.int .u8 n]) (fun n => (Lit.int .u8 n).wf = true) := Rdc.int (by kernel_rfl) (by kernel_rfl)
theorem wf_u8 {n : Int} (h : (Lit.int .u8 n).wf = true) : 0 ≤ n ∧ n ≤ 255 := by
  simp [Lit.wf, IntKind.min, IntKind.max, IntKind.signed, IntKind.bits] at h; omega
theorem rTx : Rdc Try.prog 25 (List Int) (fun l => l.flatMap fun n => [.int .u8 n]) (fun l => l.length = 32 ∧ ∀ x ∈ l, (Lit.int .u8 x).wf = true) :=
  Rdc.array (e := 5) (n := 32) (sz := 1) (by kernel_rfl) rU8 (by kernel_rfl) (by kernel_rfl) (by decide)
structure okDc (x : Dc) : Prop where
  par : okIs x.par
  rev : okIs x.rev
  need : okIs x.need
  tx : ∀ i, i < 32 → 0 ≤ x.tx i ∧ x.tx i ≤ 255
abbrev RT := Int × Int × Int × Int × Int × Int × List Int × List Int × List Int × List Int × Unit
def toD (x : RT) : Dc := ⟨x.1, x.2.1, x.2.2.1, x.2.2.2.1, x.2.2.2.2.1, x.2.2.2.2.2.1, x.2.2.2.2.2.2.1, x.2.2.2.2.2.2.2.1, x.2.2.2.2.2.2.2.2.1, fun i => x.2.2.2.2.2.2.2.2.2.1.getD i 0⟩
theorem tx32 (L : List Int) (h : L.length = 32) : (L.flatMap fun n => [PV.int .u8 n]) = [u8 (L.getD 0 0), u8 (L.getD 1 0), u8 (L.getD 2 0), u8 (L.getD 3 0), u8 (L.getD 4 0), u8 (L.getD 5 0), u8 (L.getD 6 0), u8 (L.getD 7 0), u8 (L.getD 8 0), u8 (L.getD 9 0), u8 (L.getD 10 0), u8 (L.getD 11 0), u8 (L.getD 12 0), u8 (L.getD 13 0), u8 (L.getD 14 0), u8 (L.getD 15 0), u8 (L.getD 16 0), u8 (L.getD 17 0), u8 (L.getD 18 0), u8 (L.getD 19 0), u8 (L.getD 20 0), u8 (L.getD 21 0), u8 (L.getD 22 0), u8 (L.getD 23 0), u8 (L.getD 24 0), u8 (L.getD 25 0), u8 (L.getD 26 0), u8 (L.getD 27 0), u8 (L.getD 28 0), u8 (L.getD 29 0), u8 (L.getD 30 0), u8 (L.getD 31 0)] := by
  match L, h with
  | [a0, a1, a2, a3, a4, a5, a6, a7, a8, a9, a10, a11, a12, a13, a14, a15, a16, a17, a18, a19, a20, a21, a22, a23, a24, a25, a26, a27, a28, a29, a30, a31], _ => rfl
theorem okA_one (x : Dc) : ∀ c ∈ (eA x).cells, c.one = true := fun c hc => by
  have h : (eA x).cells.all (fun c => c.one) = true := rfl
  exact List.all_eq_true.1 h c hc
theorem rDc : Rdc Try.prog 27 Dc (fun x => (eA x).cells) okDc := by
  have h := Rdc.struct (P := Try.prog) (t := 27) Try.underlying27 (Rdf.cons rI (Rdf.cons rI (Rdf.cons rI (Rdf.cons rI (Rdf.cons rI (Rdf.cons rI (Rdf.cons rIs (Rdf.cons rIs (Rdf.cons rIs (Rdf.cons rTx Rdf.nil (by kernel_rfl) rfl) (by kernel_rfl) rfl) (by kernel_rfl) rfl) (by kernel_rfl) rfl) (by kernel_rfl) rfl) (by kernel_rfl) rfl) (by kernel_rfl) rfl) (by kernel_rfl) rfl) (by kernel_rfl) rfl) (by kernel_rfl) rfl) (by kernel_rfl)
  exact {
    sz := fun x _ => by
      have e : Try.prog.cellsOf 27 = 41 := by kernel_rfl
      rw [e]; rfl
    one := fun x _ => okA_one x
    rd := by
      intro H enc w n cs y hr hw
      obtain ⟨x, h1, h2, h3⟩ := h.rd hr hw
      obtain ⟨b1, b2, b3, b4, b5, b6, b7, b8, b9, b10, _⟩ := x
      obtain ⟨_, _, _, _, _, _, c7, c8, c9, c10, _⟩ := h1
      refine ⟨toD (b1, b2, b3, b4, b5, b6, b7, b8, b9, b10, ()), ⟨c7, c8, c9, fun i hi => ?_⟩, h2, fun i p hp => h3 i p ?_⟩
      · have hl : i < b10.length := by have := c10.1; simp only at this; omega
        have e : (toD (b1, b2, b3, b4, b5, b6, b7, b8, b9, b10, ())).tx i = b10[i] := by
          show b10.getD i 0 = b10[i]
          simp [List.getD, hl]
        rw [e]
        exact wf_u8 (c10.2 _ (List.getElem_mem hl))
      · show ([eI b1] ++ ([eI b2] ++ ([eI b3] ++ ([eI b4] ++ ([eI b5] ++ ([eI b6] ++ ([eIs b7] ++ ([eIs b8] ++ ([eIs b9] ++ ((b10.flatMap fun n => [PV.int .u8 n]) ++ []))))))))))[i]? = some p
        rw [tx32 b10 c10.1]
        exact hp }
def okL (l : List Dc) : Prop := l.length ≤ reachBytes ∧ ∀ b ∈ l, okDc b
theorem rL : Rdc Try.prog 22 (List Dc) (fun b => [eL b]) okL :=
  Rdc.slice (e := 27) (sz := 41) (ep := eA) (by kernel_rfl) (by kernel_rfl) rDc (by kernel_rfl) (by decide) (of_decide_eq_true (by kernel_rfl)) (fun _ _ => rfl)
theorem aI : Rda Try.prog 3 Int eI (fun n => (Lit.int .i64 n).wf = true) := Rda.one rI (by kernel_rfl)
theorem aDc : Rda Try.prog 27 Dc eA okDc := Rda.agg rDc (by kernel_rfl)
theorem aL : Rda Try.prog 22 (List Dc) eL okL := Rda.one rL (by kernel_rfl)
theorem aIs : Rda Try.prog 23 (List Int) eIs okIs := Rda.one rIs (by kernel_rfl)
theorem okL.len {l : List Dc} (h : okL l) : l.length < 140737488355328 := Nat.lt_of_le_of_lt h.1 reachBytes_lt
theorem okIs.len {l : List Int} (h : okIs l) : l.length < 140737488355328 := Nat.lt_of_le_of_lt h.1 reachBytes_lt
theorem okDc.d {x : Dc} (h : okDc x) : x.par.length < 140737488355328 ∧ x.rev.length < 140737488355328 ∧ x.need.length < 140737488355328 := ⟨h.par.len, h.rev.len, h.need.len⟩
theorem own : ownKnob Try.prog.godebug = none := by kernel_rfl
end Go.Proofs.Ytgclicahmbgfiaa
