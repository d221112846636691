/- A part of the proof: contracts of the functions that the statement reaches. -/
import Derived.Test.YtgclicahmbgfiaaChp2
import Derived.Test.YtgclicahmbgfiaaRows
set_option linter.unusedSimpArgs false
set_option linter.unusedVariables false
set_option linter.unnecessarySimpa false
open Go.Sg.XAlt renaming l → kX
open Go.Sg.Sq renaming pr → kP
open Go.Sg.Br renaming tt → kT, ff → kF, not → kN, dec → kBd, mk → kBm
open Go.Sg.Opt renaming nn → kO, ss → kS
open Go.Sg.AltA renaming l → kA
open Go.Sg.PV renaming leL_cons → kC
open Go.Sg renaming fits_i64 → kG
open Go.Sg.VLe renaming pe → kVp, agg → kVa, tup → kVt, fn → kVf
open Go.Sg.VLeL renaming cons → kVc
open Go.Sg.OLe renaming rowe2 → kQw, mape → kQm, itere → kQj, chane → kQc, mapSe → kQs
open Go.Sg.HpLe renaming dd → kHd, mk → kHm
namespace Go.Proofs.Ytgclicahmbgfiaa
open Go Go.Sg
set_option maxRecDepth 100000
set_option maxHeartbeats 20000000
theorem revsB_succ (l : List Dc) (sg : List Int) (t no : Int) (k : Nat) : revsB l sg t no (k + 1) = (revsB l sg t no k || (upB sg t k && revB l no k && effI l sg k)) := by
  unfold revsB; rw [List.range_succ, List.any_append]; simp
theorem stA_by0 {l : List Dc} {P : Pl} {i : Nat} {t : Int} {d : Dc} (hd : l[i]? = some d) : (stA l P i t).1 = 0 → (stA l P i t).2 = -1 := by
  unfold stA
  rw [hd]
  simp only
  repeat' split
  all_goals first
  | (intro _; rfl)
  | (intro h; simp at h)
theorem force_calls (l : List Dc) (sg : List Int) (t : Int) (hl : l.length < 140737488355328) (hsl : sg.length < 140737488355328) : PCalls Try.prog 5 [eL l, eIs sg, eI t] (.bool true) := by
  have q0 := sane_calls
  have q1 := lawRight_calls l sg hl hsl
  have q2 := rtime_calls t
  cases hr : rgtB l sg with
  | false =>
    rw [hr] at q1
    refine PCalls.of (N := 168) (res := [.tmp 6]) mixed Try.func5 rfl rfl rfl (by kernel_rfl) (by simp) [0, 1, 2, 6, 7, 8, 9, 10, 11, 12, 13, 14, 15, 16, 17, 18, 19, 20, 21, 23, 32, 41, 42, 43, 44, 45, 74, 83, 85, 86, 87, 88, 114, 123, 159, 160] ?_
    repeat' (first | exact cl1 | (refine stx ?_; first | exact exHM _ | refine exU8 ?_) | ((with_reducible show callX _ _ _ _ _); (first | refine call_p (q0) (by kernel_rfl) rfl ?_ | refine call_p (q1) (by kernel_rfl) rfl ?_)) | ((fail_if_success refine stp ?_); (conv => whnf) <;> (first | exact cl2 | refine kX ?_ | refine kP ?_ | refine kBd (fun hc => ?_) (fun hc => ?_) | refine kT ?_ | refine kF ?_ | refine kN ?_ | refine kBm (fun hc => ?_) (fun hc => ?_) | refine kO ?_ | refine kS ?_ | refine kA ?_ | exact PV.leL_nil | refine kC ?_ ?_ | refine And.intro ?_ ?_ | refine ix_map (fun x hx => ?_) | refine exU8 ?_ | refine nilc (fun hn => ?_) ?_ | exact cl3 | refine imp0 (fun hpos => ?_) | refine kG ?_ ?_ | exact rfl | exact trivial | (first | refine stq ?_ | fail)))) <;> (try exact cl5)
  | true =>
  rw [hr] at q1
  cases ht : wiB TM t with
  | false =>
    rw [ht] at q2
    refine PCalls.of (N := 168) (res := [.tmp 6]) mixed Try.func5 rfl rfl rfl (by kernel_rfl) (by simp) [0, 1, 2, 6, 7, 8, 9, 10, 11, 12, 13, 14, 15, 16, 17, 18, 19, 20, 21, 23, 32, 41, 42, 43, 44, 45, 74, 83, 85, 86, 87, 88, 114, 123, 159, 160] ?_
    repeat' (first | exact cl1 | (refine stx ?_; first | exact exHM _ | refine exU8 ?_) | ((with_reducible show callX _ _ _ _ _); (first | refine call_p (q0) (by kernel_rfl) rfl ?_ | refine call_p (q1) (by kernel_rfl) rfl ?_ | refine call_p (q2) (by kernel_rfl) rfl ?_)) | ((fail_if_success refine stp ?_); (conv => whnf) <;> (first | exact cl2 | refine kX ?_ | refine kP ?_ | refine kBd (fun hc => ?_) (fun hc => ?_) | refine kT ?_ | refine kF ?_ | refine kN ?_ | refine kBm (fun hc => ?_) (fun hc => ?_) | refine kO ?_ | refine kS ?_ | refine kA ?_ | exact PV.leL_nil | refine kC ?_ ?_ | refine And.intro ?_ ?_ | refine ix_map (fun x hx => ?_) | refine exU8 ?_ | refine nilc (fun hn => ?_) ?_ | exact cl3 | refine imp0 (fun hpos => ?_) | refine kG ?_ ?_ | exact rfl | exact trivial | (first | refine stq ?_ | fail)))) <;> (try exact cl5)
  | true =>
  rw [ht] at q2
  obtain ⟨h20, hd, hz, hs⟩ := rgtB_f hr
  have hsz := sgB_len hs
  obtain ⟨_, _, hsr, _⟩ := chkA_srt hz
  have q3 := inForce_calls l sg t h20 hd (by omega)
  have e3 : inA l sg t = (forL l (finP l sg t) t l.length, 0) := by unfold inA; rw [if_pos hz, hs, ht]; rfl
  rw [e3] at q3
  have hlaw := fun (i : Nat) (d : Dc) (h : l[i]? = some d) => force_law (t := t) hz hd hsz h
  have hwhy := fun (i : Nat) (d : Dc) (h : l[i]? = some d) => why_at hz hs ht h
  have q3 : PCalls Try.prog 20 [eL l, eIs sg, eI t] (.tup [eIs (forL l (finP l sg t) t l.length), eI 0]) := q3
  generalize finP l sg t = P at *
  have hIl := forL_len l P t l.length
  refine PCalls.of (N := 168) (res := [.tmp 6]) mixed Try.func5 rfl rfl rfl (by kernel_rfl) (by simp) [0, 1, 2, 6, 7, 8, 9, 10, 11, 12, 13, 14, 15, 16, 17, 18, 19, 20, 21, 23, 32, 41, 42, 43, 44, 45, 74, 83, 85, 86, 87, 88, 114, 123, 159, 160] ?_
  repeat' (first | exact cl1 | (refine stx ?_; first | exact exHM _ | refine exU8 ?_) | ((with_reducible show callX _ _ _ _ _); (first | refine call_p (q0) (by kernel_rfl) rfl ?_ | refine call_p (q1) (by kernel_rfl) rfl ?_ | refine call_p (q2) (by kernel_rfl) rfl ?_ | refine call_p (q3) (by kernel_rfl) rfl ?_)) | ((fail_if_success refine stp ?_); (conv => whnf) <;> (first | exact cl2 | refine kX ?_ | refine kP ?_ | refine kBd (fun hc => ?_) (fun hc => ?_) | refine kT ?_ | refine kF ?_ | refine kN ?_ | refine kBm (fun hc => ?_) (fun hc => ?_) | refine kO ?_ | refine kS ?_ | refine kA ?_ | exact PV.leL_nil | refine kC ?_ ?_ | refine And.intro ?_ ?_ | refine ix_map (fun x hx => ?_) | refine exU8 ?_ | refine nilc (fun hn => ?_) ?_ | exact cl3 | refine imp0 (fun hpos => ?_) | refine kG ?_ ?_ | exact rfl | exact trivial | (first | refine stq ?_ | fail)))) <;> (try exact cl5)
  refine Wpc.loopB (α := {i : Nat // i ≤ l.length}) mixed [0, 1, 2, 6, 7, 8, 9, 10, 11, 12, 13, 14, 15, 16, 17, 18, 19, 20, 21, 23, 32, 41, 42, 43, 44, 45, 74, 83, 85, 86, 87, 88, 114, 123, 159, 160] (fun i => [(9, .p (eI ((forL l P t i.1).length : Int))), (44, .p (eI i.1))]) (fun i => l.length - i.1) ⟨0, by omega⟩ ?_ ?_
  · (first | refine Ent.ofA [] ?_ | refine Ent.ofC [] ?_) <;> (repeat' (first | exact trivial | refine kHd ?_ | refine kHm rfl (by simp) rfl (fun h => AObj.noConfusion h) ?_ ?_ | refine And.intro ?_ ?_ | exact cl9 | refine kVp ?_ | refine kVa ?_ | refine kVt ?_ | refine kVf ?_ ?_ | refine kVc ?_ ?_ | exact VLeL.nil | exact OLe.row _ _ | rfl | refine VLe.rsle rfl ?_ ?_ ?_ | refine kQw ?_ ?_ | refine kQm ?_ ?_ | refine kQj ?_ ?_ | refine kQc ?_ ?_ | refine kQs ?_ ?_ ?_ | exact OLe.mapS0 rfl)) <;> try exact kZ
  rintro ⟨i, hi⟩
  have hi : i ≤ l.length := hi
  have hfl := forL_len l P t i
  cases hx : l[i]? with
  | none =>
    have hge : l.length ≤ i := List.getElem?_eq_none_iff.1 hx
    have hno : ¬ ((i : Int) < ((l.map eA).length : Int)) := by rw [List.length_map]; omega
    have hil : i = l.length := by omega
    repeat' (first | exact cl1 | (refine stx ?_; first | exact exHM _ | refine exU8 ?_) | ((fail_if_success refine stp ?_); (conv => whnf) <;> (first | exact cl2 | refine kBn hno fun hc => ?_ | refine kX ?_ | refine kP ?_ | refine kBd (fun hc => ?_) (fun hc => ?_) | refine kT ?_ | refine kF ?_ | refine kN ?_ | refine kBm (fun hc => ?_) (fun hc => ?_) | refine kO ?_ | refine kS ?_ | refine kA ?_ | exact PV.leL_nil | refine kC ?_ ?_ | refine And.intro ?_ ?_ | refine ix_map (fun x hx => ?_) | refine exU8 ?_ | refine nilc (fun hn => ?_) ?_ | exact cl3 | refine imp0 (fun hpos => ?_) | refine kG ?_ ?_ | exact rfl | exact trivial | (first | refine stq ?_ | fail)))) <;> (try exact cl5)
    refine LeG.bool ?_
    show decide (((forL l P t i).length : Int) = (((forL l P t l.length).map eI).length : Int)) = true
    rw [hil]
    simp
  | some d =>
  have hlt := (List.getElem?_eq_some_iff.1 hx).1
  have hyes : ((i : Int) < ((l.map eA).length : Int)) := by rw [List.length_map]; omega
  have hsi : sg[i]? = some (sgF sg i) := by simp [sgF, List.getD, show i < sg.length by omega]
  have hF := hlaw i d hx
  have hfs := forL_succ l P t i
  have qh := has_calls (forL l P t l.length) d.no (by omega)
  rw [has_forL hsr hx, hF] at qh
  have qw := why_calls l sg d.no t h20 hd (by omega)
  rw [hwhy i d hx] at qw
  have hst : (forF l P t i = true ↔ (stA l P i t).1 = 0) := decide_eq_true_iff
  rw [hF] at hst
  have hby := stA_by0 (P := P) (t := t) hx
  generalize hS : stA l P i t = S at *
  obtain ⟨s, b⟩ := S
  have hst : forceB l sg t i d = true ↔ s = 0 := hst
  have hby : s = 0 → b = -1 := hby
  have qw : PCalls Try.prog 22 [eL l, eIs sg, eI d.no, eI t] (.tup [eI s, eI b, eI 0]) := qw
  by_cases hc0 : (0 ≤ sgF sg i ∧ sgF sg i ≤ t) ∧ (d.frm ≤ t ∧ t < d.til)
  · have h0 : 0 ≤ sgF sg i := hc0.1.1
    have qe := effective_calls l sg i d hx h20 hd hz hs h0
    have hup : upB sg t i = true := by unfold upB; rw [decide_eq_true hc0.1.1, decide_eq_true hc0.1.2]; rfl
    have hFe : forceB l sg t i d = (effI l sg i && !revsB l sg t d.no l.length) := by
      unfold forceB; rw [hup, decide_eq_true hc0.2.1, decide_eq_true hc0.2.2]; simp
    cases hE : effI l sg i with
    | false =>
      rw [hE] at qe hFe
      have hFf : forceB l sg t i d = false := by rw [hFe]; rfl
      rw [hFf] at qh hst
      have hs0 : s ≠ 0 := fun e => by cases hst.2 e
      have hfn : (forL l P t (i + 1)).length = (forL l P t i).length := by rw [hfs, hF, hFf]; simp
      repeat' (first | exact cl1 | (refine stx ?_; first | exact exHM _ | refine exU8 ?_) | ((with_reducible show callX _ _ _ _ _); (first | refine call_p (qe) (by kernel_rfl) rfl ?_)) | ((fail_if_success refine stp ?_); (conv => whnf) <;> (first | exact cl2 | refine kBy hyes fun hc => ?_ | refine ix_at hx ?_ | refine ix_at hsi ?_ | refine kX ?_ | refine kP ?_ | refine kBd (fun hc => ?_) (fun hc => ?_) | refine kT ?_ | refine kF ?_ | refine kN ?_ | refine kBm (fun hc => ?_) (fun hc => ?_) | refine kO ?_ | refine kS ?_ | refine kA ?_ | exact PV.leL_nil | refine kC ?_ ?_ | refine And.intro ?_ ?_ | refine ix_map (fun x hx => ?_) | refine exU8 ?_ | refine nilc (fun hn => ?_) ?_ | exact cl3 | refine imp0 (fun hpos => ?_) | refine kG ?_ ?_ | exact rfl | exact trivial | (first | refine stq ?_ | fail)))) <;> (try exact cl5)
      all_goals first
      | (exfalso; dsimp only at *; omega)
      | (refine Wpc.loopB (α := {k : Nat // k ≤ l.length}) mixed [0, 1, 2, 6, 7, 8, 9, 10, 11, 12, 13, 14, 15, 16, 17, 18, 19, 20, 21, 23, 32, 41, 42, 43, 44, 45, 74, 83, 85, 86, 87, 88, 114, 123, 159, 160] (fun k => [(87, .p (eI k.1))]) (fun k => l.length - k.1) ⟨0, by omega⟩ ?_ ?_
         · (first | refine Ent.ofA [] ?_ | refine Ent.ofC [] ?_) <;> (repeat' (first | exact trivial | refine kHd ?_ | refine kHm rfl (by simp) rfl (fun h => AObj.noConfusion h) ?_ ?_ | refine And.intro ?_ ?_ | exact cl9 | refine kVp ?_ | refine kVa ?_ | refine kVt ?_ | refine kVf ?_ ?_ | refine kVc ?_ ?_ | exact VLeL.nil | exact OLe.row _ _ | rfl | refine VLe.rsle rfl ?_ ?_ ?_ | refine kQw ?_ ?_ | refine kQm ?_ ?_ | refine kQj ?_ ?_ | refine kQc ?_ ?_ | refine kQs ?_ ?_ ?_ | exact OLe.mapS0 rfl)) <;> try exact kZ
         rintro ⟨k, hk⟩
         have hk : k ≤ l.length := hk
         cases hy : l[k]? with
         | some y =>
           have hlt2 := (List.getElem?_eq_some_iff.1 hy).1
           have hyes2 : ((k : Int) < ((l.map eA).length : Int)) := by rw [List.length_map]; omega
           repeat' (first | exact cl1 | (refine stx ?_; first | exact exHM _ | refine exU8 ?_) | ((fail_if_success refine stp ?_); (conv => whnf) <;> (first | exact cl2 | refine kBy hyes2 fun hc => ?_ | refine ix_at hy ?_ | refine kX ?_ | refine kP ?_ | refine kBd (fun hc => ?_) (fun hc => ?_) | refine kT ?_ | refine kF ?_ | refine kN ?_ | refine kBm (fun hc => ?_) (fun hc => ?_) | refine kO ?_ | refine kS ?_ | refine kA ?_ | exact PV.leL_nil | refine kC ?_ ?_ | refine And.intro ?_ ?_ | refine ix_map (fun x hx => ?_) | refine exU8 ?_ | refine nilc (fun hn => ?_) ?_ | exact cl3 | refine imp0 (fun hpos => ?_) | refine kG ?_ ?_ | exact rfl | exact trivial | (first | refine stq ?_ | fail)))) <;> (try exact cl5)
           refine ⟨⟨k + 1, hlt2⟩, by show l.length - (k + 1) < l.length - k; omega, ?_⟩
           (first | refine Ent.ofA [] ?_ | refine Ent.ofC [] ?_) <;> (repeat' (first | exact trivial | refine kHd ?_ | refine kHm rfl (by simp) rfl (fun h => AObj.noConfusion h) ?_ ?_ | refine And.intro ?_ ?_ | exact cl9 | refine kVp ?_ | refine kVa ?_ | refine kVt ?_ | refine kVf ?_ ?_ | refine kVc ?_ ?_ | exact VLeL.nil | exact OLe.row _ _ | rfl | refine VLe.rsle rfl ?_ ?_ ?_ | refine kQw ?_ ?_ | refine kQm ?_ ?_ | refine kQj ?_ ?_ | refine kQc ?_ ?_ | refine kQs ?_ ?_ ?_ | exact OLe.mapS0 rfl)) <;> try exact kZ
         | none =>
           have hge2 : l.length ≤ k := List.getElem?_eq_none_iff.1 hy
           have hno2 : ¬ ((k : Int) < ((l.map eA).length : Int)) := by rw [List.length_map]; omega
           repeat' (first | exact cl1 | (refine stx ?_; first | exact exHM _ | refine exU8 ?_) | ((with_reducible show callX _ _ _ _ _); (first | refine call_p (qw) (by kernel_rfl) rfl ?_ | refine call_p (qh) (by kernel_rfl) rfl ?_)) | ((fail_if_success refine stp ?_); (conv => whnf) <;> (first | exact cl2 | refine kBn hno2 fun hc => ?_ | refine kX ?_ | refine kP ?_ | refine kBd (fun hc => ?_) (fun hc => ?_) | refine kT ?_ | refine kF ?_ | refine kN ?_ | refine kBm (fun hc => ?_) (fun hc => ?_) | refine kO ?_ | refine kS ?_ | refine kA ?_ | exact PV.leL_nil | refine kC ?_ ?_ | refine And.intro ?_ ?_ | refine ix_map (fun x hx => ?_) | refine exU8 ?_ | refine nilc (fun hn => ?_) ?_ | exact cl3 | refine imp0 (fun hpos => ?_) | refine kG ?_ ?_ | exact rfl | exact trivial | (first | refine stq ?_ | fail)))) <;> (try exact cl5)
           all_goals first
           | (refine ⟨⟨i + 1, hlt⟩, by show l.length - (i + 1) < l.length - i; omega, ?_⟩
              show Ent _ _ (hdS [0, 1, 2, 6, 7, 8, 9, 10, 11, 12, 13, 14, 15, 16, 17, 18, 19, 20, 21, 23, 32, 41, 42, 43, 44, 45, 74, 83, 85, 86, 87, 88, 114, 123, 159, 160] _ _ _ [(9, .p (eI ((forL l P t (i + 1)).length : Int))), (44, .p (eI ((i + 1 : Nat) : Int)))] [] _)
              rw [hfn]
              (first | refine Ent.ofA [] ?_ | refine Ent.ofC [] ?_) <;> (repeat' (first | exact trivial | refine kHd ?_ | refine kHm rfl (by simp) rfl (fun h => AObj.noConfusion h) ?_ ?_ | refine And.intro ?_ ?_ | exact cl9 | refine kVp ?_ | refine kVa ?_ | refine kVt ?_ | refine kVf ?_ ?_ | refine kVc ?_ ?_ | exact VLeL.nil | exact OLe.row _ _ | rfl | refine VLe.rsle rfl ?_ ?_ ?_ | refine kQw ?_ ?_ | refine kQm ?_ ?_ | refine kQj ?_ ?_ | refine kQc ?_ ?_ | refine kQs ?_ ?_ ?_ | exact OLe.mapS0 rfl)) <;> try exact kZ
              done)
           | (exfalso; dsimp only at *; omega)
           | (exfalso; refine hc ?_; show false = decide (s = 0); rw [decide_eq_false hs0]; done)
           | (exfalso; refine hc ?_; exact decide_eq_false (by assumption))
           | (exfalso; refine hc ?_; show decide (t < d.til) = decide (s = 0); rw [decide_eq_false hs0]; first | assumption | exact decide_eq_false (by assumption))
           | trace_state)
      | trace_state
    | true =>
      rw [hE] at qe hFe
      have hFe : forceB l sg t i d = !revsB l sg t d.no l.length := by rw [hFe]; simp
      rw [hFe] at qh hst
      rw [hF, hFe] at hfs
      repeat' (first | exact cl1 | (refine stx ?_; first | exact exHM _ | refine exU8 ?_) | ((with_reducible show callX _ _ _ _ _); (first | refine call_p (qe) (by kernel_rfl) rfl ?_)) | ((fail_if_success refine stp ?_); (conv => whnf) <;> (first | exact cl2 | refine kBy hyes fun hc => ?_ | refine ix_at hx ?_ | refine ix_at hsi ?_ | refine kX ?_ | refine kP ?_ | refine kBd (fun hc => ?_) (fun hc => ?_) | refine kT ?_ | refine kF ?_ | refine kN ?_ | refine kBm (fun hc => ?_) (fun hc => ?_) | refine kO ?_ | refine kS ?_ | refine kA ?_ | exact PV.leL_nil | refine kC ?_ ?_ | refine And.intro ?_ ?_ | refine ix_map (fun x hx => ?_) | refine exU8 ?_ | refine nilc (fun hn => ?_) ?_ | exact cl3 | refine imp0 (fun hpos => ?_) | refine kG ?_ ?_ | exact rfl | exact trivial | (first | refine stq ?_ | fail)))) <;> (try exact cl5)
      all_goals first
      | (exfalso; dsimp only at *; omega)
      | skip
      refine Wpc.loopB (α := {k : Nat × Bool // k.1 ≤ l.length ∧ k.2 = !revsB l sg t d.no k.1}) mixed [0, 1, 2, 6, 7, 8, 9, 10, 11, 12, 13, 14, 15, 16, 17, 18, 19, 20, 21, 23, 32, 41, 42, 43, 44, 45, 74, 83, 85, 86, 87, 88, 114, 123, 159, 160] (fun k => [(12, .p (.bool k.1.2)), (87, .p (eI k.1.1))]) (fun k => l.length - k.1.1) ⟨(0, true), by simp, rfl⟩ ?_ ?_
      · (first | refine Ent.ofA [] ?_ | refine Ent.ofC [] ?_) <;> (repeat' (first | exact trivial | refine kHd ?_ | refine kHm rfl (by simp) rfl (fun h => AObj.noConfusion h) ?_ ?_ | refine And.intro ?_ ?_ | exact cl9 | refine kVp ?_ | refine kVa ?_ | refine kVt ?_ | refine kVf ?_ ?_ | refine kVc ?_ ?_ | exact VLeL.nil | exact OLe.row _ _ | rfl | refine VLe.rsle rfl ?_ ?_ ?_ | refine kQw ?_ ?_ | refine kQm ?_ ?_ | refine kQj ?_ ?_ | refine kQc ?_ ?_ | refine kQs ?_ ?_ ?_ | exact OLe.mapS0 rfl)) <;> try exact kZ
      rintro ⟨⟨k, f⟩, hk, hf⟩
      have hk : k ≤ l.length := hk
      have hf : f = !revsB l sg t d.no k := hf
      cases hy : l[k]? with
      | some y =>
        have hlt2 := (List.getElem?_eq_some_iff.1 hy).1
        have hyes2 : ((k : Int) < ((l.map eA).length : Int)) := by rw [List.length_map]; omega
        have hsk : sg[k]? = some (sgF sg k) := by simp [sgF, List.getD, show k < sg.length by omega]
        have hsuc := revsB_succ l sg t d.no k
        have hrb : revB l d.no k = hasB y.rev d.no := by unfold revB; rw [hy]
        rw [hrb] at hsuc
        have qb := has_calls y.rev d.no (by have := (hd y (List.mem_of_getElem? hy)).2.1; omega)
        cases f with
        | false =>
          have hr : revsB l sg t d.no k = true := by simpa using hf.symm
          repeat' (first | exact cl1 | (refine stx ?_; first | exact exHM _ | refine exU8 ?_) | ((fail_if_success refine stp ?_); (conv => whnf) <;> (first | exact cl2 | refine kBy hyes2 fun hc => ?_ | refine ix_at hy ?_ | refine kX ?_ | refine kP ?_ | refine kBd (fun hc => ?_) (fun hc => ?_) | refine kT ?_ | refine kF ?_ | refine kN ?_ | refine kBm (fun hc => ?_) (fun hc => ?_) | refine kO ?_ | refine kS ?_ | refine kA ?_ | exact PV.leL_nil | refine kC ?_ ?_ | refine And.intro ?_ ?_ | refine ix_map (fun x hx => ?_) | refine exU8 ?_ | refine nilc (fun hn => ?_) ?_ | exact cl3 | refine imp0 (fun hpos => ?_) | refine kG ?_ ?_ | exact rfl | exact trivial | (first | refine stq ?_ | fail)))) <;> (try exact cl5)
          refine ⟨⟨(k + 1, false), hlt2, by show false = !revsB l sg t d.no (k + 1); rw [hsuc, hr]; rfl⟩, by show l.length - (k + 1) < l.length - k; omega, ?_⟩
          (first | refine Ent.ofA [] ?_ | refine Ent.ofC [] ?_) <;> (repeat' (first | exact trivial | refine kHd ?_ | refine kHm rfl (by simp) rfl (fun h => AObj.noConfusion h) ?_ ?_ | refine And.intro ?_ ?_ | exact cl9 | refine kVp ?_ | refine kVa ?_ | refine kVt ?_ | refine kVf ?_ ?_ | refine kVc ?_ ?_ | exact VLeL.nil | exact OLe.row _ _ | rfl | refine VLe.rsle rfl ?_ ?_ ?_ | refine kQw ?_ ?_ | refine kQm ?_ ?_ | refine kQj ?_ ?_ | refine kQc ?_ ?_ | refine kQs ?_ ?_ ?_ | exact OLe.mapS0 rfl)) <;> try exact kZ
        | true =>
          have hr : revsB l sg t d.no k = false := by simpa using hf.symm
          rw [hr, Bool.false_or] at hsuc
          by_cases hu : 0 ≤ sgF sg k ∧ sgF sg k ≤ t
          · have hub : upB sg t k = true := by unfold upB; rw [decide_eq_true hu.1, decide_eq_true hu.2]; rfl
            rw [hub, Bool.true_and] at hsuc
            cases hb : hasB y.rev d.no with
            | false =>
              rw [hb] at qb hsuc
              repeat' (first | exact cl1 | (refine stx ?_; first | exact exHM _ | refine exU8 ?_) | ((with_reducible show callX _ _ _ _ _); (first | refine call_p (qb) (by kernel_rfl) rfl ?_)) | ((fail_if_success refine stp ?_); (conv => whnf) <;> (first | exact cl2 | refine kBd (fun hc => ?_) (fun hc => absurd hu.1 hc) | refine kBd (fun hc => ?_) (fun hc => absurd hu.2 hc) | refine kBy hyes2 fun hc => ?_ | refine ix_at hy ?_ | refine ix_at hsk ?_ | refine kX ?_ | refine kP ?_ | refine kBd (fun hc => ?_) (fun hc => ?_) | refine kT ?_ | refine kF ?_ | refine kN ?_ | refine kBm (fun hc => ?_) (fun hc => ?_) | refine kO ?_ | refine kS ?_ | refine kA ?_ | exact PV.leL_nil | refine kC ?_ ?_ | refine And.intro ?_ ?_ | refine ix_map (fun x hx => ?_) | refine exU8 ?_ | refine nilc (fun hn => ?_) ?_ | exact cl3 | refine imp0 (fun hpos => ?_) | refine kG ?_ ?_ | exact rfl | exact trivial | (first | refine stq ?_ | fail)))) <;> (try exact cl5)
              refine ⟨⟨(k + 1, true), hlt2, by show true = !revsB l sg t d.no (k + 1); rw [hsuc]; rfl⟩, by show l.length - (k + 1) < l.length - k; omega, ?_⟩
              (first | refine Ent.ofA [] ?_ | refine Ent.ofC [] ?_) <;> (repeat' (first | exact trivial | refine kHd ?_ | refine kHm rfl (by simp) rfl (fun h => AObj.noConfusion h) ?_ ?_ | refine And.intro ?_ ?_ | exact cl9 | refine kVp ?_ | refine kVa ?_ | refine kVt ?_ | refine kVf ?_ ?_ | refine kVc ?_ ?_ | exact VLeL.nil | exact OLe.row _ _ | rfl | refine VLe.rsle rfl ?_ ?_ ?_ | refine kQw ?_ ?_ | refine kQm ?_ ?_ | refine kQj ?_ ?_ | refine kQc ?_ ?_ | refine kQs ?_ ?_ ?_ | exact OLe.mapS0 rfl)) <;> try exact kZ
            | true =>
              rw [hb, Bool.true_and] at hsuc
              rw [hb] at qb
              have qe2 := effective_calls l sg k y hy h20 hd hz hs hu.1
              cases hE2 : effI l sg k with
              | false =>
                rw [hE2] at qe2 hsuc
                repeat' (first | exact cl1 | (refine stx ?_; first | exact exHM _ | refine exU8 ?_) | ((with_reducible show callX _ _ _ _ _); (first | refine call_p (qb) (by kernel_rfl) rfl ?_ | refine call_p (qe2) (by kernel_rfl) rfl ?_)) | ((fail_if_success refine stp ?_); (conv => whnf) <;> (first | exact cl2 | refine kBd (fun hc => ?_) (fun hc => absurd hu.1 hc) | refine kBd (fun hc => ?_) (fun hc => absurd hu.2 hc) | refine kBy hyes2 fun hc => ?_ | refine ix_at hy ?_ | refine ix_at hsk ?_ | refine kX ?_ | refine kP ?_ | refine kBd (fun hc => ?_) (fun hc => ?_) | refine kT ?_ | refine kF ?_ | refine kN ?_ | refine kBm (fun hc => ?_) (fun hc => ?_) | refine kO ?_ | refine kS ?_ | refine kA ?_ | exact PV.leL_nil | refine kC ?_ ?_ | refine And.intro ?_ ?_ | refine ix_map (fun x hx => ?_) | refine exU8 ?_ | refine nilc (fun hn => ?_) ?_ | exact cl3 | refine imp0 (fun hpos => ?_) | refine kG ?_ ?_ | exact rfl | exact trivial | (first | refine stq ?_ | fail)))) <;> (try exact cl5)
                refine ⟨⟨(k + 1, true), hlt2, by show true = !revsB l sg t d.no (k + 1); rw [hsuc]; rfl⟩, by show l.length - (k + 1) < l.length - k; omega, ?_⟩
                (first | refine Ent.ofA [] ?_ | refine Ent.ofC [] ?_) <;> (repeat' (first | exact trivial | refine kHd ?_ | refine kHm rfl (by simp) rfl (fun h => AObj.noConfusion h) ?_ ?_ | refine And.intro ?_ ?_ | exact cl9 | refine kVp ?_ | refine kVa ?_ | refine kVt ?_ | refine kVf ?_ ?_ | refine kVc ?_ ?_ | exact VLeL.nil | exact OLe.row _ _ | rfl | refine VLe.rsle rfl ?_ ?_ ?_ | refine kQw ?_ ?_ | refine kQm ?_ ?_ | refine kQj ?_ ?_ | refine kQc ?_ ?_ | refine kQs ?_ ?_ ?_ | exact OLe.mapS0 rfl)) <;> try exact kZ
              | true =>
                rw [hE2] at qe2 hsuc
                repeat' (first | exact cl1 | (refine stx ?_; first | exact exHM _ | refine exU8 ?_) | ((with_reducible show callX _ _ _ _ _); (first | refine call_p (qb) (by kernel_rfl) rfl ?_ | refine call_p (qe2) (by kernel_rfl) rfl ?_)) | ((fail_if_success refine stp ?_); (conv => whnf) <;> (first | exact cl2 | refine kBd (fun hc => ?_) (fun hc => absurd hu.1 hc) | refine kBd (fun hc => ?_) (fun hc => absurd hu.2 hc) | refine kBy hyes2 fun hc => ?_ | refine ix_at hy ?_ | refine ix_at hsk ?_ | refine kX ?_ | refine kP ?_ | refine kBd (fun hc => ?_) (fun hc => ?_) | refine kT ?_ | refine kF ?_ | refine kN ?_ | refine kBm (fun hc => ?_) (fun hc => ?_) | refine kO ?_ | refine kS ?_ | refine kA ?_ | exact PV.leL_nil | refine kC ?_ ?_ | refine And.intro ?_ ?_ | refine ix_map (fun x hx => ?_) | refine exU8 ?_ | refine nilc (fun hn => ?_) ?_ | exact cl3 | refine imp0 (fun hpos => ?_) | refine kG ?_ ?_ | exact rfl | exact trivial | (first | refine stq ?_ | fail)))) <;> (try exact cl5)
                refine ⟨⟨(k + 1, false), hlt2, by show false = !revsB l sg t d.no (k + 1); rw [hsuc]; rfl⟩, by show l.length - (k + 1) < l.length - k; omega, ?_⟩
                (first | refine Ent.ofA [] ?_ | refine Ent.ofC [] ?_) <;> (repeat' (first | exact trivial | refine kHd ?_ | refine kHm rfl (by simp) rfl (fun h => AObj.noConfusion h) ?_ ?_ | refine And.intro ?_ ?_ | exact cl9 | refine kVp ?_ | refine kVa ?_ | refine kVt ?_ | refine kVf ?_ ?_ | refine kVc ?_ ?_ | exact VLeL.nil | exact OLe.row _ _ | rfl | refine VLe.rsle rfl ?_ ?_ ?_ | refine kQw ?_ ?_ | refine kQm ?_ ?_ | refine kQj ?_ ?_ | refine kQc ?_ ?_ | refine kQs ?_ ?_ ?_ | exact OLe.mapS0 rfl)) <;> try exact kZ
          · have hub : upB sg t k = false := by
              unfold upB
              cases h : (decide (0 ≤ sgF sg k) && decide (sgF sg k ≤ t)) with
              | false => rfl
              | true =>
                simp only [Bool.and_eq_true, decide_eq_true_eq] at h
                exact absurd h hu
            rw [hub] at hsuc
            have hsuc : revsB l sg t d.no (k + 1) = false := hsuc
            repeat' (first | exact cl1 | (refine stx ?_; first | exact exHM _ | refine exU8 ?_) | ((with_reducible show callX _ _ _ _ _); (first | refine call_p (qb) (by kernel_rfl) rfl ?_)) | ((fail_if_success refine stp ?_); (conv => whnf) <;> (first | exact cl2 | refine kBy hyes2 fun hc => ?_ | refine ix_at hy ?_ | refine ix_at hsk ?_ | refine kX ?_ | refine kP ?_ | refine kBd (fun hc => ?_) (fun hc => ?_) | refine kT ?_ | refine kF ?_ | refine kN ?_ | refine kBm (fun hc => ?_) (fun hc => ?_) | refine kO ?_ | refine kS ?_ | refine kA ?_ | exact PV.leL_nil | refine kC ?_ ?_ | refine And.intro ?_ ?_ | refine ix_map (fun x hx => ?_) | refine exU8 ?_ | refine nilc (fun hn => ?_) ?_ | exact cl3 | refine imp0 (fun hpos => ?_) | refine kG ?_ ?_ | exact rfl | exact trivial | (first | refine stq ?_ | fail)))) <;> (try exact cl5)
            all_goals first
            | (exfalso; dsimp only at *; omega)
            | (refine ⟨⟨(k + 1, true), hlt2, by show true = !revsB l sg t d.no (k + 1); rw [hsuc]; rfl⟩, by show l.length - (k + 1) < l.length - k; omega, ?_⟩
               (first | refine Ent.ofA [] ?_ | refine Ent.ofC [] ?_) <;> (repeat' (first | exact trivial | refine kHd ?_ | refine kHm rfl (by simp) rfl (fun h => AObj.noConfusion h) ?_ ?_ | refine And.intro ?_ ?_ | exact cl9 | refine kVp ?_ | refine kVa ?_ | refine kVt ?_ | refine kVf ?_ ?_ | refine kVc ?_ ?_ | exact VLeL.nil | exact OLe.row _ _ | rfl | refine VLe.rsle rfl ?_ ?_ ?_ | refine kQw ?_ ?_ | refine kQm ?_ ?_ | refine kQj ?_ ?_ | refine kQc ?_ ?_ | refine kQs ?_ ?_ ?_ | exact OLe.mapS0 rfl)) <;> try exact kZ
               done)
            | trace_state
      | none =>
        have hge2 : l.length ≤ k := List.getElem?_eq_none_iff.1 hy
        have hno2 : ¬ ((k : Int) < ((l.map eA).length : Int)) := by rw [List.length_map]; omega
        have hkl : k = l.length := by omega
        rw [hkl] at hf
        rw [← hf] at qh hst hfs
        cases f with
        | true =>
          have hs0 : s = 0 := hst.1 rfl
          have hb1 : b = -1 := hby hs0
          subst hs0 hb1
          have hfn : (forL l P t (i + 1)).length = (forL l P t i).length + 1 := by rw [hfs]; simp
          repeat' (first | exact cl1 | (refine stx ?_; first | exact exHM _ | refine exU8 ?_) | ((with_reducible show callX _ _ _ _ _); (first | refine call_p (qw) (by kernel_rfl) rfl ?_ | refine call_p (qh) (by kernel_rfl) rfl ?_)) | ((fail_if_success refine stp ?_); (conv => whnf) <;> (first | exact cl2 | refine kBn hno2 fun hc => ?_ | refine kX ?_ | refine kP ?_ | refine kBd (fun hc => ?_) (fun hc => ?_) | refine kT ?_ | refine kF ?_ | refine kN ?_ | refine kBm (fun hc => ?_) (fun hc => ?_) | refine kO ?_ | refine kS ?_ | refine kA ?_ | exact PV.leL_nil | refine kC ?_ ?_ | refine And.intro ?_ ?_ | refine ix_map (fun x hx => ?_) | refine exU8 ?_ | refine nilc (fun hn => ?_) ?_ | exact cl3 | refine imp0 (fun hpos => ?_) | refine kG ?_ ?_ | exact rfl | exact trivial | (first | refine stq ?_ | fail)))) <;> (try exact cl5)
          all_goals first
          | (refine ⟨⟨i + 1, hlt⟩, by show l.length - (i + 1) < l.length - i; omega, ?_⟩
             show Ent _ _ (hdS [0, 1, 2, 6, 7, 8, 9, 10, 11, 12, 13, 14, 15, 16, 17, 18, 19, 20, 21, 23, 32, 41, 42, 43, 44, 45, 74, 83, 85, 86, 87, 88, 114, 123, 159, 160] _ _ _ [(9, .p (eI ((forL l P t (i + 1)).length : Int))), (44, .p (eI ((i + 1 : Nat) : Int)))] [] _)
             rw [hfn]
             (first | refine Ent.ofA [] ?_ | refine Ent.ofC [] ?_) <;> (repeat' (first | exact trivial | refine kHd ?_ | refine kHm rfl (by simp) rfl (fun h => AObj.noConfusion h) ?_ ?_ | refine And.intro ?_ ?_ | exact cl9 | refine kVp ?_ | refine kVa ?_ | refine kVt ?_ | refine kVf ?_ ?_ | refine kVc ?_ ?_ | exact VLeL.nil | exact OLe.row _ _ | rfl | refine VLe.rsle rfl ?_ ?_ ?_ | refine kQw ?_ ?_ | refine kQm ?_ ?_ | refine kQj ?_ ?_ | refine kQc ?_ ?_ | refine kQs ?_ ?_ ?_ | exact OLe.mapS0 rfl)) <;> try exact kZ
             done)
          | trace_state
        | false =>
          have hs0 : s ≠ 0 := fun e => by cases hst.2 e
          have hfn : (forL l P t (i + 1)).length = (forL l P t i).length := by rw [hfs]; simp
          repeat' (first | exact cl1 | (refine stx ?_; first | exact exHM _ | refine exU8 ?_) | ((with_reducible show callX _ _ _ _ _); (first | refine call_p (qw) (by kernel_rfl) rfl ?_ | refine call_p (qh) (by kernel_rfl) rfl ?_)) | ((fail_if_success refine stp ?_); (conv => whnf) <;> (first | exact cl2 | refine kBn hno2 fun hc => ?_ | refine kX ?_ | refine kP ?_ | refine kBd (fun hc => ?_) (fun hc => ?_) | refine kT ?_ | refine kF ?_ | refine kN ?_ | refine kBm (fun hc => ?_) (fun hc => ?_) | refine kO ?_ | refine kS ?_ | refine kA ?_ | exact PV.leL_nil | refine kC ?_ ?_ | refine And.intro ?_ ?_ | refine ix_map (fun x hx => ?_) | refine exU8 ?_ | refine nilc (fun hn => ?_) ?_ | exact cl3 | refine imp0 (fun hpos => ?_) | refine kG ?_ ?_ | exact rfl | exact trivial | (first | refine stq ?_ | fail)))) <;> (try exact cl5)
          all_goals first
          | (refine ⟨⟨i + 1, hlt⟩, by show l.length - (i + 1) < l.length - i; omega, ?_⟩
             show Ent _ _ (hdS [0, 1, 2, 6, 7, 8, 9, 10, 11, 12, 13, 14, 15, 16, 17, 18, 19, 20, 21, 23, 32, 41, 42, 43, 44, 45, 74, 83, 85, 86, 87, 88, 114, 123, 159, 160] _ _ _ [(9, .p (eI ((forL l P t (i + 1)).length : Int))), (44, .p (eI ((i + 1 : Nat) : Int)))] [] _)
             rw [hfn]
             (first | refine Ent.ofA [] ?_ | refine Ent.ofC [] ?_) <;> (repeat' (first | exact trivial | refine kHd ?_ | refine kHm rfl (by simp) rfl (fun h => AObj.noConfusion h) ?_ ?_ | refine And.intro ?_ ?_ | exact cl9 | refine kVp ?_ | refine kVa ?_ | refine kVt ?_ | refine kVf ?_ ?_ | refine kVc ?_ ?_ | exact VLeL.nil | exact OLe.row _ _ | rfl | refine VLe.rsle rfl ?_ ?_ ?_ | refine kQw ?_ ?_ | refine kQm ?_ ?_ | refine kQj ?_ ?_ | refine kQc ?_ ?_ | refine kQs ?_ ?_ ?_ | exact OLe.mapS0 rfl)) <;> try exact kZ
             done)
          | (exfalso; dsimp only at *; omega)
          | (exfalso; refine hc ?_; show false = decide (s = 0); rw [decide_eq_false hs0]; done)
          | (exfalso; refine hc ?_; exact decide_eq_false (by assumption))
          | trace_state
  · have hFf : forceB l sg t i d = false := by
      unfold forceB upB
      have : (decide (0 ≤ sgF sg i) && decide (sgF sg i ≤ t) && decide (d.frm ≤ t) && decide (t < d.til)) = false := by
        cases h : (decide (0 ≤ sgF sg i) && decide (sgF sg i ≤ t) && decide (d.frm ≤ t) && decide (t < d.til)) with
        | false => rfl
        | true =>
          simp only [Bool.and_eq_true, decide_eq_true_eq] at h
          exact absurd ⟨⟨h.1.1.1, h.1.1.2⟩, h.1.2, h.2⟩ hc0
      rw [this]; rfl
    rw [hFf] at qh hst
    have hs0 : s ≠ 0 := fun e => by cases hst.2 e
    have hfn : (forL l P t (i + 1)).length = (forL l P t i).length := by rw [hfs, hF, hFf]; simp
    repeat' (first | exact cl1 | (refine stx ?_; first | exact exHM _ | refine exU8 ?_) | ((fail_if_success refine stp ?_); (conv => whnf) <;> (first | exact cl2 | refine kBy hyes fun hc => ?_ | refine ix_at hx ?_ | refine ix_at hsi ?_ | refine kX ?_ | refine kP ?_ | refine kBd (fun hc => ?_) (fun hc => ?_) | refine kT ?_ | refine kF ?_ | refine kN ?_ | refine kBm (fun hc => ?_) (fun hc => ?_) | refine kO ?_ | refine kS ?_ | refine kA ?_ | exact PV.leL_nil | refine kC ?_ ?_ | refine And.intro ?_ ?_ | refine ix_map (fun x hx => ?_) | refine exU8 ?_ | refine nilc (fun hn => ?_) ?_ | exact cl3 | refine imp0 (fun hpos => ?_) | refine kG ?_ ?_ | exact rfl | exact trivial | (first | refine stq ?_ | fail)))) <;> (try exact cl5)
    all_goals first
    | (exfalso; dsimp only at *; omega)
    | (refine Wpc.loopB (α := {k : Nat // k ≤ l.length}) mixed [0, 1, 2, 6, 7, 8, 9, 10, 11, 12, 13, 14, 15, 16, 17, 18, 19, 20, 21, 23, 32, 41, 42, 43, 44, 45, 74, 83, 85, 86, 87, 88, 114, 123, 159, 160] (fun k => [(87, .p (eI k.1))]) (fun k => l.length - k.1) ⟨0, by omega⟩ ?_ ?_
       · (first | refine Ent.ofA [] ?_ | refine Ent.ofC [] ?_) <;> (repeat' (first | exact trivial | refine kHd ?_ | refine kHm rfl (by simp) rfl (fun h => AObj.noConfusion h) ?_ ?_ | refine And.intro ?_ ?_ | exact cl9 | refine kVp ?_ | refine kVa ?_ | refine kVt ?_ | refine kVf ?_ ?_ | refine kVc ?_ ?_ | exact VLeL.nil | exact OLe.row _ _ | rfl | refine VLe.rsle rfl ?_ ?_ ?_ | refine kQw ?_ ?_ | refine kQm ?_ ?_ | refine kQj ?_ ?_ | refine kQc ?_ ?_ | refine kQs ?_ ?_ ?_ | exact OLe.mapS0 rfl)) <;> try exact kZ
       rintro ⟨k, hk⟩
       have hk : k ≤ l.length := hk
       cases hy : l[k]? with
       | some y =>
         have hlt2 := (List.getElem?_eq_some_iff.1 hy).1
         have hyes2 : ((k : Int) < ((l.map eA).length : Int)) := by rw [List.length_map]; omega
         repeat' (first | exact cl1 | (refine stx ?_; first | exact exHM _ | refine exU8 ?_) | ((fail_if_success refine stp ?_); (conv => whnf) <;> (first | exact cl2 | refine kBy hyes2 fun hc => ?_ | refine ix_at hy ?_ | refine kX ?_ | refine kP ?_ | refine kBd (fun hc => ?_) (fun hc => ?_) | refine kT ?_ | refine kF ?_ | refine kN ?_ | refine kBm (fun hc => ?_) (fun hc => ?_) | refine kO ?_ | refine kS ?_ | refine kA ?_ | exact PV.leL_nil | refine kC ?_ ?_ | refine And.intro ?_ ?_ | refine ix_map (fun x hx => ?_) | refine exU8 ?_ | refine nilc (fun hn => ?_) ?_ | exact cl3 | refine imp0 (fun hpos => ?_) | refine kG ?_ ?_ | exact rfl | exact trivial | (first | refine stq ?_ | fail)))) <;> (try exact cl5)
         refine ⟨⟨k + 1, hlt2⟩, by show l.length - (k + 1) < l.length - k; omega, ?_⟩
         (first | refine Ent.ofA [] ?_ | refine Ent.ofC [] ?_) <;> (repeat' (first | exact trivial | refine kHd ?_ | refine kHm rfl (by simp) rfl (fun h => AObj.noConfusion h) ?_ ?_ | refine And.intro ?_ ?_ | exact cl9 | refine kVp ?_ | refine kVa ?_ | refine kVt ?_ | refine kVf ?_ ?_ | refine kVc ?_ ?_ | exact VLeL.nil | exact OLe.row _ _ | rfl | refine VLe.rsle rfl ?_ ?_ ?_ | refine kQw ?_ ?_ | refine kQm ?_ ?_ | refine kQj ?_ ?_ | refine kQc ?_ ?_ | refine kQs ?_ ?_ ?_ | exact OLe.mapS0 rfl)) <;> try exact kZ
       | none =>
         have hge2 : l.length ≤ k := List.getElem?_eq_none_iff.1 hy
         have hno2 : ¬ ((k : Int) < ((l.map eA).length : Int)) := by rw [List.length_map]; omega
         repeat' (first | exact cl1 | (refine stx ?_; first | exact exHM _ | refine exU8 ?_) | ((with_reducible show callX _ _ _ _ _); (first | refine call_p (qw) (by kernel_rfl) rfl ?_ | refine call_p (qh) (by kernel_rfl) rfl ?_)) | ((fail_if_success refine stp ?_); (conv => whnf) <;> (first | exact cl2 | refine kBn hno2 fun hc => ?_ | refine kX ?_ | refine kP ?_ | refine kBd (fun hc => ?_) (fun hc => ?_) | refine kT ?_ | refine kF ?_ | refine kN ?_ | refine kBm (fun hc => ?_) (fun hc => ?_) | refine kO ?_ | refine kS ?_ | refine kA ?_ | exact PV.leL_nil | refine kC ?_ ?_ | refine And.intro ?_ ?_ | refine ix_map (fun x hx => ?_) | refine exU8 ?_ | refine nilc (fun hn => ?_) ?_ | exact cl3 | refine imp0 (fun hpos => ?_) | refine kG ?_ ?_ | exact rfl | exact trivial | (first | refine stq ?_ | fail)))) <;> (try exact cl5)
         all_goals first
         | (refine ⟨⟨i + 1, hlt⟩, by show l.length - (i + 1) < l.length - i; omega, ?_⟩
            show Ent _ _ (hdS [0, 1, 2, 6, 7, 8, 9, 10, 11, 12, 13, 14, 15, 16, 17, 18, 19, 20, 21, 23, 32, 41, 42, 43, 44, 45, 74, 83, 85, 86, 87, 88, 114, 123, 159, 160] _ _ _ [(9, .p (eI ((forL l P t (i + 1)).length : Int))), (44, .p (eI ((i + 1 : Nat) : Int)))] [] _)
            rw [hfn]
            (first | refine Ent.ofA [] ?_ | refine Ent.ofC [] ?_) <;> (repeat' (first | exact trivial | refine kHd ?_ | refine kHm rfl (by simp) rfl (fun h => AObj.noConfusion h) ?_ ?_ | refine And.intro ?_ ?_ | exact cl9 | refine kVp ?_ | refine kVa ?_ | refine kVt ?_ | refine kVf ?_ ?_ | refine kVc ?_ ?_ | exact VLeL.nil | exact OLe.row _ _ | rfl | refine VLe.rsle rfl ?_ ?_ ?_ | refine kQw ?_ ?_ | refine kQm ?_ ?_ | refine kQj ?_ ?_ | refine kQc ?_ ?_ | refine kQs ?_ ?_ ?_ | exact OLe.mapS0 rfl)) <;> try exact kZ
            done)
         | (exfalso; dsimp only at *; omega)
         | (exfalso; refine hc ?_; show false = decide (s = 0); rw [decide_eq_false hs0]; done)
         | (exfalso; refine hc ?_; exact decide_eq_false (by assumption))
         | (exfalso; refine hc ?_; show decide (t < d.til) = decide (s = 0); rw [decide_eq_false hs0]; first | assumption | exact decide_eq_false (by assumption))
         | trace_state)
    | trace_state
end Go.Proofs.Ytgclicahmbgfiaa

namespace Go.Proofs.Ytgclicahmbgfiaa
open Go Go.Sg
set_option maxRecDepth 100000
set_option maxHeartbeats 8000000
theorem rI : Rdc Try.prog 3 Int (fun n => [eI n]) (fun n => (Lit.int .i64 n).wf = true) := Rdc.int (by kernel_rfl) (by kernel_rfl)
def okIs (l : List Int) : Prop := l.length ≤ reachBytes ∧ ∀ b ∈ l, (Lit.int .i64 b).wf = true
theorem rIs : Rdc Try.prog 23 (List Int) (fun b => [eIs b]) okIs :=
  Rdc.slice (e := 3) (sz := 1) (by kernel_rfl) (by kernel_rfl) rI (by kernel_rfl) (by decide) (of_decide_eq_true (by kernel_rfl)) (fun _ _ => rfl)
theorem rU8 : Rdc Try.prog 5 Int (fun n => [.int .u8 n]) (fun n => (Lit.int .u8 n).wf = true) := Rdc.int (by kernel_rfl) (by kernel_rfl)
theorem wf_u8 {n : Int} (h : (Lit.int .u8 n).wf = true) : 0 ≤ n ∧ n ≤ 255 := by
  simp [Lit.wf, IntKind.min, IntKind.max, IntKind.signed, IntKind.bits] at h; omega
theorem rTx : Rdc Try.prog 25 (List Int) (fun l => l.flatMap fun n => [.int .u8 n]) (fun l => l.length = 32 ∧ ∀ x ∈ l, (Lit.int .u8 x).wf = true) :=
  Rdc.array (e := 5) (n := 32) (sz := 1) (by kernel_rfl) rU8 (by kernel_rfl) (by kernel_rfl) (by decide)
structure okDc (x : Dc) : Prop where
  par : okIs x.par
  rev : okIs x.rev
  need : okIs x.need
  tx : ∀ i, i < 32 → 0 ≤ x.tx i ∧ x.tx i ≤ 255
abbrev RT := Int × Int × Int × Int × Int × Int × List Int × List Int × List Int × List Int × Unit
def toD (x : RT) : Dc := ⟨x.1, x.2.1, x.2.2.1, x.2.2.2.1, x.2.2.2.2.1, x.2.2.2.2.2.1, x.2.2.2.2.2.2.1, x.2.2.2.2.2.2.2.1, x.2.2.2.2.2.2.2.2.1, fun i => x.2.2.2.2.2.2.2.2.2.1.getD i 0⟩
theorem tx32 (L : List Int) (h : L.length = 32) : (L.flatMap fun n => [PV.int .u8 n]) = [u8 (L.getD 0 0), u8 (L.getD 1 0), u8 (L.getD 2 0), u8 (L.getD 3 0), u8 (L.getD 4 0), u8 (L.getD 5 0), u8 (L.getD 6 0), u8 (L.getD 7 0), u8 (L.getD 8 0), u8 (L.getD 9 0), u8 (L.getD 10 0), u8 (L.getD 11 0), u8 (L.getD 12 0), u8 (L.getD 13 0), u8 (L.getD 14 0), u8 (L.getD 15 0), u8 (L.getD 16 0), u8 (L.getD 17 0), u8 (L.getD 18 0), u8 (L.getD 19 0), u8 (L.getD 20 0), u8 (L.getD 21 0), u8 (L.getD 22 0), u8 (L.getD 23 0), u8 (L.getD 24 0), u8 (L.getD 25 0), u8 (L.getD 26 0), u8 (L.getD 27 0), u8 (L.getD 28 0), u8 (L.getD 29 0), u8 (L.getD 30 0), u8 (L.getD 31 0)] := by
  match L, h with
  | [a0, a1, a2, a3, a4, a5, a6, a7, a8, a9, a10, a11, a12, a13, a14, a15, a16, a17, a18, a19, a20, a21, a22, a23, a24, a25, a26, a27, a28, a29, a30, a31], _ => rfl
theorem okA_one (x : Dc) : ∀ c ∈ (eA x).cells, c.one = true := fun c hc => by
  have h : (eA x).cells.all (fun c => c.one) = true := rfl
  exact List.all_eq_true.1 h c hc
theorem rDc : Rdc Try.prog 27 Dc (fun x => (eA x).cells) okDc := by
  have h := Rdc.struct (P := Try.prog) (t := 27) Try.underlying27 (Rdf.cons rI (Rdf.cons rI (Rdf.cons rI (Rdf.cons rI (Rdf.cons rI (Rdf.cons rI (Rdf.cons rIs (Rdf.cons rIs (Rdf.cons rIs (Rdf.cons rTx Rdf.nil (by kernel_rfl) rfl) (by kernel_rfl) rfl) (by kernel_rfl) rfl) (by kernel_rfl) rfl) (by kernel_rfl) rfl) (by kernel_rfl) rfl) (by kernel_rfl) rfl) (by kernel_rfl) rfl) (by kernel_rfl) rfl) (by kernel_rfl) rfl) (by kernel_rfl)
  exact {
    sz := fun x _ => by
      have e : Try.prog.cellsOf 27 = 41 := by kernel_rfl
      rw [e]; rfl
    one := fun x _ => okA_one x
    rd := by
      intro H enc w n cs y hr hw
      obtain ⟨x, h1, h2, h3⟩ := h.rd hr hw
      obtain ⟨b1, b2, b3, b4, b5, b6, b7, b8, b9, b10, _⟩ := x
      obtain ⟨_, _, _, _, _, _, c7, c8, c9, c10, _⟩ := h1
      refine ⟨toD (b1, b2, b3, b4, b5, b6, b7, b8, b9, b10, ()), ⟨c7, c8, c9, fun i hi => ?_⟩, h2, fun i p hp => h3 i p ?_⟩
      · have hl : i < b10.length := by have := c10.1; simp only at this; omega
        have e : (toD (b1, b2, b3, b4, b5, b6, b7, b8, b9, b10, ())).tx i = b10[i] := by
          show b10.getD i 0 = b10[i]
          simp [List.getD, hl]
        rw [e]
        exact wf_u8 (c10.2 _ (List.getElem_mem hl))
      · show ([eI b1] ++ ([eI b2] ++ ([eI b3] ++ ([eI b4] ++ ([eI b5] ++ ([eI b6] ++ ([eIs b7] ++ ([eIs b8] ++ ([eIs b9] ++ ((b10.flatMap fun n => [PV.int .u8 n]) ++ []))))))))))[i]? = some p
        rw [tx32 b10 c10.1]
        exact hp }
def okL (l : List Dc) : Prop := l.length ≤ reachBytes ∧ ∀ b ∈ l, okDc b
theorem rL : Rdc Try.prog 22 (List Dc) (fun b => [eL b]) okL :=
  Rdc.slice (e := 27) (sz := 41) (ep := eA) (by kernel_rfl) (by kernel_rfl) rDc (by kernel_rfl) (by decide) (of_decide_eq_true (by kernel_rfl)) (fun _ _ => rfl)
theorem aI : Rda Try.prog 3 Int eI (fun n => (Lit.int .i64 n).wf = true) := Rda.one rI (by kernel_rfl)
theorem aDc : Rda Try.prog 27 Dc eA okDc := Rda.agg rDc (by kernel_rfl)
theorem aL : Rda Try.prog 22 (List Dc) eL okL := Rda.one rL (by kernel_rfl)
theorem aIs : Rda Try.prog 23 (List Int) eIs okIs := Rda.one rIs (by kernel_rfl)
theorem okL.len {l : List Dc} (h : okL l) : l.length < 140737488355328 := Nat.lt_of_le_of_lt h.1 reachBytes_lt
theorem okIs.len {l : List Int} (h : okIs l) : l.length < 140737488355328 := Nat.lt_of_le_of_lt h.1 reachBytes_lt
theorem okDc.d {x : Dc} (h : okDc x) : x.par.length < 140737488355328 ∧ x.rev.length < 140737488355328 ∧ x.need.length < 140737488355328 := ⟨h.par.len, h.rev.len, h.need.len⟩
theorem own : ownKnob Try.prog.godebug = none := by kernel_rfl
end Go.Proofs.Ytgclicahmbgfiaa
