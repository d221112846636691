/- A part of the proof: contracts of the functions that the statement reaches. -/
import Derived.Test.YtgclicahmbgfiaaChp0
set_option linter.unusedSimpArgs false
set_option linter.unusedVariables false
set_option linter.unnecessarySimpa false
namespace Go.Proofs.Ytgclicahmbgfiaa
open Go Go.Sg
set_option maxRecDepth 100000
set_option maxHeartbeats 8000000
def addA (l : List Dc) (x : Dc) : List Dc × Int :=
  if chkA l = 0 then (if rightA x then (if hasN Dc.no x.no l then ([], 151) else if namB l x then (insN Dc.no l x, 0) else ([], 170)) else ([], 170)) else ([], chkA l)
def eR (x : List Dc × Int) : PV := .tup [eL x.1, eI x.2]
theorem chkA_srt {l : List Dc} (h : chkA l = 0) : l.length ≤ 4096 ∧ (∀ x ∈ l, rightA x = true) ∧ l.Pairwise (fun a b => Dc.no a < Dc.no b) ∧ ∀ x ∈ l, namB l x = true := by
  unfold chkA at h
  by_cases h1 : (4096 : Int) < l.length
  · rw [if_pos h1] at h; cases h
  · rw [if_neg h1] at h
    cases hb : (okFrom rightA Dc.no (-1) l && l.all (namB l)) with
    | false => rw [hb] at h; cases h
    | true =>
      rw [Bool.and_eq_true] at hb
      obtain ⟨b1, b2⟩ := hb
      rw [okFrom_iff] at b1
      exact ⟨by omega, fun x hx => (b1.1 x hx).1, b1.2, fun x hx => List.all_eq_true.1 b2 x hx⟩
theorem nilR {z : Nat} (e : PV) : LeG (.tup [.sl z true [], e]) (.tup [eL [], e]) := LeG.mk (PV.le_tup (PV.leL_cons (PV.le_nil _ _ _) (PV.leL_refl _)))
theorem add_calls (l : List Dc) (x : Dc) (hl : l.length < 1000000) (hd : ∀ y ∈ l, okE y) (hx : okE x) : PCalls Try.prog 13 [eL l, eA x] (eR (addA l x)) := by
  have q1 := check_calls l hl hd
  unfold addA
  by_cases hz : chkA l = 0
  · rw [hz] at q1
    rw [if_pos hz]
    obtain ⟨h96, _, hs, _⟩ := chkA_srt hz
    have q2 := right_calls x hx.1 hx.d.2.1 hx.d.2.2
    have q3 := bs_calls 37 (eI x.no) (Dc.no x) (fun y => add1_calls y x.no) (by kernel_rfl) l hl hs
    have q4 := newShelf_calls l hl
    have q5 := has_shelf_calls l x hx.2.1 hx.2.2
    have hp := posN_le Dc.no (Dc.no x) l
    cases hr : rightA x with
    | false =>
      rw [hr] at q2
      refine PCalls.of (N := 38) (res := [.tmp 4, .tmp 5]) mixed Try.func13 rfl rfl rfl (by kernel_rfl) (by simp) [0, 1, 3, 4, 5, 6, 7, 8, 12, 16, 24, 26] ?_
      repeat' (first | exact cl1 | ((with_reducible show Exists _); first | exact exHM _ | refine exU8 ?_) | ((with_reducible show callX _ _ _ _ _); (first | refine call_p (q1) (by kernel_rfl) rfl ?_ | refine call_p (q2) (by kernel_rfl) rfl ?_)) | ((fail_if_success refine stp ?_); (conv => whnf) <;> (first | exact cl2 | refine XAlt.l ?_ | refine Sq.pr ?_ | refine Br.dec (fun hc => ?_) (fun hc => ?_) | refine Br.tt ?_ | refine Br.ff ?_ | refine Br.not ?_ | refine Br.mk (fun hc => ?_) (fun hc => ?_) | refine Opt.nn ?_ | refine Opt.ss ?_ | refine AltA.l ?_ | exact PV.leL_nil | refine PV.leL_cons ?_ ?_ | refine And.intro ?_ ?_ | refine ix_map (fun x hx => ?_) | refine exU8 ?_ | refine nilc (fun hn => ?_) ?_ | exact cl3 | refine imp0 (fun hpos => ?_) | refine fits_i64 ?_ ?_ | exact rfl | exact trivial | (first | refine stq ?_ | fail)))) <;> (try exact cl5)
      all_goals exact nilR _
    | true =>
      rw [hr] at q2
      cases hh : hasN Dc.no x.no l with
      | true =>
        rw [hh] at q3
        refine PCalls.of (N := 38) (res := [.tmp 4, .tmp 5]) mixed Try.func13 rfl rfl rfl (by kernel_rfl) (by simp) [0, 1, 3, 4, 5, 6, 7, 8, 12, 16, 24, 26] ?_
        repeat' (first | exact cl1 | ((with_reducible show Exists _); first | exact exHM _ | refine exU8 ?_) | ((with_reducible show callX _ _ _ _ _); (first | refine call_p (q1) (by kernel_rfl) rfl ?_ | refine call_p (q2) (by kernel_rfl) rfl ?_ | refine call_p (q3) (by kernel_rfl) rfl ?_)) | ((fail_if_success refine stp ?_); (conv => whnf) <;> (first | exact cl2 | refine XAlt.l ?_ | refine Sq.pr ?_ | refine Br.dec (fun hc => ?_) (fun hc => ?_) | refine Br.tt ?_ | refine Br.ff ?_ | refine Br.not ?_ | refine Br.mk (fun hc => ?_) (fun hc => ?_) | refine Opt.nn ?_ | refine Opt.ss ?_ | refine AltA.l ?_ | exact PV.leL_nil | refine PV.leL_cons ?_ ?_ | refine And.intro ?_ ?_ | refine ix_map (fun x hx => ?_) | refine exU8 ?_ | refine nilc (fun hn => ?_) ?_ | exact cl3 | refine imp0 (fun hpos => ?_) | refine fits_i64 ?_ ?_ | exact rfl | exact trivial | (first | refine stq ?_ | fail)))) <;> (try exact cl5)
        all_goals exact nilR _
      | false =>
        rw [hh] at q3
        cases hn : namB l x with
        | false =>
          rw [hn] at q5
          refine PCalls.of (N := 38) (res := [.tmp 4, .tmp 5]) mixed Try.func13 rfl rfl rfl (by kernel_rfl) (by simp) [0, 1, 3, 4, 5, 6, 7, 8, 12, 16, 24, 26] ?_
          repeat' (first | exact cl1 | ((with_reducible show Exists _); first | exact exHM _ | refine exU8 ?_) | ((with_reducible show callX _ _ _ _ _); (first | refine call_p (q1) (by kernel_rfl) rfl ?_ | refine call_p (q2) (by kernel_rfl) rfl ?_ | refine call_p (q3) (by kernel_rfl) rfl ?_ | refine call_p (q4) (by kernel_rfl) rfl ?_ | refine call_p (q5) (by kernel_rfl) rfl ?_)) | ((fail_if_success refine stp ?_); (conv => whnf) <;> (first | exact cl2 | refine XAlt.l ?_ | refine Sq.pr ?_ | refine Br.dec (fun hc => ?_) (fun hc => ?_) | refine Br.tt ?_ | refine Br.ff ?_ | refine Br.not ?_ | refine Br.mk (fun hc => ?_) (fun hc => ?_) | refine Opt.nn ?_ | refine Opt.ss ?_ | refine AltA.l ?_ | exact PV.leL_nil | refine PV.leL_cons ?_ ?_ | refine And.intro ?_ ?_ | refine ix_map (fun x hx => ?_) | refine exU8 ?_ | refine nilc (fun hn => ?_) ?_ | exact cl3 | refine imp0 (fun hpos => ?_) | refine fits_i64 ?_ ?_ | exact rfl | exact trivial | (first | refine stq ?_ | fail)))) <;> (try exact cl5)
          all_goals exact nilR _
        | true =>
          rw [hn] at q5
          rcases List.eq_nil_or_concat l with h0 | h0
          · subst h0
            refine PCalls.of (N := 38) (res := [.tmp 4, .tmp 5]) mixed Try.func13 rfl rfl rfl (by kernel_rfl) (by simp) [0, 1, 3, 4, 5, 6, 7, 8, 12, 16, 24, 26] ?_
            repeat' (first | exact cl1 | ((with_reducible show Exists _); first | exact exHM _ | refine exU8 ?_) | ((with_reducible show callX _ _ _ _ _); (first | refine call_p (q1) (by kernel_rfl) rfl ?_ | refine call_p (q2) (by kernel_rfl) rfl ?_ | refine call_p (q3) (by kernel_rfl) rfl ?_ | refine call_p (q4) (by kernel_rfl) rfl ?_ | refine call_p (q5) (by kernel_rfl) rfl ?_ | refine call_i [] (clone0_icalls) (by kernel_rfl) rfl rfl (by simp) (by simp) (by simp) (fun _ _ => rfl) (by simp) (by simp [keys]) ?_ | (refine call_z (insert0_calls x) (by kernel_rfl) rfl ?_; (repeat' (first | exact PV.leL_nil | refine PV.leL_cons ?_ ?_ | refine And.intro ?_ ?_ | exact Nat.zero_lt_succ _ | exact Nat.le_of_ble_eq_true rfl | exact PV.le_refl _ | exact PV.le_nil _ _ _ | exact PV.le_clip _ _ _ | refine PV.le_agg ?_ | refine PV.le_tup ?_ | rfl)); fail_if_success (any_goals (refine PV.le_of ?_))))) | ((fail_if_success refine stp ?_); (conv => whnf) <;> (first | exact cl2 | refine XAlt.l ?_ | refine Sq.pr ?_ | refine Br.dec (fun hc => ?_) (fun hc => ?_) | refine Br.tt ?_ | refine Br.ff ?_ | refine Br.not ?_ | refine Br.mk (fun hc => ?_) (fun hc => ?_) | refine Opt.nn ?_ | refine Opt.ss ?_ | refine AltA.l ?_ | exact PV.leL_nil | refine PV.leL_cons ?_ ?_ | refine And.intro ?_ ?_ | refine ix_map (fun x hx => ?_) | refine exU8 ?_ | refine nilc (fun hn => ?_) ?_ | exact cl3 | refine imp0 (fun hpos => ?_) | refine fits_i64 ?_ ?_ | exact rfl | exact trivial | (first | refine stq ?_ | fail)))) <;> (try exact cl5)
          · have hpos : 0 < l.length := by obtain ⟨a, b, rfl⟩ := h0; simp
            refine PCalls.of (N := 38) (res := [.tmp 4, .tmp 5]) mixed Try.func13 rfl rfl rfl (by kernel_rfl) (by simp) [0, 1, 3, 4, 5, 6, 7, 8, 12, 16, 24, 26] ?_
            repeat' (first | exact cl1 | ((with_reducible show Exists _); first | exact exHM _ | refine exU8 ?_) | ((with_reducible show callX _ _ _ _ _); (first | refine call_p (q1) (by kernel_rfl) rfl ?_ | refine call_p (q2) (by kernel_rfl) rfl ?_ | refine call_p (q3) (by kernel_rfl) rfl ?_ | refine call_p (q4) (by kernel_rfl) rfl ?_ | refine call_p (q5) (by kernel_rfl) rfl ?_ | refine call_i [] (clone_icalls l hl hpos) (by kernel_rfl) rfl rfl (by simp) (by simp) (by simp) (fun _ _ => rfl) (by simp) (by simp [keys]) ?_ | refine call_i [1856, 2048] (insert_icalls l x _ hp hl) (by kernel_rfl) rfl rfl (by decide) cl6 (fun i hi => by match i, hi with | 0, _ => rfl | 1, _ => rfl) cl7 cl8 (by simp [keys]) ?_)) | ((fail_if_success refine stp ?_); (conv => whnf) <;> (first | exact cl2 | refine XAlt.l ?_ | refine Sq.pr ?_ | refine Br.dec (fun hc => ?_) (fun hc => ?_) | refine Br.tt ?_ | refine Br.ff ?_ | refine Br.not ?_ | refine Br.mk (fun hc => ?_) (fun hc => ?_) | refine Opt.nn ?_ | refine Opt.ss ?_ | refine AltA.l ?_ | exact PV.leL_nil | refine PV.leL_cons ?_ ?_ | refine And.intro ?_ ?_ | refine ix_map (fun x hx => ?_) | refine exU8 ?_ | refine nilc (fun hn => ?_) ?_ | exact cl3 | refine imp0 (fun hpos => ?_) | refine fits_i64 ?_ ?_ | exact rfl | exact trivial | (first | refine stq ?_ | fail)))) <;> (try exact cl5)
  · rw [if_neg hz]
    refine PCalls.of (N := 38) (res := [.tmp 4, .tmp 5]) mixed Try.func13 rfl rfl rfl (by kernel_rfl) (by simp) [0, 1, 3, 4, 5, 6, 7, 8, 12, 16, 24, 26] ?_
    repeat' (first | exact cl1 | ((with_reducible show Exists _); first | exact exHM _ | refine exU8 ?_) | ((with_reducible show callX _ _ _ _ _); (first | refine call_p (q1) (by kernel_rfl) rfl ?_)) | ((fail_if_success refine stp ?_); (conv => whnf) <;> (first | exact cl2 | refine XAlt.l ?_ | refine Sq.pr ?_ | refine Br.dec (fun hc => ?_) (fun hc => ?_) | refine Br.tt ?_ | refine Br.ff ?_ | refine Br.not ?_ | refine Br.mk (fun hc => ?_) (fun hc => ?_) | refine Opt.nn ?_ | refine Opt.ss ?_ | refine AltA.l ?_ | exact PV.leL_nil | refine PV.leL_cons ?_ ?_ | refine And.intro ?_ ?_ | refine ix_map (fun x hx => ?_) | refine exU8 ?_ | refine nilc (fun hn => ?_) ?_ | exact cl3 | refine imp0 (fun hpos => ?_) | refine fits_i64 ?_ ?_ | exact rfl | exact trivial | (first | refine stq ?_ | fail)))) <;> (try exact cl5)
    all_goals exact nilR _
end Go.Proofs.Ytgclicahmbgfiaa

namespace Go.Proofs.Ytgclicahmbgfiaa
open Go Go.Sg
set_option maxRecDepth 100000
set_option maxHeartbeats 20000000
def oddB (t : Int) : Bool := !decide (t = -1) && !wiB TM t
def sgB (l : List Dc) (sg : List Int) : Bool := decide (sg.length = l.length) && !sg.any oddB
theorem signings_calls (l : List Dc) (sg : List Int) (hsl : sg.length < 1000000) : PCalls Try.prog 52 [eL l, eIs sg] (.bool (sgB l sg)) := by
  have q : PCalls Try.prog 64 [eIs sg, .fn (.func 72) [] []] (.bool (sg.any oddB)) := indexOdd_calls sg hsl
  by_cases h : sg.length = l.length
  · have h2 : ((sg.map eI).length : Int) = ((l.map eA).length : Int) := by simp [h]
    have e : sgB l sg = !sg.any oddB := by unfold sgB; rw [decide_eq_true h, Bool.true_and]
    rw [e]
    refine PCalls.of (N := 17) (res := [.tmp 4]) mixed Try.func52 rfl rfl rfl (by kernel_rfl) (by simp) [0, 1, 4, 5] ?_
    repeat' (first | exact cl1 | ((with_reducible show Exists _); first | exact exHM _ | refine exU8 ?_) | ((with_reducible show callX _ _ _ _ _); (first | refine call_p (q) (by kernel_rfl) rfl ?_)) | ((fail_if_success refine stp ?_); (conv => whnf) <;> (first | exact cl2 | refine Br.mk (fun hc => ?_) (fun hc => absurd (decide_eq_true h2) (by rw [hc]; exact Bool.false_ne_true)) | refine Br.dec (fun hc => ?_) (fun hc => absurd h2 hc) | refine XAlt.l ?_ | refine Sq.pr ?_ | refine Br.dec (fun hc => ?_) (fun hc => ?_) | refine Br.tt ?_ | refine Br.ff ?_ | refine Br.not ?_ | refine Br.mk (fun hc => ?_) (fun hc => ?_) | refine Opt.nn ?_ | refine Opt.ss ?_ | refine AltA.l ?_ | exact PV.leL_nil | refine PV.leL_cons ?_ ?_ | refine And.intro ?_ ?_ | refine ix_map (fun x hx => ?_) | refine exU8 ?_ | refine nilc (fun hn => ?_) ?_ | exact cl3 | refine imp0 (fun hpos => ?_) | refine fits_i64 ?_ ?_ | exact rfl | exact trivial | (first | refine stq ?_ | fail)))) <;> (try exact cl5)
    all_goals trace_state
  · have h2 : ¬ ((sg.map eI).length : Int) = ((l.map eA).length : Int) := by simp only [List.length_map]; omega
    have e : sgB l sg = false := by unfold sgB; rw [decide_eq_false h, Bool.false_and]
    rw [e]
    refine PCalls.of (N := 17) (res := [.tmp 4]) mixed Try.func52 rfl rfl rfl (by kernel_rfl) (by simp) [0, 1, 4, 5] ?_
    repeat' (first | exact cl1 | ((with_reducible show Exists _); first | exact exHM _ | refine exU8 ?_) | ((with_reducible show callX _ _ _ _ _); (first | refine call_p (q) (by kernel_rfl) rfl ?_)) | ((fail_if_success refine stp ?_); (conv => whnf) <;> (first | exact cl2 | refine Br.dec (fun hc => absurd hc h2) (fun hc => ?_) | refine XAlt.l ?_ | refine Sq.pr ?_ | refine Br.dec (fun hc => ?_) (fun hc => ?_) | refine Br.tt ?_ | refine Br.ff ?_ | refine Br.not ?_ | refine Br.mk (fun hc => ?_) (fun hc => ?_) | refine Opt.nn ?_ | refine Opt.ss ?_ | refine AltA.l ?_ | exact PV.leL_nil | refine PV.leL_cons ?_ ?_ | refine And.intro ?_ ?_ | refine ix_map (fun x hx => ?_) | refine exU8 ?_ | refine nilc (fun hn => ?_) ?_ | exact cl3 | refine imp0 (fun hpos => ?_) | refine fits_i64 ?_ ?_ | exact rfl | exact trivial | (first | refine stq ?_ | fail)))) <;> (try exact cl5)
    all_goals trace_state
def okF (x : Dc) : Prop := x.par.length ≤ 20 ∧ x.rev.length ≤ 20 ∧ x.need.length ≤ 20
theorem okF.e {x : Dc} (h : okF x) : okE x := ⟨by have := h.1; omega, by have := h.2.1; omega, by have := h.2.2; omega⟩
def finP (l : List Dc) (sg : List Int) (at_ : Int) : Pl := playP l sg (ordL sg at_)
def noF (l : List Dc) (i : Nat) : Int := (l[i]?.map Dc.no).getD 0
def forF (l : List Dc) (p : Pl) (t : Int) (i : Nat) : Bool := decide ((stA l p i t).1 = 0)
def forL (l : List Dc) (p : Pl) (t : Int) (n : Nat) : List Int := ((List.range n).filter (forF l p t)).map (noF l)
def inA (l : List Dc) (sg : List Int) (at_ : Int) : List Int × Int :=
  if chkA l = 0 then (if sgB l sg && wiB TM at_ then (forL l (finP l sg at_) at_ l.length, 0) else ([], 1)) else ([], chkA l)
def whyA (l : List Dc) (sg : List Int) (no at_ : Int) : Int × Int × Int :=
  if chkA l = 0 then (if sgB l sg && wiB TM at_ then (match aget no (atM l) with | none => (0, 0, 1) | some _ => ((stA l (finP l sg at_) (ixF l no) at_).1, (stA l (finP l sg at_) (ixF l no) at_).2, 0)) else (0, 0, 1)) else (0, 0, chkA l)
def eW3 (x : Int × Int × Int) : PV := .tup [eI x.1, eI x.2.1, eI x.2.2]
def eI2 (x : List Int × Int) : PV := .tup [eIs x.1, eI x.2]
theorem sgB_len {l : List Dc} {sg : List Int} (h : sgB l sg = true) : sg.length = l.length := by
  unfold sgB at h; rw [Bool.and_eq_true] at h; exact of_decide_eq_true h.1
theorem why_calls (l : List Dc) (sg : List Int) (no at_ : Int) (hl : l.length ≤ 20) (hd : ∀ x ∈ l, okF x) (hsl : sg.length < 1000000) : PCalls Try.prog 22 [eL l, eIs sg, eI no, eI at_] (eW3 (whyA l sg no at_)) := by
  have q1 := check_calls l (by omega) (fun x hx => (hd x hx).e)
  have q2 := signings_calls l sg hsl
  have q3 := time_calls at_
  unfold whyA
  by_cases hz : chkA l = 0
  · rw [hz] at q1
    rw [if_pos hz]
    cases hs : sgB l sg with
    | false =>
      rw [hs] at q2
      refine PCalls.of (N := 54) (res := [.tmp 8, .tmp 9, .tmp 10]) mixed Try.func22 rfl rfl rfl (by kernel_rfl) (by simp) [0, 1, 2, 3, 8, 9, 10, 11, 12, 13, 14, 18, 28, 44] ?_
      repeat' (first | exact cl1 | ((with_reducible show Exists _); first | exact exHM _ | refine exU8 ?_) | ((with_reducible show callX _ _ _ _ _); (first | refine call_p (q1) (by kernel_rfl) rfl ?_ | refine call_p (q2) (by kernel_rfl) rfl ?_ | refine call_p (q3) (by kernel_rfl) rfl ?_)) | ((fail_if_success refine stp ?_); (conv => whnf) <;> (first | exact cl2 | refine XAlt.l ?_ | refine Sq.pr ?_ | refine Br.dec (fun hc => ?_) (fun hc => ?_) | refine Br.tt ?_ | refine Br.ff ?_ | refine Br.not ?_ | refine Br.mk (fun hc => ?_) (fun hc => ?_) | refine Opt.nn ?_ | refine Opt.ss ?_ | refine AltA.l ?_ | exact PV.leL_nil | refine PV.leL_cons ?_ ?_ | refine And.intro ?_ ?_ | refine ix_map (fun x hx => ?_) | refine exU8 ?_ | refine nilc (fun hn => ?_) ?_ | exact cl3 | refine imp0 (fun hpos => ?_) | refine fits_i64 ?_ ?_ | exact rfl | exact trivial | (first | refine stq ?_ | fail)))) <;> (try exact cl5)
      all_goals trace_state
    | true =>
      rw [hs] at q2
      cases ht : wiB TM at_ with
      | false =>
        rw [ht] at q3
        refine PCalls.of (N := 54) (res := [.tmp 8, .tmp 9, .tmp 10]) mixed Try.func22 rfl rfl rfl (by kernel_rfl) (by simp) [0, 1, 2, 3, 8, 9, 10, 11, 12, 13, 14, 18, 28, 44] ?_
        repeat' (first | exact cl1 | ((with_reducible show Exists _); first | exact exHM _ | refine exU8 ?_) | ((with_reducible show callX _ _ _ _ _); (first | refine call_p (q1) (by kernel_rfl) rfl ?_ | refine call_p (q2) (by kernel_rfl) rfl ?_ | refine call_p (q3) (by kernel_rfl) rfl ?_)) | ((fail_if_success refine stp ?_); (conv => whnf) <;> (first | exact cl2 | refine XAlt.l ?_ | refine Sq.pr ?_ | refine Br.dec (fun hc => ?_) (fun hc => ?_) | refine Br.tt ?_ | refine Br.ff ?_ | refine Br.not ?_ | refine Br.mk (fun hc => ?_) (fun hc => ?_) | refine Opt.nn ?_ | refine Opt.ss ?_ | refine AltA.l ?_ | exact PV.leL_nil | refine PV.leL_cons ?_ ?_ | refine And.intro ?_ ?_ | refine ix_map (fun x hx => ?_) | refine exU8 ?_ | refine nilc (fun hn => ?_) ?_ | exact cl3 | refine imp0 (fun hpos => ?_) | refine fits_i64 ?_ ?_ | exact rfl | exact trivial | (first | refine stq ?_ | fail)))) <;> (try exact cl5)
        all_goals trace_state
      | true =>
        rw [ht] at q3
        have hsz := sgB_len hs
        obtain ⟨h96, _, _, hnm⟩ := chkA_srt hz
        have q4 := played_icalls l sg at_ hl hsz (fun x hx => ⟨(hd x hx).2.1, (hd x hx).2.2⟩) hnm
        have hin := InP.play (l := l) (sg := sg) (fun x hx => (hd x hx).2.1) (ordL sg at_)
        have hol := ordL_len sg at_
        have okp : OkP l (playP l sg (ordL sg at_)) := hin.ok (by omega)
        have q4 : ICalls Try.prog 54 0 [] [.p (eL l), .p (eIs sg), .p (eI at_)] (.ptr 0 0) [(0, pC l sg (playP l sg (ordL sg at_)).dn.length (playP l sg (ordL sg at_)).lk.length), (1, .row 1 ((playP l sg (ordL sg at_)).dn.map PV.bool)), (2, .row 1 ((playP l sg (ordL sg at_)).lk.map eI)), (3, .mapS KTi 1 (hM (rvM (playP l sg (ordL sg at_)).rv)))] := q4
        show PCalls Try.prog 22 [eL l, eIs sg, eI no, eI at_] (eW3 (match aget no (atM l) with | none => (0, 0, 1) | some _ => ((stA l (playP l sg (ordL sg at_)) (ixF l no) at_).1, (stA l (playP l sg (ordL sg at_)) (ixF l no) at_).2, 0)))
        generalize playP l sg (ordL sg at_) = P at *
        cases hg : aget no (atM l) with
        | none =>
          have hm : mfind (eI no) (eM eI eI (atM l)) = none := by rw [mfind_map eI keyI, hg]; rfl
          refine PCalls.of (N := 54) (res := [.tmp 8, .tmp 9, .tmp 10]) mixed Try.func22 rfl rfl rfl (by kernel_rfl) (by simp) [0, 1, 2, 3, 8, 9, 10, 11, 12, 13, 14, 18, 28, 44] ?_
          repeat' (first | exact cl1 | ((with_reducible show Exists _); first | exact exHM _ | refine exU8 ?_) | ((with_reducible show callX _ _ _ _ _); (first | refine call_p (q1) (by kernel_rfl) rfl ?_ | refine call_p (q2) (by kernel_rfl) rfl ?_ | refine call_p (q3) (by kernel_rfl) rfl ?_ | refine call_iE [] [(1280, .cells [.p (eL l), .p (eAt (atM l)), .p (eIs sg), .rsl 1281 1 0 P.dn.length, .rsl 1282 1 0 P.lk.length, .mp 1283]), (1281, .row 1 (P.dn.map PV.bool)), (1282, .row 1 (P.lk.map eI)), (1283, .mapS KTi 1 (hM (rvM P.rv)))] q4 (by kernel_rfl) rfl rfl (by simp) (by simp) (by simp) (fun _ _ => rfl) (by simp) (by simp [keys]) (by simp only [List.map_cons, List.map_nil, renO_hM]; rfl) ?_)) | ((fail_if_success refine stp ?_); (conv => whnf) <;> (first | exact cl2 | refine Opt.no hm ?_ | refine XAlt.l ?_ | refine Sq.pr ?_ | refine Br.dec (fun hc => ?_) (fun hc => ?_) | refine Br.tt ?_ | refine Br.ff ?_ | refine Br.not ?_ | refine Br.mk (fun hc => ?_) (fun hc => ?_) | refine Opt.nn ?_ | refine Opt.ss ?_ | refine AltA.l ?_ | exact PV.leL_nil | refine PV.leL_cons ?_ ?_ | refine And.intro ?_ ?_ | refine ix_map (fun x hx => ?_) | refine exU8 ?_ | refine nilc (fun hn => ?_) ?_ | refine call_iE [] [(1280, .cells [.p (eL l), .p (eAt (atM l)), .p (eIs sg), .rsl 1281 1 0 P.dn.length, .rsl 1282 1 0 P.lk.length, .mp 1283]), (1281, .row 1 (P.dn.map PV.bool)), (1282, .row 1 (P.lk.map eI)), (1283, .mapS KTi 1 (hM (rvM P.rv)))] q4 (by kernel_rfl) rfl rfl (by simp) (by simp) (by simp) (fun _ _ => rfl) (by simp) (by simp [keys]) (by simp only [List.map_cons, List.map_nil, renO_hM]; rfl) ?_ | exact cl3 | refine imp0 (fun hpos => ?_) | refine fits_i64 ?_ ?_ | exact rfl | exact trivial | (first | refine stq ?_ | fail)))) <;> (try exact cl5)
          all_goals trace_state
        | some k =>
          obtain ⟨j, w, e, _, hw, _⟩ := atF_some l.length hg
          have ej : ixF l no = j := by unfold ixF; rw [hg, e]; rfl
          have hm : mfind (eI no) (eM eI eI (atM l)) = some (eN j) := by rw [mfind_map eI keyI, hg, e]; rfl
          rw [ej]
          have q5 := state_icalls l sg P j at_ w hw okp (by omega)
          refine PCalls.of (N := 54) (res := [.tmp 8, .tmp 9, .tmp 10]) mixed Try.func22 rfl rfl rfl (by kernel_rfl) (by simp) [0, 1, 2, 3, 8, 9, 10, 11, 12, 13, 14, 18, 28, 44] ?_
          repeat' (first | exact cl1 | ((with_reducible show Exists _); first | exact exHM _ | refine exU8 ?_) | ((with_reducible show callX _ _ _ _ _); (first | refine call_p (q1) (by kernel_rfl) rfl ?_ | refine call_p (q2) (by kernel_rfl) rfl ?_ | refine call_p (q3) (by kernel_rfl) rfl ?_ | refine call_iE [] [(1280, .cells [.p (eL l), .p (eAt (atM l)), .p (eIs sg), .rsl 1281 1 0 P.dn.length, .rsl 1282 1 0 P.lk.length, .mp 1283]), (1281, .row 1 (P.dn.map PV.bool)), (1282, .row 1 (P.lk.map eI)), (1283, .mapS KTi 1 (hM (rvM P.rv)))] q4 (by kernel_rfl) rfl rfl (by simp) (by simp) (by simp) (fun _ _ => rfl) (by simp) (by simp [keys]) (by simp only [List.map_cons, List.map_nil, renO_hM]; rfl) ?_ | refine call_iE [1280, 1281, 1282, 1283] ([(1280, .cells [.p (eL l), .p (eAt (atM l)), .p (eIs sg), .rsl 1281 1 0 P.dn.length, .rsl 1282 1 0 P.lk.length, .mp 1283]), (1281, .row 1 (P.dn.map PV.bool)), (1282, .row 1 (P.lk.map eI)), (1283, .mapS KTi 1 (hM (rvM P.rv)))]) (q5) (by kernel_rfl) rfl rfl (by decide) cl6 (fun i hi => by match i, hi with | 0, _ => (first | rfl | exact (renO_hM _ _ _ _).symm) | 1, _ => (first | rfl | exact (renO_hM _ _ _ _).symm) | 2, _ => (first | rfl | exact (renO_hM _ _ _ _).symm) | 3, _ => (first | rfl | exact (renO_hM _ _ _ _).symm)) cl7 cl8 (by simp [keys]) (by (try simp only [hP]); simp only [List.map_cons, List.map_nil, renO_hM]; rfl) ?_)) | ((fail_if_success refine stp ?_); (conv => whnf) <;> (first | exact cl2 | refine Opt.at hm ?_ | refine XAlt.l ?_ | refine Sq.pr ?_ | refine Br.dec (fun hc => ?_) (fun hc => ?_) | refine Br.tt ?_ | refine Br.ff ?_ | refine Br.not ?_ | refine Br.mk (fun hc => ?_) (fun hc => ?_) | refine Opt.nn ?_ | refine Opt.ss ?_ | refine AltA.l ?_ | exact PV.leL_nil | refine PV.leL_cons ?_ ?_ | refine And.intro ?_ ?_ | refine ix_map (fun x hx => ?_) | refine exU8 ?_ | refine nilc (fun hn => ?_) ?_ | refine call_iE [] [(1280, .cells [.p (eL l), .p (eAt (atM l)), .p (eIs sg), .rsl 1281 1 0 P.dn.length, .rsl 1282 1 0 P.lk.length, .mp 1283]), (1281, .row 1 (P.dn.map PV.bool)), (1282, .row 1 (P.lk.map eI)), (1283, .mapS KTi 1 (hM (rvM P.rv)))] q4 (by kernel_rfl) rfl rfl (by simp) (by simp) (by simp) (fun _ _ => rfl) (by simp) (by simp [keys]) (by simp only [List.map_cons, List.map_nil, renO_hM]; rfl) ?_ | exact cl3 | refine imp0 (fun hpos => ?_) | refine fits_i64 ?_ ?_ | exact rfl | exact trivial | (first | refine stq ?_ | fail)))) <;> (try exact cl5)
          all_goals trace_state
  · rw [if_neg hz]
    refine PCalls.of (N := 54) (res := [.tmp 8, .tmp 9, .tmp 10]) mixed Try.func22 rfl rfl rfl (by kernel_rfl) (by simp) [0, 1, 2, 3, 8, 9, 10, 11, 12, 13, 14, 18, 28, 44] ?_
    repeat' (first | exact cl1 | ((with_reducible show Exists _); first | exact exHM _ | refine exU8 ?_) | ((with_reducible show callX _ _ _ _ _); (first | refine call_p (q1) (by kernel_rfl) rfl ?_)) | ((fail_if_success refine stp ?_); (conv => whnf) <;> (first | exact cl2 | refine XAlt.l ?_ | refine Sq.pr ?_ | refine Br.dec (fun hc => ?_) (fun hc => ?_) | refine Br.tt ?_ | refine Br.ff ?_ | refine Br.not ?_ | refine Br.mk (fun hc => ?_) (fun hc => ?_) | refine Opt.nn ?_ | refine Opt.ss ?_ | refine AltA.l ?_ | exact PV.leL_nil | refine PV.leL_cons ?_ ?_ | refine And.intro ?_ ?_ | refine ix_map (fun x hx => ?_) | refine exU8 ?_ | refine nilc (fun hn => ?_) ?_ | exact cl3 | refine imp0 (fun hpos => ?_) | refine fits_i64 ?_ ?_ | exact rfl | exact trivial | (first | refine stq ?_ | fail)))) <;> (try exact cl5)
    all_goals trace_state
end Go.Proofs.Ytgclicahmbgfiaa

namespace Go.Proofs.Ytgclicahmbgfiaa
open Go Go.Sg
set_option maxRecDepth 100000
set_option maxHeartbeats 20000000
def oVI (n : Nat) : List Int → AV
  | [] => .p (.sl 0 true [])
  | _ :: r => .rsl n 1 0 (r.length + 1)
def oHI (n : Nat) : List Int → Heap
  | [] => []
  | a :: r => [(n, .row 1 ((a :: r).map eI))]
theorem forL_succ (l : List Dc) (p : Pl) (t : Int) (n : Nat) : forL l p t (n + 1) = forL l p t n ++ if forF l p t n then [noF l n] else [] := by
  unfold forL; rw [List.range_succ, List.filter_append, List.map_append]
  congr 1
  cases h : forF l p t n <;> simp [h]
theorem forL_len (l : List Dc) (p : Pl) (t : Int) (n : Nat) : (forL l p t n).length ≤ n := by
  unfold forL; have := List.length_filter_le (forF l p t) (List.range n); rw [List.length_range] at this; rw [List.length_map]; exact this
theorem nilI {z : Nat} (e : PV) : LeG (.tup [.sl z true [], e]) (.tup [eIs [], e]) := LeG.mk (PV.le_tup (PV.leL_cons (PV.le_nil _ _ _) (PV.leL_refl _)))
theorem inForce_calls (l : List Dc) (sg : List Int) (at_ : Int) (hl : l.length ≤ 20) (hd : ∀ x ∈ l, okF x) (hsl : sg.length < 1000000) : PCalls Try.prog 20 [eL l, eIs sg, eI at_] (eI2 (inA l sg at_)) := by
  have q1 := check_calls l (by omega) (fun x hx => (hd x hx).e)
  have q2 := signings_calls l sg hsl
  have q3 := time_calls at_
  unfold inA
  by_cases hz : chkA l = 0
  · rw [hz] at q1
    rw [if_pos hz]
    cases hs : sgB l sg with
    | false =>
      rw [hs] at q2
      refine PCalls.of (N := 55) (res := [.tmp 6, .tmp 7]) mixed Try.func20 rfl rfl rfl (by kernel_rfl) (by simp) [0, 1, 2, 6, 7, 8, 9, 10, 11, 12, 17, 27, 32, 33, 34, 35, 47] ?_
      repeat' (first | exact cl1 | ((with_reducible show Exists _); first | exact exHM _ | refine exU8 ?_) | ((with_reducible show callX _ _ _ _ _); (first | refine call_p (q1) (by kernel_rfl) rfl ?_ | refine call_p (q2) (by kernel_rfl) rfl ?_ | refine call_p (q3) (by kernel_rfl) rfl ?_)) | ((fail_if_success refine stp ?_); (conv => whnf) <;> (first | exact cl2 | refine XAlt.l ?_ | refine Sq.pr ?_ | refine Br.dec (fun hc => ?_) (fun hc => ?_) | refine Br.tt ?_ | refine Br.ff ?_ | refine Br.not ?_ | refine Br.mk (fun hc => ?_) (fun hc => ?_) | refine Opt.nn ?_ | refine Opt.ss ?_ | refine AltA.l ?_ | exact PV.leL_nil | refine PV.leL_cons ?_ ?_ | refine And.intro ?_ ?_ | refine ix_map (fun x hx => ?_) | refine exU8 ?_ | refine nilc (fun hn => ?_) ?_ | exact cl3 | refine imp0 (fun hpos => ?_) | refine fits_i64 ?_ ?_ | exact rfl | exact trivial | (first | refine stq ?_ | fail)))) <;> (try exact cl5)
      all_goals exact nilI _
    | true =>
      rw [hs] at q2
      cases ht : wiB TM at_ with
      | false =>
        rw [ht] at q3
        refine PCalls.of (N := 55) (res := [.tmp 6, .tmp 7]) mixed Try.func20 rfl rfl rfl (by kernel_rfl) (by simp) [0, 1, 2, 6, 7, 8, 9, 10, 11, 12, 17, 27, 32, 33, 34, 35, 47] ?_
        repeat' (first | exact cl1 | ((with_reducible show Exists _); first | exact exHM _ | refine exU8 ?_) | ((with_reducible show callX _ _ _ _ _); (first | refine call_p (q1) (by kernel_rfl) rfl ?_ | refine call_p (q2) (by kernel_rfl) rfl ?_ | refine call_p (q3) (by kernel_rfl) rfl ?_)) | ((fail_if_success refine stp ?_); (conv => whnf) <;> (first | exact cl2 | refine XAlt.l ?_ | refine Sq.pr ?_ | refine Br.dec (fun hc => ?_) (fun hc => ?_) | refine Br.tt ?_ | refine Br.ff ?_ | refine Br.not ?_ | refine Br.mk (fun hc => ?_) (fun hc => ?_) | refine Opt.nn ?_ | refine Opt.ss ?_ | refine AltA.l ?_ | exact PV.leL_nil | refine PV.leL_cons ?_ ?_ | refine And.intro ?_ ?_ | refine ix_map (fun x hx => ?_) | refine exU8 ?_ | refine nilc (fun hn => ?_) ?_ | exact cl3 | refine imp0 (fun hpos => ?_) | refine fits_i64 ?_ ?_ | exact rfl | exact trivial | (first | refine stq ?_ | fail)))) <;> (try exact cl5)
        all_goals exact nilI _
      | true =>
        rw [ht] at q3
        have hsz := sgB_len hs
        obtain ⟨h96, _, _, hnm⟩ := chkA_srt hz
        have q4 := played_icalls l sg at_ hl hsz (fun x hx => ⟨(hd x hx).2.1, (hd x hx).2.2⟩) hnm
        have hin := InP.play (l := l) (sg := sg) (fun x hx => (hd x hx).2.1) (ordL sg at_)
        have hol := ordL_len sg at_
        have okp : OkP l (playP l sg (ordL sg at_)) := hin.ok (by omega)
        have q4 : ICalls Try.prog 54 0 [] [.p (eL l), .p (eIs sg), .p (eI at_)] (.ptr 0 0) [(0, pC l sg (playP l sg (ordL sg at_)).dn.length (playP l sg (ordL sg at_)).lk.length), (1, .row 1 ((playP l sg (ordL sg at_)).dn.map PV.bool)), (2, .row 1 ((playP l sg (ordL sg at_)).lk.map eI)), (3, .mapS KTi 1 (hM (rvM (playP l sg (ordL sg at_)).rv)))] := q4
        show PCalls Try.prog 20 [eL l, eIs sg, eI at_] (eI2 (forL l (playP l sg (ordL sg at_)) at_ l.length, 0))
        generalize playP l sg (ordL sg at_) = P at *
        refine PCalls.of (N := 55) (res := [.tmp 6, .tmp 7]) mixed Try.func20 rfl rfl rfl (by kernel_rfl) (by simp) [0, 1, 2, 6, 7, 8, 9, 10, 11, 12, 17, 27, 32, 33, 34, 35, 47] ?_
        repeat' (first | exact cl1 | ((with_reducible show Exists _); first | exact exHM _ | refine exU8 ?_) | ((with_reducible show callX _ _ _ _ _); (first | refine call_p (q1) (by kernel_rfl) rfl ?_ | refine call_p (q2) (by kernel_rfl) rfl ?_ | refine call_p (q3) (by kernel_rfl) rfl ?_ | refine call_iE [] [(1216, .cells [.p (eL l), .p (eAt (atM l)), .p (eIs sg), .rsl 1217 1 0 P.dn.length, .rsl 1218 1 0 P.lk.length, .mp 1219]), (1217, .row 1 (P.dn.map PV.bool)), (1218, .row 1 (P.lk.map eI)), (1219, .mapS KTi 1 (hM (rvM P.rv)))] q4 (by kernel_rfl) rfl rfl (by simp) (by simp) (by simp) (fun _ _ => rfl) (by simp) (by simp [keys]) (by simp only [List.map_cons, List.map_nil, renO_hM]; rfl) ?_)) | ((fail_if_success refine stp ?_); (conv => whnf) <;> (first | exact cl2 | refine XAlt.l ?_ | refine Sq.pr ?_ | refine Br.dec (fun hc => ?_) (fun hc => ?_) | refine Br.tt ?_ | refine Br.ff ?_ | refine Br.not ?_ | refine Br.mk (fun hc => ?_) (fun hc => ?_) | refine Opt.nn ?_ | refine Opt.ss ?_ | refine AltA.l ?_ | exact PV.leL_nil | refine PV.leL_cons ?_ ?_ | refine And.intro ?_ ?_ | refine ix_map (fun x hx => ?_) | refine exU8 ?_ | refine nilc (fun hn => ?_) ?_ | refine call_iE [] [(1216, .cells [.p (eL l), .p (eAt (atM l)), .p (eIs sg), .rsl 1217 1 0 P.dn.length, .rsl 1218 1 0 P.lk.length, .mp 1219]), (1217, .row 1 (P.dn.map PV.bool)), (1218, .row 1 (P.lk.map eI)), (1219, .mapS KTi 1 (hM (rvM P.rv)))] q4 (by kernel_rfl) rfl rfl (by simp) (by simp) (by simp) (fun _ _ => rfl) (by simp) (by simp [keys]) (by simp only [List.map_cons, List.map_nil, renO_hM]; rfl) ?_ | exact cl3 | refine imp0 (fun hpos => ?_) | refine fits_i64 ?_ ?_ | exact rfl | exact trivial | (first | refine stq ?_ | fail)))) <;> (try exact cl5)
        refine Wpc.loopA (α := {i : Nat // i ≤ l.length}) mixed [0, 1, 2, 6, 7, 8, 9, 10, 11, 12, 17, 27, 32, 33, 34, 35, 47] (fun i => [(6, oVI 9 (forL l P at_ i.1)), (34, .p (eI i.1))]) (fun i => oHI 9 (forL l P at_ i.1)) (fun _ => 0) (fun i => l.length - i.1) ⟨0, by omega⟩ ?_ ?_
        · (first | refine Ent.ofA [] ?_ | refine Ent.ofC [] ?_) <;> (repeat' (first | exact trivial | refine HpLe.dd ?_ | refine HpLe.mk rfl (by simp) rfl (fun h => AObj.noConfusion h) ?_ ?_ | refine And.intro ?_ ?_ | exact cl9 | refine VLe.pe ?_ | refine VLe.agg ?_ | refine VLe.tup ?_ | refine VLe.fn ?_ ?_ | refine VLeL.cons ?_ ?_ | exact VLeL.nil | exact OLe.row _ _ | rfl | refine VLe.rsle rfl ?_ ?_ ?_ | refine OLe.rowe2 ?_ ?_ | refine OLe.mape ?_ ?_ | refine OLe.iter0 ?_ | refine OLe.itere ?_ ?_ | refine OLe.chane ?_ ?_ | refine OLe.mapSe ?_ ?_ ?_ | exact OLe.mapS0 rfl)) <;> try (first | (simp; done) | (congr 1; omega) | (congr 1; (first | (simp; done) | (simp; omega))))
        rintro ⟨i, hi⟩
        have hi : i ≤ l.length := hi
        show lpE [(6, oVI 9 (forL l P at_ i)), (34, _)] _ _ fun e => lpH (oHI 9 (forL l P at_ i)) _ [] fun h => _
        cases hxi : l[i]? with
        | some y =>
          have hlt : i < l.length := (List.getElem?_eq_some_iff.1 hxi).1
          have hyes : ((i : Int) < ((l.map eA).length : Int)) := by rw [List.length_map]; omega
          have hfa := forL_succ l P at_ i
          have hfl := forL_len l P at_ i
          have hno : noF l i = y.no := by unfold noF; rw [hxi]; rfl
          have q5 := state_icalls l sg P i at_ y hxi okp (by omega)
          cases hF : forF l P at_ i with
          | true =>
            have hst : (stA l P i at_).1 = 0 := of_decide_eq_true hF
            rw [if_pos hF, hno] at hfa
            cases hG : forL l P at_ i with
            | nil =>
              repeat' (first | exact cl1 | ((with_reducible show Exists _); first | exact exHM _ | refine exU8 ?_) | ((with_reducible show callX _ _ _ _ _); (first | refine call_iE [1216, 1217, 1218, 1219] ([(1216, .cells [.p (eL l), .p (eAt (atM l)), .p (eIs sg), .rsl 1217 1 0 P.dn.length, .rsl 1218 1 0 P.lk.length, .mp 1219]), (1217, .row 1 (P.dn.map PV.bool)), (1218, .row 1 (P.lk.map eI)), (1219, .mapS KTi 1 (hM (rvM P.rv)))]) (q5) (by kernel_rfl) rfl rfl (by decide) cl6 (fun i hi => by match i, hi with | 0, _ => (first | rfl | exact (renO_hM _ _ _ _).symm) | 1, _ => (first | rfl | exact (renO_hM _ _ _ _).symm) | 2, _ => (first | rfl | exact (renO_hM _ _ _ _).symm) | 3, _ => (first | rfl | exact (renO_hM _ _ _ _).symm)) cl7 cl8 (by simp [keys]) (by (try simp only [hP]); simp only [List.map_cons, List.map_nil, renO_hM]; rfl) ?_)) | ((fail_if_success refine stp ?_); (conv => whnf) <;> (first | exact cl2 | refine Br.dec (fun hc => ?_) (fun hc => absurd hyes hc) | refine ix_at hxi ?_ | refine Br.dec (fun hc => ?_) (fun hc => absurd hst hc) | refine XAlt.l ?_ | refine Sq.pr ?_ | refine Br.dec (fun hc => ?_) (fun hc => ?_) | refine Br.tt ?_ | refine Br.ff ?_ | refine Br.not ?_ | refine Br.mk (fun hc => ?_) (fun hc => ?_) | refine Opt.nn ?_ | refine Opt.ss ?_ | refine AltA.l ?_ | exact PV.leL_nil | refine PV.leL_cons ?_ ?_ | refine And.intro ?_ ?_ | refine ix_map (fun x hx => ?_) | refine exU8 ?_ | refine nilc (fun hn => ?_) ?_ | exact cl3 | refine imp0 (fun hpos => ?_) | refine fits_i64 ?_ ?_ | exact rfl | exact trivial | (first | refine stq ?_ | fail)))) <;> (try exact cl5)
              refine ⟨⟨i + 1, hlt⟩, by show l.length - (i + 1) < l.length - i; omega, ?_⟩
              show Ent _ _ (hdS [0, 1, 2, 6, 7, 8, 9, 10, 11, 12, 17, 27, 32, 33, 34, 35, 47] _ _ _ [(6, oVI 9 (forL l P at_ (i + 1))), (34, .p (eI ((i + 1 : Nat) : Int)))] (oHI 9 (forL l P at_ (i + 1))) _)
              rw [hfa, hG]
              (first | refine Ent.ofA [] ?_ | refine Ent.ofC [] ?_) <;> (repeat' (first | exact trivial | refine HpLe.dd ?_ | refine HpLe.mk rfl (by simp) rfl (fun h => AObj.noConfusion h) ?_ ?_ | refine And.intro ?_ ?_ | exact cl9 | refine VLe.pe ?_ | refine VLe.agg ?_ | refine VLe.tup ?_ | refine VLe.fn ?_ ?_ | refine VLeL.cons ?_ ?_ | exact VLeL.nil | exact OLe.row _ _ | rfl | refine VLe.rsle rfl ?_ ?_ ?_ | refine OLe.rowe2 ?_ ?_ | refine OLe.mape ?_ ?_ | refine OLe.iter0 ?_ | refine OLe.itere ?_ ?_ | refine OLe.chane ?_ ?_ | refine OLe.mapSe ?_ ?_ ?_ | exact OLe.mapS0 rfl)) <;> try (first | (simp; done) | (congr 1; omega) | (congr 1; (first | (simp; done) | (simp; omega))))
            | cons g gr =>
              have hgl : gr.length ≤ 20 := by have h := hfl; rw [hG] at h; simp at h; omega
              repeat' (first | exact cl1 | ((with_reducible show Exists _); first | exact exHM _ | refine exU8 ?_) | ((with_reducible show callX _ _ _ _ _); (first | refine call_iE [1216, 1217, 1218, 1219] ([(1216, .cells [.p (eL l), .p (eAt (atM l)), .p (eIs sg), .rsl 1217 1 0 P.dn.length, .rsl 1218 1 0 P.lk.length, .mp 1219]), (1217, .row 1 (P.dn.map PV.bool)), (1218, .row 1 (P.lk.map eI)), (1219, .mapS KTi 1 (hM (rvM P.rv)))]) (q5) (by kernel_rfl) rfl rfl (by decide) cl6 (fun i hi => by match i, hi with | 0, _ => (first | rfl | exact (renO_hM _ _ _ _).symm) | 1, _ => (first | rfl | exact (renO_hM _ _ _ _).symm) | 2, _ => (first | rfl | exact (renO_hM _ _ _ _).symm) | 3, _ => (first | rfl | exact (renO_hM _ _ _ _).symm)) cl7 cl8 (by simp [keys]) (by (try simp only [hP]); simp only [List.map_cons, List.map_nil, renO_hM]; rfl) ?_)) | ((fail_if_success refine stp ?_); (conv => whnf) <;> (first | exact cl2 | refine Br.dec (fun hc => ?_) (fun hc => absurd hyes hc) | refine ix_at hxi ?_ | refine Br.dec (fun hc => ?_) (fun hc => absurd hst hc) | refine XAlt.l ?_ | refine Sq.pr ?_ | refine Br.dec (fun hc => ?_) (fun hc => ?_) | refine Br.tt ?_ | refine Br.ff ?_ | refine Br.not ?_ | refine Br.mk (fun hc => ?_) (fun hc => ?_) | refine Opt.nn ?_ | refine Opt.ss ?_ | refine AltA.l ?_ | exact PV.leL_nil | refine PV.leL_cons ?_ ?_ | refine And.intro ?_ ?_ | refine ix_map (fun x hx => ?_) | refine exU8 ?_ | refine nilc (fun hn => ?_) ?_ | exact cl3 | refine imp0 (fun hpos => ?_) | refine fits_i64 ?_ ?_ | exact rfl | exact trivial | (first | refine stq ?_ | fail)))) <;> (try exact cl5)
              refine ⟨⟨i + 1, hlt⟩, by show l.length - (i + 1) < l.length - i; omega, ?_⟩
              show Ent _ _ (hdS [0, 1, 2, 6, 7, 8, 9, 10, 11, 12, 17, 27, 32, 33, 34, 35, 47] _ _ _ [(6, oVI 9 (forL l P at_ (i + 1))), (34, .p (eI ((i + 1 : Nat) : Int)))] (oHI 9 (forL l P at_ (i + 1))) _)
              rw [hfa, hG]
              (first | refine Ent.ofA [] ?_ | refine Ent.ofC [] ?_) <;> (repeat' (first | exact trivial | refine HpLe.dd ?_ | refine HpLe.mk rfl (by simp) rfl (fun h => AObj.noConfusion h) ?_ ?_ | refine And.intro ?_ ?_ | exact cl9 | refine VLe.pe ?_ | refine VLe.agg ?_ | refine VLe.tup ?_ | refine VLe.fn ?_ ?_ | refine VLeL.cons ?_ ?_ | exact VLeL.nil | exact OLe.row _ _ | rfl | refine VLe.rsle rfl ?_ ?_ ?_ | refine OLe.rowe2 ?_ ?_ | refine OLe.mape ?_ ?_ | refine OLe.iter0 ?_ | refine OLe.itere ?_ ?_ | refine OLe.chane ?_ ?_ | refine OLe.mapSe ?_ ?_ ?_ | exact OLe.mapS0 rfl)) <;> try (first | (simp; done) | (congr 1; omega) | (congr 1; (first | (simp; done) | (simp; omega))))
              all_goals (try (show List.map eI (g :: gr) ++ [eI y.no] = List.map eI (g :: (gr ++ [y.no])); simp; done))
          | false =>
            have hst : ¬ (stA l P i at_).1 = 0 := of_decide_eq_false hF
            rw [if_neg (by rw [hF]; exact Bool.false_ne_true), List.append_nil] at hfa
            cases hG : forL l P at_ i with
            | nil =>
              repeat' (first | exact cl1 | ((with_reducible show Exists _); first | exact exHM _ | refine exU8 ?_) | ((with_reducible show callX _ _ _ _ _); (first | refine call_iE [1216, 1217, 1218, 1219] ([(1216, .cells [.p (eL l), .p (eAt (atM l)), .p (eIs sg), .rsl 1217 1 0 P.dn.length, .rsl 1218 1 0 P.lk.length, .mp 1219]), (1217, .row 1 (P.dn.map PV.bool)), (1218, .row 1 (P.lk.map eI)), (1219, .mapS KTi 1 (hM (rvM P.rv)))]) (q5) (by kernel_rfl) rfl rfl (by decide) cl6 (fun i hi => by match i, hi with | 0, _ => (first | rfl | exact (renO_hM _ _ _ _).symm) | 1, _ => (first | rfl | exact (renO_hM _ _ _ _).symm) | 2, _ => (first | rfl | exact (renO_hM _ _ _ _).symm) | 3, _ => (first | rfl | exact (renO_hM _ _ _ _).symm)) cl7 cl8 (by simp [keys]) (by (try simp only [hP]); simp only [List.map_cons, List.map_nil, renO_hM]; rfl) ?_)) | ((fail_if_success refine stp ?_); (conv => whnf) <;> (first | exact cl2 | refine Br.dec (fun hc => ?_) (fun hc => absurd hyes hc) | refine ix_at hxi ?_ | refine Br.dec (fun hc => absurd hc hst) (fun hc => ?_) | refine XAlt.l ?_ | refine Sq.pr ?_ | refine Br.dec (fun hc => ?_) (fun hc => ?_) | refine Br.tt ?_ | refine Br.ff ?_ | refine Br.not ?_ | refine Br.mk (fun hc => ?_) (fun hc => ?_) | refine Opt.nn ?_ | refine Opt.ss ?_ | refine AltA.l ?_ | exact PV.leL_nil | refine PV.leL_cons ?_ ?_ | refine And.intro ?_ ?_ | refine ix_map (fun x hx => ?_) | refine exU8 ?_ | refine nilc (fun hn => ?_) ?_ | exact cl3 | refine imp0 (fun hpos => ?_) | refine fits_i64 ?_ ?_ | exact rfl | exact trivial | (first | refine stq ?_ | fail)))) <;> (try exact cl5)
              refine ⟨⟨i + 1, hlt⟩, by show l.length - (i + 1) < l.length - i; omega, ?_⟩
              show Ent _ _ (hdS [0, 1, 2, 6, 7, 8, 9, 10, 11, 12, 17, 27, 32, 33, 34, 35, 47] _ _ _ [(6, oVI 9 (forL l P at_ (i + 1))), (34, .p (eI ((i + 1 : Nat) : Int)))] (oHI 9 (forL l P at_ (i + 1))) _)
              rw [hfa, hG]
              (first | refine Ent.ofA [] ?_ | refine Ent.ofC [] ?_) <;> (repeat' (first | exact trivial | refine HpLe.dd ?_ | refine HpLe.mk rfl (by simp) rfl (fun h => AObj.noConfusion h) ?_ ?_ | refine And.intro ?_ ?_ | exact cl9 | refine VLe.pe ?_ | refine VLe.agg ?_ | refine VLe.tup ?_ | refine VLe.fn ?_ ?_ | refine VLeL.cons ?_ ?_ | exact VLeL.nil | exact OLe.row _ _ | rfl | refine VLe.rsle rfl ?_ ?_ ?_ | refine OLe.rowe2 ?_ ?_ | refine OLe.mape ?_ ?_ | refine OLe.iter0 ?_ | refine OLe.itere ?_ ?_ | refine OLe.chane ?_ ?_ | refine OLe.mapSe ?_ ?_ ?_ | exact OLe.mapS0 rfl)) <;> try (first | (simp; done) | (congr 1; omega) | (congr 1; (first | (simp; done) | (simp; omega))))
            | cons g gr =>
              repeat' (first | exact cl1 | ((with_reducible show Exists _); first | exact exHM _ | refine exU8 ?_) | ((with_reducible show callX _ _ _ _ _); (first | refine call_iE [1216, 1217, 1218, 1219] ([(1216, .cells [.p (eL l), .p (eAt (atM l)), .p (eIs sg), .rsl 1217 1 0 P.dn.length, .rsl 1218 1 0 P.lk.length, .mp 1219]), (1217, .row 1 (P.dn.map PV.bool)), (1218, .row 1 (P.lk.map eI)), (1219, .mapS KTi 1 (hM (rvM P.rv)))]) (q5) (by kernel_rfl) rfl rfl (by decide) cl6 (fun i hi => by match i, hi with | 0, _ => (first | rfl | exact (renO_hM _ _ _ _).symm) | 1, _ => (first | rfl | exact (renO_hM _ _ _ _).symm) | 2, _ => (first | rfl | exact (renO_hM _ _ _ _).symm) | 3, _ => (first | rfl | exact (renO_hM _ _ _ _).symm)) cl7 cl8 (by simp [keys]) (by (try simp only [hP]); simp only [List.map_cons, List.map_nil, renO_hM]; rfl) ?_)) | ((fail_if_success refine stp ?_); (conv => whnf) <;> (first | exact cl2 | refine Br.dec (fun hc => ?_) (fun hc => absurd hyes hc) | refine ix_at hxi ?_ | refine Br.dec (fun hc => absurd hc hst) (fun hc => ?_) | refine XAlt.l ?_ | refine Sq.pr ?_ | refine Br.dec (fun hc => ?_) (fun hc => ?_) | refine Br.tt ?_ | refine Br.ff ?_ | refine Br.not ?_ | refine Br.mk (fun hc => ?_) (fun hc => ?_) | refine Opt.nn ?_ | refine Opt.ss ?_ | refine AltA.l ?_ | exact PV.leL_nil | refine PV.leL_cons ?_ ?_ | refine And.intro ?_ ?_ | refine ix_map (fun x hx => ?_) | refine exU8 ?_ | refine nilc (fun hn => ?_) ?_ | exact cl3 | refine imp0 (fun hpos => ?_) | refine fits_i64 ?_ ?_ | exact rfl | exact trivial | (first | refine stq ?_ | fail)))) <;> (try exact cl5)
              refine ⟨⟨i + 1, hlt⟩, by show l.length - (i + 1) < l.length - i; omega, ?_⟩
              show Ent _ _ (hdS [0, 1, 2, 6, 7, 8, 9, 10, 11, 12, 17, 27, 32, 33, 34, 35, 47] _ _ _ [(6, oVI 9 (forL l P at_ (i + 1))), (34, .p (eI ((i + 1 : Nat) : Int)))] (oHI 9 (forL l P at_ (i + 1))) _)
              rw [hfa, hG]
              (first | refine Ent.ofA [] ?_ | refine Ent.ofC [] ?_) <;> (repeat' (first | exact trivial | refine HpLe.dd ?_ | refine HpLe.mk rfl (by simp) rfl (fun h => AObj.noConfusion h) ?_ ?_ | refine And.intro ?_ ?_ | exact cl9 | refine VLe.pe ?_ | refine VLe.agg ?_ | refine VLe.tup ?_ | refine VLe.fn ?_ ?_ | refine VLeL.cons ?_ ?_ | exact VLeL.nil | exact OLe.row _ _ | rfl | refine VLe.rsle rfl ?_ ?_ ?_ | refine OLe.rowe2 ?_ ?_ | refine OLe.mape ?_ ?_ | refine OLe.iter0 ?_ | refine OLe.itere ?_ ?_ | refine OLe.chane ?_ ?_ | refine OLe.mapSe ?_ ?_ ?_ | exact OLe.mapS0 rfl)) <;> try (first | (simp; done) | (congr 1; omega) | (congr 1; (first | (simp; done) | (simp; omega))))
        | none =>
          have hge : l.length ≤ i := List.getElem?_eq_none_iff.1 hxi
          have hno : ¬ ((i : Int) < ((l.map eA).length : Int)) := by rw [List.length_map]; omega
          have hil : i = l.length := by omega
          cases hG : forL l P at_ i with
          | nil =>
            repeat' (first | exact cl1 | ((with_reducible show Exists _); first | exact exHM _ | refine exU8 ?_) | ((fail_if_success refine stp ?_); (conv => whnf) <;> (first | exact cl2 | refine Br.dec (fun hc => absurd hc hno) (fun hc => ?_) | refine XAlt.l ?_ | refine Sq.pr ?_ | refine Br.dec (fun hc => ?_) (fun hc => ?_) | refine Br.tt ?_ | refine Br.ff ?_ | refine Br.not ?_ | refine Br.mk (fun hc => ?_) (fun hc => ?_) | refine Opt.nn ?_ | refine Opt.ss ?_ | refine AltA.l ?_ | exact PV.leL_nil | refine PV.leL_cons ?_ ?_ | refine And.intro ?_ ?_ | refine ix_map (fun x hx => ?_) | refine exU8 ?_ | refine nilc (fun hn => ?_) ?_ | exact cl3 | refine imp0 (fun hpos => ?_) | refine fits_i64 ?_ ?_ | exact rfl | exact trivial | (first | refine stq ?_ | fail)))) <;> (try exact cl5)
            rw [← hil, hG]; exact nilI _
          | cons g gr =>
            repeat' (first | exact cl1 | ((with_reducible show Exists _); first | exact exHM _ | refine exU8 ?_) | ((fail_if_success refine stp ?_); (conv => whnf) <;> (first | exact cl2 | refine Br.dec (fun hc => absurd hc hno) (fun hc => ?_) | refine XAlt.l ?_ | refine Sq.pr ?_ | refine Br.dec (fun hc => ?_) (fun hc => ?_) | refine Br.tt ?_ | refine Br.ff ?_ | refine Br.not ?_ | refine Br.mk (fun hc => ?_) (fun hc => ?_) | refine Opt.nn ?_ | refine Opt.ss ?_ | refine AltA.l ?_ | exact PV.leL_nil | refine PV.leL_cons ?_ ?_ | refine And.intro ?_ ?_ | refine ix_map (fun x hx => ?_) | refine exU8 ?_ | refine nilc (fun hn => ?_) ?_ | exact cl3 | refine imp0 (fun hpos => ?_) | refine fits_i64 ?_ ?_ | exact rfl | exact trivial | (first | refine stq ?_ | fail)))) <;> (try exact cl5)
            rw [← hil, hG]
            refine LeG.of (congrArg (fun q => PV.tup [PV.sl 1 false q, eI 0]) ?_)
            show List.take (gr.length + 1) (List.drop 0 (List.map eI (g :: gr))) = List.map eI (g :: gr)
            rw [List.drop_zero, List.take_of_length_le (by simp)]
  · rw [if_neg hz]
    refine PCalls.of (N := 55) (res := [.tmp 6, .tmp 7]) mixed Try.func20 rfl rfl rfl (by kernel_rfl) (by simp) [0, 1, 2, 6, 7, 8, 9, 10, 11, 12, 17, 27, 32, 33, 34, 35, 47] ?_
    repeat' (first | exact cl1 | ((with_reducible show Exists _); first | exact exHM _ | refine exU8 ?_) | ((with_reducible show callX _ _ _ _ _); (first | refine call_p (q1) (by kernel_rfl) rfl ?_)) | ((fail_if_success refine stp ?_); (conv => whnf) <;> (first | exact cl2 | refine XAlt.l ?_ | refine Sq.pr ?_ | refine Br.dec (fun hc => ?_) (fun hc => ?_) | refine Br.tt ?_ | refine Br.ff ?_ | refine Br.not ?_ | refine Br.mk (fun hc => ?_) (fun hc => ?_) | refine Opt.nn ?_ | refine Opt.ss ?_ | refine AltA.l ?_ | exact PV.leL_nil | refine PV.leL_cons ?_ ?_ | refine And.intro ?_ ?_ | refine ix_map (fun x hx => ?_) | refine exU8 ?_ | refine nilc (fun hn => ?_) ?_ | exact cl3 | refine imp0 (fun hpos => ?_) | refine fits_i64 ?_ ?_ | exact rfl | exact trivial | (first | refine stq ?_ | fail)))) <;> (try exact cl5)
    all_goals exact nilI _
end Go.Proofs.Ytgclicahmbgfiaa

namespace Go.Proofs.Ytgclicahmbgfiaa.Cd
open Go Go.Sg
/-- A value: a kind, a number, a string, a list. -/
inductive Vl where
  | mk (kind n : Int) (s : ByteArray) (l : List Vl)
namespace Vl
def kind : Vl → Int | mk k _ _ _ => k
def n : Vl → Int | mk _ n _ _ => n
def s : Vl → ByteArray | mk _ _ s _ => s
def l : Vl → List Vl | mk _ _ _ l => l
end Vl
theorem sizeOf_mem {x : Vl} : ∀ {l : List Vl}, x ∈ l → SizeOf.sizeOf x < SizeOf.sizeOf l
  | y :: r, h => by
    rcases List.mem_cons.1 h with h | h
    · subst h; simp; omega
    · have := sizeOf_mem h; simp; omega
theorem Vl.ind {P : Vl → Prop} (h : ∀ v, (∀ x ∈ v.l, P x) → P v) : ∀ v, P v := by
  have key : ∀ m v, SizeOf.sizeOf v < m → P v := by
    intro m
    induction m with
    | zero => intro v hv; omega
    | succ m ih =>
      intro v hv
      refine h v fun x hx => ih x ?_
      have := sizeOf_mem hx
      cases v with
      | mk k n s l =>
        have hx2 : SizeOf.sizeOf x < SizeOf.sizeOf l := sizeOf_mem hx
        simp at hv; omega
  exact fun v => key _ v (Nat.lt_succ_self _)
mutual
def eV : Vl → PV
  | .mk k n s l => .agg [eI k, eI n, .str s, .sl 4 false (eVs l)]
def eVs : List Vl → List PV
  | [] => []
  | x :: r => eV x :: eVs r
end
theorem eVs_map : ∀ l, eVs l = l.map eV
  | [] => rfl
  | x :: r => by rw [eVs, eVs_map r]; rfl
/-- A value, as the walk sees it. -/
def eW (v : Vl) : PV := .agg [eI v.kind, eI v.n, .str v.s, .sl 4 false (v.l.map eV)]
theorem eV_eq (v : Vl) : eV v = eW v := by
  cases v with
  | mk k n s l => rw [eV, eVs_map]; rfl
theorem ix_v {l : List Vl} {n : Nat} {x : Vl} {K : PV → Prop} (hx : l[n]? = some x) (k : K (eW x)) : ∀ p, (l.map eV)[n]? = some p → K p := fun p hp => by
  rw [List.getElem?_map, hx] at hp
  injection hp with hp; subst hp; rw [eV_eq]; exact k
set_option maxRecDepth 100000
set_option maxHeartbeats 4000000
mutual
def frm : Vl → Bool
  | .mk k n s l => if k = 1 then decide (s = ByteArray.empty) && l.isEmpty else if k = 2 then decide (n = 0) && l.isEmpty else if k = 3 then decide (n = 0) && decide (s = ByteArray.empty) && frms l else false
def frms : List Vl → Bool
  | [] => true
  | x :: r => frm x && frms r
end
mutual
def dep : Vl → Nat
  | .mk k _ _ l => if k = 3 then deps l + 1 else 0
def deps : List Vl → Nat
  | [] => 0
  | x :: r => max (dep x) (deps r)
end
theorem frms_all : ∀ l, frms l = l.all frm
  | [] => rfl
  | x :: r => by rw [frms, frms_all r]; rfl
end Go.Proofs.Ytgclicahmbgfiaa.Cd

namespace Go.Proofs.Ytgclicahmbgfiaa.Cd
open Go Go.Sg
set_option maxRecDepth 100000
set_option maxHeartbeats 20000000
mutual
def lens (N : Nat) : Vl → Prop
  | .mk _ _ _ l => l.length ≤ N ∧ lensL N l
def lensL (N : Nat) : List Vl → Prop
  | [] => True
  | x :: r => lens N x ∧ lensL N r
end
theorem lensL_mem {N : Nat} {x : Vl} : ∀ {l : List Vl}, lensL N l → x ∈ l → lens N x
  | y :: r, h, hx => by
    rcases List.mem_cons.1 hx with e | e
    · subst e; exact h.1
    · exact lensL_mem h.2 e
theorem dep_mem {x : Vl} : ∀ {l : List Vl}, x ∈ l → dep x ≤ deps l
  | y :: r, hx => by
    rw [deps]
    rcases List.mem_cons.1 hx with e | e
    · subst e; omega
    · have := dep_mem e; omega
theorem deps_append (a b : List Vl) : deps (a ++ b) = max (deps a) (deps b) := by
  induction a with
  | nil => simp [deps]
  | cons x r ih => simp [deps, ih, Nat.max_assoc]
theorem deps_take {l : List Vl} {i : Nat} {x : Vl} (h : l[i]? = some x) : deps (l.take (i + 1)) = max (deps (l.take i)) (dep x) := by
  rw [List.take_add_one, h, deps_append]; simp [deps]
end Go.Proofs.Ytgclicahmbgfiaa.Cd

namespace Go.Proofs.Ytgclicahmbgfiaa.Cd
open Go Go.Sg
set_option maxRecDepth 100000
set_option maxHeartbeats 20000000
theorem isE (l : List Vl) : decide (((l.map eV).length : Int) = 0) = l.isEmpty := by
  rw [List.length_map]
  cases l with
  | nil => rfl
  | cons a r => simp; omega
theorem frm_list {n : Int} {s : ByteArray} {l : List Vl} : frm (.mk 3 n s l) = (decide (n = 0) && decide (s = ByteArray.empty) && l.all frm) := by
  rw [frm, if_neg (by decide), if_neg (by decide), if_pos rfl, frms_all]
theorem frm_int {n : Int} {s : ByteArray} {l : List Vl} : frm (.mk 1 n s l) = (decide (s = ByteArray.empty) && l.isEmpty) := by
  rw [frm, if_pos rfl]
theorem frm_text {n : Int} {s : ByteArray} {l : List Vl} : frm (.mk 2 n s l) = (decide (n = 0) && l.isEmpty) := by
  rw [frm, if_neg (by decide), if_pos rfl]
theorem frm_other {k n : Int} {s : ByteArray} {l : List Vl} (h1 : ¬ k = 1) (h2 : ¬ k = 2) (h3 : ¬ k = 3) : frm (.mk k n s l) = false := by
  rw [frm, if_neg h1, if_neg h2, if_neg h3]
end Go.Proofs.Ytgclicahmbgfiaa.Cd

namespace Go.Proofs.Ytgclicahmbgfiaa.Cd
open Go Go.Sg
set_option maxRecDepth 100000
set_option maxHeartbeats 40000000
def fmR (v : Vl) : PV := if frm v then .tup [eI (dep v), .bool true] else .tup [eI 0, .bool false]
theorem ix_l {l : List PV} {n : Nat} {x : PV} {K : PV → Prop} (h : l[n]? = some x) (k : K x) : ∀ p, l[n]? = some p → K p := fun p hp => by
  rw [h] at hp; injection hp with hp; subst hp; exact k
theorem dep_no {k n : Int} {s : ByteArray} {l : List Vl} (h : ¬ k = 3) : dep (.mk k n s l) = 0 := by rw [dep, if_neg h]
theorem dep_list {n : Int} {s : ByteArray} {l : List Vl} : dep (.mk 3 n s l) = deps l + 1 := by rw [dep, if_pos rfl]
theorem fmR_no {v : Vl} (h : frm v = false) : fmR v = .tup [eI 0, .bool false] := by unfold fmR; rw [h]; rfl
theorem fmR_yes {v : Vl} (h : frm v = true) : fmR v = .tup [eI (dep v), .bool true] := by unfold fmR; rw [h]; rfl
theorem formed_calls : ∀ v, lens 5000 v → dep v ≤ 1000000 → PCalls Try.prog 85 [eW v] (fmR v) := by
  refine Vl.ind fun v ih hl hd => ?_
  obtain ⟨k, n, s, l⟩ := v
  obtain ⟨hll, hls⟩ := hl
  have ih : ∀ x ∈ l, lens 5000 x → dep x ≤ 1000000 → PCalls Try.prog 85 [eW x] (fmR x) := ih
  show PCalls Try.prog 85 [.agg [eI k, eI n, .str s, .sl 4 false (l.map eV)]] _
  have hel : ∀ b, decide (((l.map eV).length : Int) = 0) = b → l.isEmpty = b := fun b h => by rw [← isE]; exact h
  by_cases h1 : k = 1
  · subst h1
    by_cases hs : s = ByteArray.empty
    · by_cases he : ((l.map eV).length : Int) = 0
      · have hf : frm (.mk 1 n s l) = true := by rw [frm_int, decide_eq_true hs, hel true (decide_eq_true he)]; rfl
        rw [fmR_yes hf, dep_no (by decide)]
        refine PCalls.of (N := 74) (res := [.tmp 2, .tmp 3]) mixed Try.func85 rfl rfl rfl (by kernel_rfl) (by simp) [0, 1, 2, 3, 4, 6, 7, 8, 50, 53, 55, 56, 57, 58, 67] ?_
        repeat' (first | exact cl1 | ((with_reducible show Exists _); first | exact exHM _ | refine exU8 ?_) | ((fail_if_success refine stp ?_); (conv => whnf) <;> (first | exact cl2 | refine ix_l rfl ?_ | refine Br.tt ?_ | refine Br.ff ?_ | refine Br.dec (fun hc => ?_) (fun hc => absurd hs hc) | refine Br.dec (fun hc => ?_) (fun hc => absurd he hc) | refine XAlt.l ?_ | refine Sq.pr ?_ | refine Br.dec (fun hc => ?_) (fun hc => ?_) | refine Br.tt ?_ | refine Br.ff ?_ | refine Br.not ?_ | refine Br.mk (fun hc => ?_) (fun hc => ?_) | refine Opt.nn ?_ | refine Opt.ss ?_ | refine AltA.l ?_ | exact PV.leL_nil | refine PV.leL_cons ?_ ?_ | refine And.intro ?_ ?_ | refine ix_map (fun x hx => ?_) | refine exU8 ?_ | refine nilc (fun hn => ?_) ?_ | exact cl3 | refine imp0 (fun hpos => ?_) | refine fits_i64 ?_ ?_ | exact rfl | exact trivial | (first | refine stq ?_ | fail)))) <;> (try exact cl5)
      · have hf : frm (.mk 1 n s l) = false := by rw [frm_int, hel false (decide_eq_false he)]; simp
        rw [fmR_no hf]
        refine PCalls.of (N := 74) (res := [.tmp 2, .tmp 3]) mixed Try.func85 rfl rfl rfl (by kernel_rfl) (by simp) [0, 1, 2, 3, 4, 6, 7, 8, 50, 53, 55, 56, 57, 58, 67] ?_
        repeat' (first | exact cl1 | ((with_reducible show Exists _); first | exact exHM _ | refine exU8 ?_) | ((fail_if_success refine stp ?_); (conv => whnf) <;> (first | exact cl2 | refine ix_l rfl ?_ | refine Br.tt ?_ | refine Br.ff ?_ | refine Br.dec (fun hc => ?_) (fun hc => absurd hs hc) | refine Br.dec (fun hc => absurd hc he) (fun hc => ?_) | refine XAlt.l ?_ | refine Sq.pr ?_ | refine Br.dec (fun hc => ?_) (fun hc => ?_) | refine Br.tt ?_ | refine Br.ff ?_ | refine Br.not ?_ | refine Br.mk (fun hc => ?_) (fun hc => ?_) | refine Opt.nn ?_ | refine Opt.ss ?_ | refine AltA.l ?_ | exact PV.leL_nil | refine PV.leL_cons ?_ ?_ | refine And.intro ?_ ?_ | refine ix_map (fun x hx => ?_) | refine exU8 ?_ | refine nilc (fun hn => ?_) ?_ | exact cl3 | refine imp0 (fun hpos => ?_) | refine fits_i64 ?_ ?_ | exact rfl | exact trivial | (first | refine stq ?_ | fail)))) <;> (try exact cl5)
    · have hf : frm (.mk 1 n s l) = false := by rw [frm_int, decide_eq_false hs]; rfl
      rw [fmR_no hf]
      refine PCalls.of (N := 74) (res := [.tmp 2, .tmp 3]) mixed Try.func85 rfl rfl rfl (by kernel_rfl) (by simp) [0, 1, 2, 3, 4, 6, 7, 8, 50, 53, 55, 56, 57, 58, 67] ?_
      repeat' (first | exact cl1 | ((with_reducible show Exists _); first | exact exHM _ | refine exU8 ?_) | ((fail_if_success refine stp ?_); (conv => whnf) <;> (first | exact cl2 | refine ix_l rfl ?_ | refine Br.tt ?_ | refine Br.ff ?_ | refine Br.dec (fun hc => absurd hc hs) (fun hc => ?_) | refine XAlt.l ?_ | refine Sq.pr ?_ | refine Br.dec (fun hc => ?_) (fun hc => ?_) | refine Br.tt ?_ | refine Br.ff ?_ | refine Br.not ?_ | refine Br.mk (fun hc => ?_) (fun hc => ?_) | refine Opt.nn ?_ | refine Opt.ss ?_ | refine AltA.l ?_ | exact PV.leL_nil | refine PV.leL_cons ?_ ?_ | refine And.intro ?_ ?_ | refine ix_map (fun x hx => ?_) | refine exU8 ?_ | refine nilc (fun hn => ?_) ?_ | exact cl3 | refine imp0 (fun hpos => ?_) | refine fits_i64 ?_ ?_ | exact rfl | exact trivial | (first | refine stq ?_ | fail)))) <;> (try exact cl5)
  · by_cases h2 : k = 2
    · subst h2
      by_cases hn : n = 0
      · by_cases he : ((l.map eV).length : Int) = 0
        · have hf : frm (.mk 2 n s l) = true := by rw [frm_text, decide_eq_true hn, hel true (decide_eq_true he)]; rfl
          rw [fmR_yes hf, dep_no (by decide)]
          refine PCalls.of (N := 74) (res := [.tmp 2, .tmp 3]) mixed Try.func85 rfl rfl rfl (by kernel_rfl) (by simp) [0, 1, 2, 3, 4, 6, 7, 8, 50, 53, 55, 56, 57, 58, 67] ?_
          repeat' (first | exact cl1 | ((with_reducible show Exists _); first | exact exHM _ | refine exU8 ?_) | ((fail_if_success refine stp ?_); (conv => whnf) <;> (first | exact cl2 | refine ix_l rfl ?_ | refine Br.tt ?_ | refine Br.ff ?_ | refine Br.dec (fun hc => ?_) (fun hc => absurd hn hc) | refine Br.dec (fun hc => ?_) (fun hc => absurd he hc) | refine XAlt.l ?_ | refine Sq.pr ?_ | refine Br.dec (fun hc => ?_) (fun hc => ?_) | refine Br.tt ?_ | refine Br.ff ?_ | refine Br.not ?_ | refine Br.mk (fun hc => ?_) (fun hc => ?_) | refine Opt.nn ?_ | refine Opt.ss ?_ | refine AltA.l ?_ | exact PV.leL_nil | refine PV.leL_cons ?_ ?_ | refine And.intro ?_ ?_ | refine ix_map (fun x hx => ?_) | refine exU8 ?_ | refine nilc (fun hn => ?_) ?_ | exact cl3 | refine imp0 (fun hpos => ?_) | refine fits_i64 ?_ ?_ | exact rfl | exact trivial | (first | refine stq ?_ | fail)))) <;> (try exact cl5)
        · have hf : frm (.mk 2 n s l) = false := by rw [frm_text, hel false (decide_eq_false he)]; simp
          rw [fmR_no hf]
          refine PCalls.of (N := 74) (res := [.tmp 2, .tmp 3]) mixed Try.func85 rfl rfl rfl (by kernel_rfl) (by simp) [0, 1, 2, 3, 4, 6, 7, 8, 50, 53, 55, 56, 57, 58, 67] ?_
          repeat' (first | exact cl1 | ((with_reducible show Exists _); first | exact exHM _ | refine exU8 ?_) | ((fail_if_success refine stp ?_); (conv => whnf) <;> (first | exact cl2 | refine ix_l rfl ?_ | refine Br.tt ?_ | refine Br.ff ?_ | refine Br.dec (fun hc => ?_) (fun hc => absurd hn hc) | refine Br.dec (fun hc => absurd hc he) (fun hc => ?_) | refine XAlt.l ?_ | refine Sq.pr ?_ | refine Br.dec (fun hc => ?_) (fun hc => ?_) | refine Br.tt ?_ | refine Br.ff ?_ | refine Br.not ?_ | refine Br.mk (fun hc => ?_) (fun hc => ?_) | refine Opt.nn ?_ | refine Opt.ss ?_ | refine AltA.l ?_ | exact PV.leL_nil | refine PV.leL_cons ?_ ?_ | refine And.intro ?_ ?_ | refine ix_map (fun x hx => ?_) | refine exU8 ?_ | refine nilc (fun hn => ?_) ?_ | exact cl3 | refine imp0 (fun hpos => ?_) | refine fits_i64 ?_ ?_ | exact rfl | exact trivial | (first | refine stq ?_ | fail)))) <;> (try exact cl5)
      · have hf : frm (.mk 2 n s l) = false := by rw [frm_text, decide_eq_false hn]; rfl
        rw [fmR_no hf]
        refine PCalls.of (N := 74) (res := [.tmp 2, .tmp 3]) mixed Try.func85 rfl rfl rfl (by kernel_rfl) (by simp) [0, 1, 2, 3, 4, 6, 7, 8, 50, 53, 55, 56, 57, 58, 67] ?_
        repeat' (first | exact cl1 | ((with_reducible show Exists _); first | exact exHM _ | refine exU8 ?_) | ((fail_if_success refine stp ?_); (conv => whnf) <;> (first | exact cl2 | refine ix_l rfl ?_ | refine Br.tt ?_ | refine Br.ff ?_ | refine Br.dec (fun hc => absurd hc hn) (fun hc => ?_) | refine XAlt.l ?_ | refine Sq.pr ?_ | refine Br.dec (fun hc => ?_) (fun hc => ?_) | refine Br.tt ?_ | refine Br.ff ?_ | refine Br.not ?_ | refine Br.mk (fun hc => ?_) (fun hc => ?_) | refine Opt.nn ?_ | refine Opt.ss ?_ | refine AltA.l ?_ | exact PV.leL_nil | refine PV.leL_cons ?_ ?_ | refine And.intro ?_ ?_ | refine ix_map (fun x hx => ?_) | refine exU8 ?_ | refine nilc (fun hn => ?_) ?_ | exact cl3 | refine imp0 (fun hpos => ?_) | refine fits_i64 ?_ ?_ | exact rfl | exact trivial | (first | refine stq ?_ | fail)))) <;> (try exact cl5)
    · by_cases h3 : k = 3
      · subst h3
        by_cases hn : n = 0
        · by_cases hs : s = ByteArray.empty
          · rw [dep_list] at hd
            by_cases he : ((l.map eV).length : Int) = 0
            · have hle : l = [] := by
                rw [List.length_map] at he
                exact List.length_eq_zero_iff.1 (by omega)
              subst hle
              have hf : frm (.mk 3 n s []) = true := by rw [frm_list, decide_eq_true hn, decide_eq_true hs]; rfl
              rw [fmR_yes hf, dep_list]
              refine PCalls.of (N := 74) (res := [.tmp 2, .tmp 3]) mixed Try.func85 rfl rfl rfl (by kernel_rfl) (by simp) [0, 1, 2, 3, 4, 6, 7, 8, 50, 53, 55, 56, 57, 58, 67] ?_
              repeat' (first | exact cl1 | ((with_reducible show Exists _); first | exact exHM _ | refine exU8 ?_) | ((fail_if_success refine stp ?_); (conv => whnf) <;> (first | exact cl2 | refine ix_l rfl ?_ | refine Br.tt ?_ | refine Br.ff ?_ | refine Br.dec (fun hc => ?_) (fun hc => absurd hn hc) | refine Br.dec (fun hc => ?_) (fun hc => absurd hs hc) | refine XAlt.l ?_ | refine Sq.pr ?_ | refine Br.dec (fun hc => ?_) (fun hc => ?_) | refine Br.tt ?_ | refine Br.ff ?_ | refine Br.not ?_ | refine Br.mk (fun hc => ?_) (fun hc => ?_) | refine Opt.nn ?_ | refine Opt.ss ?_ | refine AltA.l ?_ | exact PV.leL_nil | refine PV.leL_cons ?_ ?_ | refine And.intro ?_ ?_ | refine ix_map (fun x hx => ?_) | refine exU8 ?_ | refine nilc (fun hn => ?_) ?_ | exact cl3 | refine imp0 (fun hpos => ?_) | refine fits_i64 ?_ ?_ | exact rfl | exact trivial | (first | refine stq ?_ | fail)))) <;> (try exact cl5)
              refine Wpc.loopB (α := Unit) mixed [0, 1, 2, 3, 4, 6, 7, 8, 50, 53, 55, 56, 57, 58, 67] (fun _ => [(57, .p (eI 0))]) (fun _ => 0) () ?_ ?_
              · (first | refine Ent.ofA [] ?_ | refine Ent.ofC [] ?_) <;> (repeat' (first | exact trivial | refine HpLe.dd ?_ | refine HpLe.mk rfl (by simp) rfl (fun h => AObj.noConfusion h) ?_ ?_ | refine And.intro ?_ ?_ | exact cl9 | refine VLe.pe ?_ | refine VLe.agg ?_ | refine VLe.tup ?_ | refine VLe.fn ?_ ?_ | refine VLeL.cons ?_ ?_ | exact VLeL.nil | exact OLe.row _ _ | rfl | refine VLe.rsle rfl ?_ ?_ ?_ | refine OLe.rowe2 ?_ ?_ | refine OLe.mape ?_ ?_ | refine OLe.iter0 ?_ | refine OLe.itere ?_ ?_ | refine OLe.chane ?_ ?_ | refine OLe.mapSe ?_ ?_ ?_ | exact OLe.mapS0 rfl)) <;> try (first | (simp; done) | (congr 1; omega) | (congr 1; (first | (simp; done) | (simp; omega))))
              intro _
              have hno : ¬ ((0 : Int) < ((([] : List Vl).map eV).length : Int)) := by simp
              repeat' (first | exact cl1 | ((with_reducible show Exists _); first | exact exHM _ | refine exU8 ?_) | ((fail_if_success refine stp ?_); (conv => whnf) <;> (first | exact cl2 | refine Br.dec (fun hc => absurd hc hno) (fun hc => ?_) | refine XAlt.l ?_ | refine Sq.pr ?_ | refine Br.dec (fun hc => ?_) (fun hc => ?_) | refine Br.tt ?_ | refine Br.ff ?_ | refine Br.not ?_ | refine Br.mk (fun hc => ?_) (fun hc => ?_) | refine Opt.nn ?_ | refine Opt.ss ?_ | refine AltA.l ?_ | exact PV.leL_nil | refine PV.leL_cons ?_ ?_ | refine And.intro ?_ ?_ | refine ix_map (fun x hx => ?_) | refine exU8 ?_ | refine nilc (fun hn => ?_) ?_ | exact cl3 | refine imp0 (fun hpos => ?_) | refine fits_i64 ?_ ?_ | exact rfl | exact trivial | (first | refine stq ?_ | fail)))) <;> (try exact cl5)
              all_goals trace_state
            · refine PCalls.of (N := 74) (res := [.tmp 2, .tmp 3]) mixed Try.func85 rfl rfl rfl (by kernel_rfl) (by simp) [0, 1, 2, 3, 4, 6, 7, 8, 50, 53, 55, 56, 57, 58, 67] ?_
              repeat' (first | exact cl1 | ((with_reducible show Exists _); first | exact exHM _ | refine exU8 ?_) | ((fail_if_success refine stp ?_); (conv => whnf) <;> (first | exact cl2 | refine ix_l rfl ?_ | refine Br.tt ?_ | refine Br.ff ?_ | refine Br.dec (fun hc => ?_) (fun hc => absurd hn hc) | refine Br.dec (fun hc => ?_) (fun hc => absurd hs hc) | refine Br.dec (fun hc => absurd hc he) (fun hc => ?_) | refine XAlt.l ?_ | refine Sq.pr ?_ | refine Br.dec (fun hc => ?_) (fun hc => ?_) | refine Br.tt ?_ | refine Br.ff ?_ | refine Br.not ?_ | refine Br.mk (fun hc => ?_) (fun hc => ?_) | refine Opt.nn ?_ | refine Opt.ss ?_ | refine AltA.l ?_ | exact PV.leL_nil | refine PV.leL_cons ?_ ?_ | refine And.intro ?_ ?_ | refine ix_map (fun x hx => ?_) | refine exU8 ?_ | refine nilc (fun hn => ?_) ?_ | exact cl3 | refine imp0 (fun hpos => ?_) | refine fits_i64 ?_ ?_ | exact rfl | exact trivial | (first | refine stq ?_ | fail)))) <;> (try exact cl5)
              refine Wpc.loopB (α := {i : Nat // i ≤ l.length ∧ (l.take i).all frm = true}) mixed [0, 1, 2, 3, 4, 6, 7, 8, 50, 53, 55, 56, 57, 58, 67] (fun i => [(2, .p (eI (deps (l.take i.1)))), (57, .p (eI i.1))]) (fun i => l.length - i.1) ⟨0, by omega, rfl⟩ ?_ ?_
              · (first | refine Ent.ofA [] ?_ | refine Ent.ofC [] ?_) <;> (repeat' (first | exact trivial | refine HpLe.dd ?_ | refine HpLe.mk rfl (by simp) rfl (fun h => AObj.noConfusion h) ?_ ?_ | refine And.intro ?_ ?_ | exact cl9 | refine VLe.pe ?_ | refine VLe.agg ?_ | refine VLe.tup ?_ | refine VLe.fn ?_ ?_ | refine VLeL.cons ?_ ?_ | exact VLeL.nil | exact OLe.row _ _ | rfl | refine VLe.rsle rfl ?_ ?_ ?_ | refine OLe.rowe2 ?_ ?_ | refine OLe.mape ?_ ?_ | refine OLe.iter0 ?_ | refine OLe.itere ?_ ?_ | refine OLe.chane ?_ ?_ | refine OLe.mapSe ?_ ?_ ?_ | exact OLe.mapS0 rfl)) <;> try (first | (simp; done) | (congr 1; omega) | (congr 1; (first | (simp; done) | (simp; omega))))
              rintro ⟨i, hi, hq⟩
              have hi : i ≤ l.length := hi
              have hq : (l.take i).all frm = true := hq
              cases hxi : l[i]? with
              | none =>
                have hge : l.length ≤ i := List.getElem?_eq_none_iff.1 hxi
                have hno : ¬ ((i : Int) < ((l.map eV).length : Int)) := by rw [List.length_map]; omega
                have hdt : deps (l.take i) = deps l := by rw [List.take_of_length_le hge]
                rw [List.take_of_length_le hge] at hq
                have hf : frm (.mk 3 n s l) = true := by rw [frm_list, decide_eq_true hn, decide_eq_true hs, hq]; rfl
                rw [fmR_yes hf, dep_list]
                repeat' (first | exact cl1 | ((with_reducible show Exists _); first | exact exHM _ | refine exU8 ?_) | ((fail_if_success refine stp ?_); (conv => whnf) <;> (first | exact cl2 | refine Br.dec (fun hc => absurd hc hno) (fun hc => ?_) | refine XAlt.l ?_ | refine Sq.pr ?_ | refine Br.dec (fun hc => ?_) (fun hc => ?_) | refine Br.tt ?_ | refine Br.ff ?_ | refine Br.not ?_ | refine Br.mk (fun hc => ?_) (fun hc => ?_) | refine Opt.nn ?_ | refine Opt.ss ?_ | refine AltA.l ?_ | exact PV.leL_nil | refine PV.leL_cons ?_ ?_ | refine And.intro ?_ ?_ | refine ix_map (fun x hx => ?_) | refine exU8 ?_ | refine nilc (fun hn => ?_) ?_ | exact cl3 | refine imp0 (fun hpos => ?_) | refine fits_i64 ?_ ?_ | exact rfl | exact trivial | (first | refine stq ?_ | fail)))) <;> (try exact cl5)
                refine LeG.of (congrArg (fun z => PV.tup [eI z, .bool true]) ?_)
                show ((deps (l.take i) : Nat) : Int) + 1 = ((deps l + 1 : Nat) : Int)
                rw [hdt]; omega
              | some x =>
                have hlt : i < l.length := (List.getElem?_eq_some_iff.1 hxi).1
                have hyes : ((i : Int) < ((l.map eV).length : Int)) := by rw [List.length_map]; omega
                have hxm := List.mem_of_getElem? hxi
                have hdx := dep_mem hxm
                have q1 := ih x hxm (lensL_mem hls hxm) (by omega)
                have hdt := deps_take hxi
                cases hf : frm x with
                | true =>
                  rw [fmR_yes hf] at q1
                  have hq2 : (l.take (i + 1)).all frm = true := by rw [List.take_add_one, hxi]; simp [hq, hf]
                  repeat' (first | exact cl1 | ((with_reducible show Exists _); first | exact exHM _ | refine exU8 ?_) | ((with_reducible show callX _ _ _ _ _); (first | refine call_p (q1) (by kernel_rfl) rfl ?_)) | ((fail_if_success refine stp ?_); (conv => whnf) <;> (first | exact cl2 | refine Br.tt ?_ | refine Br.ff ?_ | refine Br.dec (fun hc => ?_) (fun hc => absurd hyes hc) | refine ix_v hxi ?_ | refine XAlt.l ?_ | refine Sq.pr ?_ | refine Br.dec (fun hc => ?_) (fun hc => ?_) | refine Br.tt ?_ | refine Br.ff ?_ | refine Br.not ?_ | refine Br.mk (fun hc => ?_) (fun hc => ?_) | refine Opt.nn ?_ | refine Opt.ss ?_ | refine AltA.l ?_ | exact PV.leL_nil | refine PV.leL_cons ?_ ?_ | refine And.intro ?_ ?_ | refine ix_map (fun x hx => ?_) | refine exU8 ?_ | refine nilc (fun hn => ?_) ?_ | exact cl3 | refine imp0 (fun hpos => ?_) | refine fits_i64 ?_ ?_ | exact rfl | exact trivial | (first | refine stq ?_ | fail)))) <;> (try exact cl5)
                  refine ⟨⟨i + 1, hlt, hq2⟩, by show l.length - (i + 1) < l.length - i; omega, ?_⟩
                  (first | refine Ent.ofA [] ?_ | refine Ent.ofC [] ?_) <;> (repeat' (first | exact trivial | refine HpLe.dd ?_ | refine HpLe.mk rfl (by simp) rfl (fun h => AObj.noConfusion h) ?_ ?_ | refine And.intro ?_ ?_ | exact cl9 | refine VLe.pe ?_ | refine VLe.agg ?_ | refine VLe.tup ?_ | refine VLe.fn ?_ ?_ | refine VLeL.cons ?_ ?_ | exact VLeL.nil | exact OLe.row _ _ | rfl | refine VLe.rsle rfl ?_ ?_ ?_ | refine OLe.rowe2 ?_ ?_ | refine OLe.mape ?_ ?_ | refine OLe.iter0 ?_ | refine OLe.itere ?_ ?_ | refine OLe.chane ?_ ?_ | refine OLe.mapSe ?_ ?_ ?_ | exact OLe.mapS0 rfl)) <;> try (first | (simp; done) | (congr 1; omega) | (congr 1; (first | (simp; done) | (simp; omega))))
                  all_goals (refine congrArg eI ?_)
                  all_goals (show _ = ((deps (l.take (i + 1)) : Nat) : Int))
                  all_goals (rw [hdt])
                  all_goals trace_state
                | false =>
                  rw [fmR_no hf] at q1
                  have hq2 : l.all frm = false := by
                    rw [List.all_eq_false]; exact ⟨x, hxm, by rw [hf]; simp⟩
                  have hf2 : frm (.mk 3 n s l) = false := by rw [frm_list, hq2]; simp
                  rw [fmR_no hf2]
                  repeat' (first | exact cl1 | ((with_reducible show Exists _); first | exact exHM _ | refine exU8 ?_) | ((with_reducible show callX _ _ _ _ _); (first | refine call_p (q1) (by kernel_rfl) rfl ?_)) | ((fail_if_success refine stp ?_); (conv => whnf) <;> (first | exact cl2 | refine Br.tt ?_ | refine Br.ff ?_ | refine Br.dec (fun hc => ?_) (fun hc => absurd hyes hc) | refine ix_v hxi ?_ | refine XAlt.l ?_ | refine Sq.pr ?_ | refine Br.dec (fun hc => ?_) (fun hc => ?_) | refine Br.tt ?_ | refine Br.ff ?_ | refine Br.not ?_ | refine Br.mk (fun hc => ?_) (fun hc => ?_) | refine Opt.nn ?_ | refine Opt.ss ?_ | refine AltA.l ?_ | exact PV.leL_nil | refine PV.leL_cons ?_ ?_ | refine And.intro ?_ ?_ | refine ix_map (fun x hx => ?_) | refine exU8 ?_ | refine nilc (fun hn => ?_) ?_ | exact cl3 | refine imp0 (fun hpos => ?_) | refine fits_i64 ?_ ?_ | exact rfl | exact trivial | (first | refine stq ?_ | fail)))) <;> (try exact cl5)
          · have hf : frm (.mk 3 n s l) = false := by rw [frm_list, decide_eq_false hs]; simp
            rw [fmR_no hf]
            refine PCalls.of (N := 74) (res := [.tmp 2, .tmp 3]) mixed Try.func85 rfl rfl rfl (by kernel_rfl) (by simp) [0, 1, 2, 3, 4, 6, 7, 8, 50, 53, 55, 56, 57, 58, 67] ?_
            repeat' (first | exact cl1 | ((with_reducible show Exists _); first | exact exHM _ | refine exU8 ?_) | ((fail_if_success refine stp ?_); (conv => whnf) <;> (first | exact cl2 | refine ix_l rfl ?_ | refine Br.tt ?_ | refine Br.ff ?_ | refine Br.dec (fun hc => ?_) (fun hc => absurd hn hc) | refine Br.dec (fun hc => absurd hc hs) (fun hc => ?_) | refine XAlt.l ?_ | refine Sq.pr ?_ | refine Br.dec (fun hc => ?_) (fun hc => ?_) | refine Br.tt ?_ | refine Br.ff ?_ | refine Br.not ?_ | refine Br.mk (fun hc => ?_) (fun hc => ?_) | refine Opt.nn ?_ | refine Opt.ss ?_ | refine AltA.l ?_ | exact PV.leL_nil | refine PV.leL_cons ?_ ?_ | refine And.intro ?_ ?_ | refine ix_map (fun x hx => ?_) | refine exU8 ?_ | refine nilc (fun hn => ?_) ?_ | exact cl3 | refine imp0 (fun hpos => ?_) | refine fits_i64 ?_ ?_ | exact rfl | exact trivial | (first | refine stq ?_ | fail)))) <;> (try exact cl5)
        · have hf : frm (.mk 3 n s l) = false := by rw [frm_list, decide_eq_false hn]; rfl
          rw [fmR_no hf]
          refine PCalls.of (N := 74) (res := [.tmp 2, .tmp 3]) mixed Try.func85 rfl rfl rfl (by kernel_rfl) (by simp) [0, 1, 2, 3, 4, 6, 7, 8, 50, 53, 55, 56, 57, 58, 67] ?_
          repeat' (first | exact cl1 | ((with_reducible show Exists _); first | exact exHM _ | refine exU8 ?_) | ((fail_if_success refine stp ?_); (conv => whnf) <;> (first | exact cl2 | refine ix_l rfl ?_ | refine Br.tt ?_ | refine Br.ff ?_ | refine Br.dec (fun hc => absurd hc hn) (fun hc => ?_) | refine XAlt.l ?_ | refine Sq.pr ?_ | refine Br.dec (fun hc => ?_) (fun hc => ?_) | refine Br.tt ?_ | refine Br.ff ?_ | refine Br.not ?_ | refine Br.mk (fun hc => ?_) (fun hc => ?_) | refine Opt.nn ?_ | refine Opt.ss ?_ | refine AltA.l ?_ | exact PV.leL_nil | refine PV.leL_cons ?_ ?_ | refine And.intro ?_ ?_ | refine ix_map (fun x hx => ?_) | refine exU8 ?_ | refine nilc (fun hn => ?_) ?_ | exact cl3 | refine imp0 (fun hpos => ?_) | refine fits_i64 ?_ ?_ | exact rfl | exact trivial | (first | refine stq ?_ | fail)))) <;> (try exact cl5)
      · rw [fmR_no (frm_other h1 h2 h3)]
        by_cases hk1 : k < 1
        · refine PCalls.of (N := 74) (res := [.tmp 2, .tmp 3]) mixed Try.func85 rfl rfl rfl (by kernel_rfl) (by simp) [0, 1, 2, 3, 4, 6, 7, 8, 50, 53, 55, 56, 57, 58, 67] ?_
          repeat' (first | exact cl1 | ((with_reducible show Exists _); first | exact exHM _ | refine exU8 ?_) | ((fail_if_success refine stp ?_); (conv => whnf) <;> (first | exact cl2 | refine ix_l rfl ?_ | refine Br.tt ?_ | refine Br.ff ?_ | refine Br.dec (fun hc => ?_) (fun hc => absurd hk1 hc) | refine XAlt.l ?_ | refine Sq.pr ?_ | refine Br.dec (fun hc => ?_) (fun hc => ?_) | refine Br.tt ?_ | refine Br.ff ?_ | refine Br.not ?_ | refine Br.mk (fun hc => ?_) (fun hc => ?_) | refine Opt.nn ?_ | refine Opt.ss ?_ | refine AltA.l ?_ | exact PV.leL_nil | refine PV.leL_cons ?_ ?_ | refine And.intro ?_ ?_ | refine ix_map (fun x hx => ?_) | refine exU8 ?_ | refine nilc (fun hn => ?_) ?_ | exact cl3 | refine imp0 (fun hpos => ?_) | refine fits_i64 ?_ ?_ | exact rfl | exact trivial | (first | refine stq ?_ | fail)))) <;> (try exact cl5)
        · have hk2 : k > 3 := by omega
          refine PCalls.of (N := 74) (res := [.tmp 2, .tmp 3]) mixed Try.func85 rfl rfl rfl (by kernel_rfl) (by simp) [0, 1, 2, 3, 4, 6, 7, 8, 50, 53, 55, 56, 57, 58, 67] ?_
          repeat' (first | exact cl1 | ((with_reducible show Exists _); first | exact exHM _ | refine exU8 ?_) | ((fail_if_success refine stp ?_); (conv => whnf) <;> (first | exact cl2 | refine ix_l rfl ?_ | refine Br.tt ?_ | refine Br.ff ?_ | refine Br.dec (fun hc => absurd hc hk1) (fun hc => ?_) | refine Br.dec (fun hc => ?_) (fun hc => absurd hk2 hc) | refine XAlt.l ?_ | refine Sq.pr ?_ | refine Br.dec (fun hc => ?_) (fun hc => ?_) | refine Br.tt ?_ | refine Br.ff ?_ | refine Br.not ?_ | refine Br.mk (fun hc => ?_) (fun hc => ?_) | refine Opt.nn ?_ | refine Opt.ss ?_ | refine AltA.l ?_ | exact PV.leL_nil | refine PV.leL_cons ?_ ?_ | refine And.intro ?_ ?_ | refine ix_map (fun x hx => ?_) | refine exU8 ?_ | refine nilc (fun hn => ?_) ?_ | exact cl3 | refine imp0 (fun hpos => ?_) | refine fits_i64 ?_ ?_ | exact rfl | exact trivial | (first | refine stq ?_ | fail)))) <;> (try exact cl5)
end Go.Proofs.Ytgclicahmbgfiaa.Cd

namespace Go.Proofs.Ytgclicahmbgfiaa.Cd
open Go Go.Sg
set_option maxRecDepth 100000
set_option maxHeartbeats 20000000
theorem ix_at {α : Type} {f : α → PV} {l : List α} {n : Nat} {x : α} {K : PV → Prop} (hx : l[n]? = some x) (k : K (f x)) : ∀ p, (l.map f)[n]? = some p → K p := fun p hp => by
  rw [List.getElem?_map, hx] at hp; injection hp with hp; subst hp; exact k
def eB (b : List Int) : PV := .sl 1 false (b.map (.int .u8))
def eU (u : Nat) : PV := .int .u64 (u : Int)
def zz (n : Int) : Nat := if 0 ≤ n then (2 * n).toNat else (-2 * n - 1).toNat
def nz (u : Nat) : Int := if u % 2 = 0 then ((u / 2 : Nat) : Int) else -((u / 2 : Nat) : Int) - 1
theorem nz_zz (n : Int) : nz (zz n) = n := by unfold nz zz; split <;> split <;> omega
def I64 (n : Int) : Prop := -9223372036854775808 ≤ n ∧ n ≤ 9223372036854775807
theorem zz_lt {n : Int} (h : I64 n) : zz n < 18446744073709551616 := by unfold I64 at h; unfold zz; split <;> omega
theorem fdiv63 {n : Int} (h1 : -9223372036854775808 ≤ n) (h2 : n ≤ 9223372036854775807) : n.fdiv (2 ^ 63) = if 0 ≤ n then 0 else -1 := by
  rw [Int.fdiv_eq_ediv_of_nonneg _ (by omega)]
  split <;> omega
theorem zz_bits {n : Int} (h1 : -9223372036854775808 ≤ n) (h2 : n ≤ 9223372036854775807) : bitsI .xor .u64 (IntKind.u64.wrap (IntKind.u64.wrap n * 2 ^ 1)) (IntKind.u64.wrap (n.fdiv (2 ^ 63))) = ((zz n : Nat) : Int) := by
  rw [fdiv63 h1 h2]
  by_cases hn : 0 ≤ n
  · rw [if_pos hn]
    have e1 : IntKind.u64.wrap (IntKind.u64.wrap n * 2 ^ 1) = (((2 * n).toNat : Nat) : Int) := by rw [wrap_u64, wrap_u64]; omega
    have e2 : IntKind.u64.wrap 0 = ((0 : Nat) : Int) := by decide
    rw [e1, e2, bits_xor rfl (by show _ < 18446744073709551616; omega) (by decide), Nat.xor_zero]
    unfold zz; rw [if_pos hn]
  · rw [if_neg hn]
    have e1 : IntKind.u64.wrap (IntKind.u64.wrap n * 2 ^ 1) = (((2 * n + 18446744073709551616).toNat : Nat) : Int) := by rw [wrap_u64, wrap_u64]; omega
    have e2 : IntKind.u64.wrap (-1) = ((2 ^ 64 - 1 : Nat) : Int) := by decide
    rw [e1, e2, bits_xor rfl (by show _ < 18446744073709551616; omega) (by decide), xor_ones (by show _ < 18446744073709551616; omega)]
    unfold zz; rw [if_neg hn]; omega
theorem unsigned_calls (n : Int) (h : I64 n) : PCalls Try.prog 88 [eI n] (eU (zz n)) := by
  obtain ⟨h1, h2⟩ := h
  refine PCalls.of (N := 10) (res := [.tmp 2]) mixed Try.func88 rfl rfl rfl (by kernel_rfl) (by simp) [0, 2] ?_
  repeat' (first | exact cl1 | ((with_reducible show Exists _); first | exact exHM _ | refine exU8 ?_) | ((fail_if_success refine stp ?_); (conv => whnf) <;> (first | exact cl2 | refine XAlt.l ?_ | refine Sq.pr ?_ | refine Br.dec (fun hc => ?_) (fun hc => ?_) | refine Br.tt ?_ | refine Br.ff ?_ | refine Br.not ?_ | refine Br.mk (fun hc => ?_) (fun hc => ?_) | refine Opt.nn ?_ | refine Opt.ss ?_ | refine AltA.l ?_ | exact PV.leL_nil | refine PV.leL_cons ?_ ?_ | refine And.intro ?_ ?_ | refine ix_map (fun x hx => ?_) | refine exU8 ?_ | refine nilc (fun hn => ?_) ?_ | exact cl3 | refine imp0 (fun hpos => ?_) | refine fits_i64 ?_ ?_ | exact rfl | exact trivial | (first | refine stq ?_ | fail)))) <;> (try exact cl5)
  exact LeG.of (congrArg (PV.int .u64) (zz_bits h1 h2))
theorem and1 {u : Nat} (h : u < 18446744073709551616) : IntKind.i64.wrap (bitsI .and .u64 (u : Int) 1) = ((u % 2 : Nat) : Int) := by
  have e : bitsI .and .u64 (u : Int) ((1 : Nat) : Int) = ((u &&& 1 : Nat) : Int) := bits_and rfl h (by decide)
  rw [show ((1 : Int)) = ((1 : Nat) : Int) from rfl, e, Nat.and_one_is_mod, wrap_i64 (by omega) (by omega)]
theorem signed_calls (u : Nat) (h : u < 18446744073709551616) : PCalls Try.prog 80 [eU u] (eI (nz u)) := by
  have ha := and1 h
  have hd : IntKind.i64.wrap ((u : Int).fdiv (2 ^ 1)) = ((u / 2 : Nat) : Int) := by
    rw [Int.fdiv_eq_ediv_of_nonneg _ (by omega), wrap_i64 (by omega) (by omega)]; omega
  refine PCalls.of (N := 11) (res := [.tmp 2]) mixed Try.func80 rfl rfl rfl (by kernel_rfl) (by simp) [0, 2] ?_
  repeat' (first | exact cl1 | ((with_reducible show Exists _); first | exact exHM _ | refine exU8 ?_) | ((fail_if_success refine stp ?_); (conv => whnf) <;> (first | exact cl2 | refine XAlt.l ?_ | refine Sq.pr ?_ | refine Br.dec (fun hc => ?_) (fun hc => ?_) | refine Br.tt ?_ | refine Br.ff ?_ | refine Br.not ?_ | refine Br.mk (fun hc => ?_) (fun hc => ?_) | refine Opt.nn ?_ | refine Opt.ss ?_ | refine AltA.l ?_ | exact PV.leL_nil | refine PV.leL_cons ?_ ?_ | refine And.intro ?_ ?_ | refine ix_map (fun x hx => ?_) | refine exU8 ?_ | refine nilc (fun hn => ?_) ?_ | exact cl3 | refine imp0 (fun hpos => ?_) | refine fits_i64 ?_ ?_ | exact rfl | exact trivial | (first | refine stq ?_ | fail)))) <;> (try exact cl5)
  · refine LeG.of (congrArg (PV.int .i64) ?_)
    show bitsI .xor .i64 (IntKind.i64.wrap ((u : Int).fdiv (2 ^ 1))) (0 - IntKind.i64.wrap (bitsI .and .u64 (u : Int) 1)) = nz u
    rw [ha, hd]
    unfold nz
    rcases Nat.mod_two_eq_zero_or_one u with e | e
    · rw [e, if_pos rfl]; exact xor_i64_zero (by omega) (by omega)
    · rw [e, if_neg (by decide)]; exact xor_i64_neg (by omega) (by omega)
end Go.Proofs.Ytgclicahmbgfiaa.Cd

namespace Go.Proofs.Ytgclicahmbgfiaa.Cd
open Go Go.Sg
set_option maxRecDepth 100000
set_option maxHeartbeats 20000000
def errC : PV := .iface 31 (eI 10)
theorem want_yes (x : PV) : ICalls Try.prog 60 1 [(0, .cells [.p x])] [.ptr 0 0, .p (.bool true)] (.tup []) [(0, .cells [.p x])] := by
  refine ICalls.of (N := 7) (res := []) mixed Try.func60 rfl rfl rfl (by kernel_rfl) (by simp) [1, 5] (Nat.le_refl _) ?_
  repeat' (first | exact cl1 | ((with_reducible show Exists _); first | exact exHM _ | refine exU8 ?_) | ((fail_if_success refine stp ?_); (conv => whnf) <;> (first | exact cl2 | refine XAlt.l ?_ | refine Sq.pr ?_ | refine Br.dec (fun hc => ?_) (fun hc => ?_) | refine Br.tt ?_ | refine Br.ff ?_ | refine Br.not ?_ | refine Br.mk (fun hc => ?_) (fun hc => ?_) | refine Opt.nn ?_ | refine Opt.ss ?_ | refine AltA.l ?_ | exact PV.leL_nil | refine PV.leL_cons ?_ ?_ | refine And.intro ?_ ?_ | refine ix_map (fun x hx => ?_) | refine exU8 ?_ | refine nilc (fun hn => ?_) ?_ | exact cl3 | refine imp0 (fun hpos => ?_) | refine fits_i64 ?_ ?_ | exact rfl | exact trivial | (first | refine stq ?_ | fail)))) <;> (try exact cl5)
  refine ⟨[], [(0, 0)], ?_, ?_, by decide, by simp, fun i hi => by match i, hi with | 0, _ => rfl⟩ <;> (repeat' (first | exact trivial | refine HpLe.dd ?_ | refine HpLe.mk rfl (by simp) rfl (fun h => AObj.noConfusion h) ?_ ?_ | refine And.intro ?_ ?_ | exact cl9 | refine VLe.pe ?_ | refine VLe.agg ?_ | refine VLe.tup ?_ | refine VLe.fn ?_ ?_ | refine VLeL.cons ?_ ?_ | exact VLeL.nil | exact OLe.row _ _ | rfl | refine VLe.rsle rfl ?_ ?_ ?_ | refine OLe.rowe2 ?_ ?_ | refine OLe.mape ?_ ?_ | refine OLe.iter0 ?_ | refine OLe.itere ?_ ?_ | refine OLe.chane ?_ ?_ | refine OLe.mapSe ?_ ?_ ?_ | exact OLe.mapS0 rfl))
theorem want_no (x : PV) : XCalls Try.prog 60 1 [(0, .cells [.p x])] [.ptr 0 0, .p (.bool false)] errC := by
  refine XCalls.of (N := 7) (res := []) mixed Try.func60 rfl rfl rfl (by kernel_rfl) (by simp) [1, 5] (Nat.le_refl _) (by first | rfl | kernel_rfl) ?_
  repeat' (first | exact cl1 | ((with_reducible show Exists _); first | exact exHM _ | refine exU8 ?_) | ((fail_if_success refine stp ?_); (conv => whnf) <;> (first | exact cl2 | refine XAlt.l ?_ | refine Sq.pr ?_ | refine Br.dec (fun hc => ?_) (fun hc => ?_) | refine Br.tt ?_ | refine Br.ff ?_ | refine Br.not ?_ | refine Br.mk (fun hc => ?_) (fun hc => ?_) | refine Opt.nn ?_ | refine Opt.ss ?_ | refine AltA.l ?_ | exact PV.leL_nil | refine PV.leL_cons ?_ ?_ | refine And.intro ?_ ?_ | refine ix_map (fun x hx => ?_) | refine exU8 ?_ | refine nilc (fun hn => ?_) ?_ | exact cl3 | refine imp0 (fun hpos => ?_) | refine fits_i64 ?_ ?_ | exact rfl | exact trivial | (first | refine stq ?_ | fail)))) <;> (try exact cl5)
def eR (b : List Int) : PV := .sl 1 false (b.map (.int .u8))
theorem take_yes (b : List Int) (n : Nat) (hn : n ≤ b.length) (hb : b.length < 1000000) : ICalls Try.prog 79 1 [(0, .cells [.p (eR b)])] [.ptr 0 0, .p (eI n)] (.p (.sl 1 true ((b.take n).map (.int .u8)))) [(0, .cells [.p (eR (b.drop n))])] := by
  have hyes : ((n : Int) ≤ ((b.map (PV.int .u8)).length : Int)) := by rw [List.length_map]; omega
  have q1 := want_yes (eR b)
  rw [← decide_eq_true hyes] at q1
  refine ICalls.of (N := 32) (res := [.tmp 4]) mixed Try.func79 rfl rfl rfl (by kernel_rfl) (by simp) [0, 1, 4, 5] (Nat.le_refl _) ?_
  repeat' (first | exact cl1 | ((with_reducible show Exists _); first | exact exHM _ | refine exU8 ?_) | ((with_reducible show callX _ _ _ _ _); (first | refine call_i [0] (q1) (by kernel_rfl) rfl rfl (by decide) cl6 (fun i hi => by match i, hi with | 0, _ => rfl) cl7 cl8 (by simp [keys]) ?_)) | ((fail_if_success refine stp ?_); (conv => whnf) <;> (first | exact cl2 | refine XAlt.l ?_ | refine Sq.pr ?_ | refine Br.dec (fun hc => ?_) (fun hc => ?_) | refine Br.tt ?_ | refine Br.ff ?_ | refine Br.not ?_ | refine Br.mk (fun hc => ?_) (fun hc => ?_) | refine Opt.nn ?_ | refine Opt.ss ?_ | refine AltA.l ?_ | exact PV.leL_nil | refine PV.leL_cons ?_ ?_ | refine And.intro ?_ ?_ | refine ix_map (fun x hx => ?_) | refine exU8 ?_ | refine nilc (fun hn => ?_) ?_ | exact cl3 | refine imp0 (fun hpos => ?_) | refine fits_i64 ?_ ?_ | exact rfl | exact trivial | (first | refine stq ?_ | fail)))) <;> (try exact cl5)
  refine ⟨[], [(0, 0)], ?_, ?_, by decide, by simp, fun i hi => by match i, hi with | 0, _ => rfl⟩ <;> (repeat' (first | exact trivial | refine HpLe.dd ?_ | refine HpLe.mk rfl (by simp) rfl (fun h => AObj.noConfusion h) ?_ ?_ | refine And.intro ?_ ?_ | exact cl9 | refine VLe.pe ?_ | refine VLe.agg ?_ | refine VLe.tup ?_ | refine VLe.fn ?_ ?_ | refine VLeL.cons ?_ ?_ | exact VLeL.nil | exact OLe.row _ _ | rfl | refine VLe.rsle rfl ?_ ?_ ?_ | refine OLe.rowe2 ?_ ?_ | refine OLe.mape ?_ ?_ | refine OLe.iter0 ?_ | refine OLe.itere ?_ ?_ | refine OLe.chane ?_ ?_ | refine OLe.mapSe ?_ ?_ ?_ | exact OLe.mapS0 rfl))
  · simp
  · show PV.sl 1 false _ = PV.sl 1 false _
    congr 1
    rw [Int.toNat_natCast, Int.toNat_natCast, List.take_of_length_le (Nat.le_refl _), List.map_drop]
theorem take_no (b : List Int) (n : Nat) (hn : b.length < n) (hb : b.length < 1000000) : XCalls Try.prog 79 1 [(0, .cells [.p (eR b)])] [.ptr 0 0, .p (eI n)] errC := by
  have hno : ¬ ((n : Int) ≤ ((b.map (PV.int .u8)).length : Int)) := by rw [List.length_map]; omega
  have q1 := want_no (eR b)
  rw [← decide_eq_false hno] at q1
  refine XCalls.of (N := 32) (res := [.tmp 4]) mixed Try.func79 rfl rfl rfl (by kernel_rfl) (by simp) [0, 1, 4, 5] (Nat.le_refl _) (by first | rfl | kernel_rfl) ?_
  repeat' (first | exact cl1 | ((with_reducible show Exists _); first | exact exHM _ | refine exU8 ?_) | ((fail_if_success refine stp ?_); (conv => whnf) <;> (first | exact cl2 | (refine XAlt.r ?_; (conv => whnf); refine call_x [0] (q1) (by kernel_rfl) rfl rfl (by decide) cl6 (fun i hi => by match i, hi with | 0, _ => rfl) cl7 ?_) | refine XAlt.l ?_ | refine Sq.pr ?_ | refine Br.dec (fun hc => ?_) (fun hc => ?_) | refine Br.tt ?_ | refine Br.ff ?_ | refine Br.not ?_ | refine Br.mk (fun hc => ?_) (fun hc => ?_) | refine Opt.nn ?_ | refine Opt.ss ?_ | refine AltA.l ?_ | exact PV.leL_nil | refine PV.leL_cons ?_ ?_ | refine And.intro ?_ ?_ | refine ix_map (fun x hx => ?_) | refine exU8 ?_ | refine nilc (fun hn => ?_) ?_ | exact cl3 | refine imp0 (fun hpos => ?_) | refine fits_i64 ?_ ?_ | exact rfl | exact trivial | (first | refine stq ?_ | fail)))) <;> (try exact cl5)
end Go.Proofs.Ytgclicahmbgfiaa.Cd

namespace Go.Proofs.Ytgclicahmbgfiaa.Cd
open Go Go.Sg
set_option maxRecDepth 100000
set_option maxHeartbeats 20000000
def B8 (b : List Int) : Prop := ∀ c ∈ b, 0 ≤ c ∧ c ≤ 255
def nOk (i : Nat) (c : Int) : Bool := (decide (i = 0) || decide (c ≠ 0)) && (decide (i < 9) || decide (c ≤ 1))
def nAdd (i u : Nat) (c : Int) : Nat := u + (c % 128).toNat * 2 ^ (7 * i)
/-- A numeral that is read: the number, and the rest. -/
def numD : List Int → Nat → Nat → Option (Nat × List Int)
  | [], _, _ => none
  | c :: r, i, u => if nOk i c then (if c < 128 then some (nAdd i u c, r) else numD r (i + 1) (nAdd i u c)) else none
theorem nAdd_lt {i u : Nat} {c : Int} (hi : i < 9) (hu : u < 2 ^ (7 * i)) (h0 : 0 ≤ c) : nAdd i u c < 2 ^ (7 * (i + 1)) := by
  unfold nAdd
  have h1 : (c % 128).toNat ≤ 127 := by omega
  have h2 : (c % 128).toNat * 2 ^ (7 * i) ≤ 127 * 2 ^ (7 * i) := Nat.mul_le_mul_right _ h1
  have h3 : 2 ^ (7 * (i + 1)) = 128 * 2 ^ (7 * i) := by rw [show 7 * (i + 1) = 7 * i + 7 by omega, Nat.pow_add]; omega
  omega
theorem nAdd_64 {i u : Nat} {c : Int} (hi : i ≤ 9) (hu : u < 2 ^ (7 * i)) (h0 : 0 ≤ c) (h1 : i < 9 ∨ c ≤ 1) : nAdd i u c < 18446744073709551616 := by
  rcases Nat.lt_or_ge i 9 with h | h
  · have := nAdd_lt h hu h0
    have h2 : 2 ^ (7 * (i + 1)) ≤ 2 ^ 63 := Nat.pow_le_pow_right (by decide) (by omega)
    omega
  · have : i = 9 := by omega
    subst this
    have hc : c ≤ 1 := by omega
    unfold nAdd
    have h1 : (c % 128).toNat ≤ 1 := by omega
    have h2 : (c % 128).toNat * 2 ^ (7 * 9) ≤ 1 * 2 ^ (7 * 9) := Nat.mul_le_mul_right _ h1
    omega
theorem nAdd_bits {i u : Nat} {c : Int} (hi : i ≤ 9) (hu : u < 2 ^ (7 * i)) (h0 : 0 ≤ c) (hc : c ≤ 255) (h1 : i < 9 ∨ c ≤ 1) :
    bitsI .or .u64 (u : Int) (IntKind.u64.wrap (IntKind.u64.wrap (bitsI .and .u8 c 127) * 2 ^ min (7 * (i : Int)).toNat IntKind.u64.bits)) = ((nAdd i u c : Nat) : Int) := by
  have h2 := nAdd_64 hi hu h0 h1
  obtain ⟨n, rfl⟩ : ∃ n : Nat, c = n := ⟨c.toNat, by omega⟩
  have e1 : bitsI .and .u8 (n : Int) 127 = ((n % 128 : Nat) : Int) := by
    have := bits_and (k := .u8) (a := n) (b := 127) rfl (by show n < 256; omega) (by decide)
    rw [show ((127 : Int)) = ((127 : Nat) : Int) from rfl, this]
    congr 1
    exact Nat.and_two_pow_sub_one_eq_mod n 7
  have e2 : ((n : Int) % 128).toNat = n % 128 := by omega
  unfold nAdd at h2 ⊢
  rw [e2] at h2 ⊢
  have e3 : IntKind.u64.wrap ((n % 128 : Nat) : Int) = ((n % 128 : Nat) : Int) := wrap_nat rfl (by show n % 128 < 18446744073709551616; omega)
  have e4 : min (7 * (i : Int)).toNat IntKind.u64.bits = 7 * i := by
    show min (7 * (i : Int)).toNat 64 = 7 * i
    omega
  rw [e1, e3, e4]
  have e5 : ((n % 128 : Nat) : Int) * 2 ^ (7 * i) = ((n % 128 * 2 ^ (7 * i) : Nat) : Int) := by push_cast; rfl
  have e6 : n % 128 * 2 ^ (7 * i) < 2 ^ IntKind.u64.bits := by show _ < 18446744073709551616; omega
  rw [e5, wrap_nat rfl e6, bits_or rfl (by show _ < 18446744073709551616; omega) e6, or_shift hu]
end Go.Proofs.Ytgclicahmbgfiaa.Cd

namespace Go.Proofs.Ytgclicahmbgfiaa.Cd
open Go Go.Sg
set_option maxRecDepth 100000
set_option maxHeartbeats 20000000
theorem number_yes (b0 : List Int) (hb0 : b0.length < 1000000) (hB0 : B8 b0) (v : Nat) (r : List Int) (h0 : numD b0 0 0 = some (v, r)) : ICalls Try.prog 81 1 [(0, .cells [.p (eR b0)])] [.ptr 0 0] (.p (eU v)) [(0, .cells [.p (eR r)])] := by
  refine ICalls.of (N := 38) (res := [.tmp 2]) mixed Try.func81 rfl rfl rfl (by kernel_rfl) (by simp) [0, 2, 3, 4, 36] (Nat.le_refl _) ?_
  repeat' (first | exact cl1 | ((with_reducible show Exists _); first | exact exHM _ | refine exU8 ?_) | ((fail_if_success refine stp ?_); (conv => whnf) <;> (first | exact cl2 | refine XAlt.l ?_ | refine Sq.pr ?_ | refine Br.dec (fun hc => ?_) (fun hc => ?_) | refine Br.tt ?_ | refine Br.ff ?_ | refine Br.not ?_ | refine Br.mk (fun hc => ?_) (fun hc => ?_) | refine Opt.nn ?_ | refine Opt.ss ?_ | refine AltA.l ?_ | exact PV.leL_nil | refine PV.leL_cons ?_ ?_ | refine And.intro ?_ ?_ | refine ix_map (fun x hx => ?_) | refine exU8 ?_ | refine nilc (fun hn => ?_) ?_ | exact cl3 | refine imp0 (fun hpos => ?_) | refine fits_i64 ?_ ?_ | exact rfl | exact trivial | (first | refine stq ?_ | fail)))) <;> (try exact cl5)
  refine Wpc.loopA (α := {s : Nat × Nat × List Int // s.1 ≤ 9 ∧ s.2.1 < 2 ^ (7 * s.1) ∧ s.2.2.length < 1000000 ∧ B8 s.2.2 ∧ numD s.2.2 s.1 s.2.1 = some (v, r)}) mixed [0, 2, 3, 4, 36] (fun s => [(2, .p (eU s.1.2.1)), (3, .p (eI s.1.1))]) (fun s => [(0, .cells [.p (eR s.1.2.2)])]) (fun _ => 0) (fun s => s.1.2.2.length) ⟨(0, 0, b0), Nat.zero_le 9, Nat.one_pos, hb0, hB0, h0⟩ ?_ ?_
  · (first | refine Ent.ofA [] ?_ | refine Ent.ofC [] ?_) <;> (repeat' (first | exact trivial | refine HpLe.dd ?_ | refine HpLe.mk rfl (by simp) rfl (fun h => AObj.noConfusion h) ?_ ?_ | refine And.intro ?_ ?_ | exact cl9 | refine VLe.pe ?_ | refine VLe.agg ?_ | refine VLe.tup ?_ | refine VLe.fn ?_ ?_ | refine VLeL.cons ?_ ?_ | exact VLeL.nil | exact OLe.row _ _ | rfl | refine VLe.rsle rfl ?_ ?_ ?_ | refine OLe.rowe2 ?_ ?_ | refine OLe.mape ?_ ?_ | refine OLe.iter0 ?_ | refine OLe.itere ?_ ?_ | refine OLe.chane ?_ ?_ | refine OLe.mapSe ?_ ?_ ?_ | exact OLe.mapS0 rfl)) <;> try (first | (simp; done) | (congr 1; omega) | (congr 1; (first | (simp; done) | (simp; omega))))
  rintro ⟨⟨i, u, b⟩, hi, hu, hb, hB, hq⟩
  have hi : i ≤ 9 := hi
  have hu : u < 2 ^ (7 * i) := hu
  have hb : b.length < 1000000 := hb
  have hB : B8 b := hB
  have hq : numD b i u = some (v, r) := hq
  cases b with
  | nil => cases hq
  | cons c b =>
    have q1 := take_yes (c :: b) 1 (by simp) hb
    obtain ⟨hc0, hc1⟩ := hB c (by simp)
    have hok : nOk i c = true := by
      cases h : nOk i c with
      | true => rfl
      | false => unfold numD at hq; rw [h] at hq; cases hq
    unfold numD at hq
    rw [if_pos hok] at hq
    have hk : (i < 9 ∨ c ≤ 1) := by unfold nOk at hok; simp at hok; omega
    have hk2 : (i = 0 ∨ ¬ c = 0) := by unfold nOk at hok; simp at hok; omega
    have hbits := nAdd_bits hi hu hc0 hc1 hk
    have h64 := nAdd_64 hi hu hc0 hk
    have hsm : ∀ n : Nat, n < 18446744073709551616 → n < 2 ^ 64 := fun n h => h
    have hix : (List.take 1 (c :: b))[Int.toNat 0]? = some c := rfl
    have w1 := want_yes (eR b)
    by_cases h128 : c < 128
    · rw [if_pos h128] at hq
      injection hq with hq; injection hq with e1 e2; subst e2
      have hbits : _ = ((v : Nat) : Int) := hbits.trans (congrArg (fun n : Nat => (n : Int)) e1)
      by_cases hc9 : c ≤ 1
      · have w2 := w1
        rw [← decide_eq_true hc9] at w2
        repeat' (first | exact cl1 | ((with_reducible show Exists _); first | exact exHM _ | refine exU8 ?_) | ((with_reducible show callX _ _ _ _ _); (first | refine call_i [0] (q1) (by kernel_rfl) rfl rfl (by decide) cl6 (fun i hi => by match i, hi with | 0, _ => rfl) cl7 cl8 (by simp [keys]) ?_ | refine call_i [0] (w1) (by kernel_rfl) rfl rfl (by decide) cl6 (fun i hi => by match i, hi with | 0, _ => rfl) cl7 cl8 (by simp [keys]) ?_ | refine call_i [0] (w2) (by kernel_rfl) rfl rfl (by decide) cl6 (fun i hi => by match i, hi with | 0, _ => rfl) cl7 cl8 (by simp [keys]) ?_)) | ((fail_if_success refine stp ?_); (conv => whnf) <;> (first | exact cl2 | refine ix_at hix ?_ | refine Br.dec (fun hc => ?_) (fun hc => absurd h128 hc) | refine XAlt.l ?_ | refine Sq.pr ?_ | refine Br.dec (fun hc => ?_) (fun hc => ?_) | refine Br.tt ?_ | refine Br.ff ?_ | refine Br.not ?_ | refine Br.mk (fun hc => ?_) (fun hc => ?_) | refine Opt.nn ?_ | refine Opt.ss ?_ | refine AltA.l ?_ | exact PV.leL_nil | refine PV.leL_cons ?_ ?_ | refine And.intro ?_ ?_ | refine ix_map (fun x hx => ?_) | refine exU8 ?_ | refine nilc (fun hn => ?_) ?_ | exact cl3 | refine imp0 (fun hpos => ?_) | refine fits_i64 ?_ ?_ | exact rfl | exact trivial | (first | refine stq ?_ | fail)))) <;> (try exact cl5)
        all_goals first
        | (exfalso; dsimp only at *; omega)
        | (refine ⟨[], [(0, 0)], ?_, ?_, by decide, by simp, fun i hi => by match i, hi with | 0, _ => rfl⟩ <;> (repeat' (first | exact trivial | refine HpLe.dd ?_ | refine HpLe.mk rfl (by simp) rfl (fun h => AObj.noConfusion h) ?_ ?_ | refine And.intro ?_ ?_ | exact cl9 | refine VLe.pe ?_ | refine VLe.agg ?_ | refine VLe.tup ?_ | refine VLe.fn ?_ ?_ | refine VLeL.cons ?_ ?_ | exact VLeL.nil | exact OLe.row _ _ | rfl | refine VLe.rsle rfl ?_ ?_ ?_ | refine OLe.rowe2 ?_ ?_ | refine OLe.mape ?_ ?_ | refine OLe.iter0 ?_ | refine OLe.itere ?_ ?_ | refine OLe.chane ?_ ?_ | refine OLe.mapSe ?_ ?_ ?_ | exact OLe.mapS0 rfl)); exact congrArg (PV.int .u64) hbits)
      · repeat' (first | exact cl1 | ((with_reducible show Exists _); first | exact exHM _ | refine exU8 ?_) | ((with_reducible show callX _ _ _ _ _); (first | refine call_i [0] (q1) (by kernel_rfl) rfl rfl (by decide) cl6 (fun i hi => by match i, hi with | 0, _ => rfl) cl7 cl8 (by simp [keys]) ?_ | refine call_i [0] (w1) (by kernel_rfl) rfl rfl (by decide) cl6 (fun i hi => by match i, hi with | 0, _ => rfl) cl7 cl8 (by simp [keys]) ?_)) | ((fail_if_success refine stp ?_); (conv => whnf) <;> (first | exact cl2 | refine ix_at hix ?_ | refine Br.dec (fun hc => ?_) (fun hc => absurd h128 hc) | refine XAlt.l ?_ | refine Sq.pr ?_ | refine Br.dec (fun hc => ?_) (fun hc => ?_) | refine Br.tt ?_ | refine Br.ff ?_ | refine Br.not ?_ | refine Br.mk (fun hc => ?_) (fun hc => ?_) | refine Opt.nn ?_ | refine Opt.ss ?_ | refine AltA.l ?_ | exact PV.leL_nil | refine PV.leL_cons ?_ ?_ | refine And.intro ?_ ?_ | refine ix_map (fun x hx => ?_) | refine exU8 ?_ | refine nilc (fun hn => ?_) ?_ | exact cl3 | refine imp0 (fun hpos => ?_) | refine fits_i64 ?_ ?_ | exact rfl | exact trivial | (first | refine stq ?_ | fail)))) <;> (try exact cl5)
        all_goals first
        | (exfalso; dsimp only at *; omega)
        | (refine ⟨[], [(0, 0)], ?_, ?_, by decide, by simp, fun i hi => by match i, hi with | 0, _ => rfl⟩ <;> (repeat' (first | exact trivial | refine HpLe.dd ?_ | refine HpLe.mk rfl (by simp) rfl (fun h => AObj.noConfusion h) ?_ ?_ | refine And.intro ?_ ?_ | exact cl9 | refine VLe.pe ?_ | refine VLe.agg ?_ | refine VLe.tup ?_ | refine VLe.fn ?_ ?_ | refine VLeL.cons ?_ ?_ | exact VLeL.nil | exact OLe.row _ _ | rfl | refine VLe.rsle rfl ?_ ?_ ?_ | refine OLe.rowe2 ?_ ?_ | refine OLe.mape ?_ ?_ | refine OLe.iter0 ?_ | refine OLe.itere ?_ ?_ | refine OLe.chane ?_ ?_ | refine OLe.mapSe ?_ ?_ ?_ | exact OLe.mapS0 rfl)); exact congrArg (PV.int .u64) hbits)
    · rw [if_neg h128] at hq
      have hi9 : i < 9 := by omega
      have hlt := nAdd_lt hi9 hu hc0
      repeat' (first | exact cl1 | ((with_reducible show Exists _); first | exact exHM _ | refine exU8 ?_) | ((with_reducible show callX _ _ _ _ _); (first | refine call_i [0] (q1) (by kernel_rfl) rfl rfl (by decide) cl6 (fun i hi => by match i, hi with | 0, _ => rfl) cl7 cl8 (by simp [keys]) ?_ | refine call_i [0] (w1) (by kernel_rfl) rfl rfl (by decide) cl6 (fun i hi => by match i, hi with | 0, _ => rfl) cl7 cl8 (by simp [keys]) ?_)) | ((fail_if_success refine stp ?_); (conv => whnf) <;> (first | exact cl2 | refine ix_at hix ?_ | refine Br.dec (fun hc => absurd hc h128) (fun hc => ?_) | refine XAlt.l ?_ | refine Sq.pr ?_ | refine Br.dec (fun hc => ?_) (fun hc => ?_) | refine Br.tt ?_ | refine Br.ff ?_ | refine Br.not ?_ | refine Br.mk (fun hc => ?_) (fun hc => ?_) | refine Opt.nn ?_ | refine Opt.ss ?_ | refine AltA.l ?_ | exact PV.leL_nil | refine PV.leL_cons ?_ ?_ | refine And.intro ?_ ?_ | refine ix_map (fun x hx => ?_) | refine exU8 ?_ | refine nilc (fun hn => ?_) ?_ | exact cl3 | refine imp0 (fun hpos => ?_) | refine fits_i64 ?_ ?_ | exact rfl | exact trivial | (first | refine stq ?_ | fail)))) <;> (try exact cl5)
      all_goals first
      | (exfalso; dsimp only at *; omega)
      | (refine ⟨⟨(i + 1, nAdd i u c, b), hi9, hlt, Nat.lt_of_succ_lt hb, fun x hx => hB x (by simp [hx]), hq⟩, by show b.length < (c :: b).length; simp, ?_⟩
         (first | refine Ent.ofA [] ?_ | refine Ent.ofC [] ?_) <;> (repeat' (first | exact trivial | refine HpLe.dd ?_ | refine HpLe.mk rfl (by simp) rfl (fun h => AObj.noConfusion h) ?_ ?_ | refine And.intro ?_ ?_ | exact cl9 | refine VLe.pe ?_ | refine VLe.agg ?_ | refine VLe.tup ?_ | refine VLe.fn ?_ ?_ | refine VLeL.cons ?_ ?_ | exact VLeL.nil | exact OLe.row _ _ | rfl | refine VLe.rsle rfl ?_ ?_ ?_ | refine OLe.rowe2 ?_ ?_ | refine OLe.mape ?_ ?_ | refine OLe.iter0 ?_ | refine OLe.itere ?_ ?_ | refine OLe.chane ?_ ?_ | refine OLe.mapSe ?_ ?_ ?_ | exact OLe.mapS0 rfl)) <;> try (first | (simp; done) | (congr 1; omega) | (congr 1; (first | (simp; done) | (simp; omega))))
         all_goals exact congrArg (PV.int .u64) hbits)
end Go.Proofs.Ytgclicahmbgfiaa.Cd

namespace Go.Proofs.Ytgclicahmbgfiaa.Cd
open Go Go.Sg
set_option maxRecDepth 100000
set_option maxHeartbeats 20000000
theorem number_no (b0 : List Int) (hb0 : b0.length < 1000000) (hB0 : B8 b0) (h0 : numD b0 0 0 = none) : XCalls Try.prog 81 1 [(0, .cells [.p (eR b0)])] [.ptr 0 0] errC := by
  refine XCalls.of (N := 38) (res := [.tmp 2]) mixed Try.func81 rfl rfl rfl (by kernel_rfl) (by simp) [0, 2, 3, 4, 36] (Nat.le_refl _) (by first | rfl | kernel_rfl) ?_
  repeat' (first | exact cl1 | ((with_reducible show Exists _); first | exact exHM _ | refine exU8 ?_) | ((fail_if_success refine stp ?_); (conv => whnf) <;> (first | exact cl2 | refine XAlt.l ?_ | refine Sq.pr ?_ | refine Br.dec (fun hc => ?_) (fun hc => ?_) | refine Br.tt ?_ | refine Br.ff ?_ | refine Br.not ?_ | refine Br.mk (fun hc => ?_) (fun hc => ?_) | refine Opt.nn ?_ | refine Opt.ss ?_ | refine AltA.l ?_ | exact PV.leL_nil | refine PV.leL_cons ?_ ?_ | refine And.intro ?_ ?_ | refine ix_map (fun x hx => ?_) | refine exU8 ?_ | refine nilc (fun hn => ?_) ?_ | exact cl3 | refine imp0 (fun hpos => ?_) | refine fits_i64 ?_ ?_ | exact rfl | exact trivial | (first | refine stq ?_ | fail)))) <;> (try exact cl5)
  refine Wpc.loopA (α := {s : Nat × Nat × List Int // s.1 ≤ 9 ∧ s.2.1 < 2 ^ (7 * s.1) ∧ s.2.2.length < 1000000 ∧ B8 s.2.2 ∧ numD s.2.2 s.1 s.2.1 = none}) mixed [0, 2, 3, 4, 36] (fun s => [(2, .p (eU s.1.2.1)), (3, .p (eI s.1.1))]) (fun s => [(0, .cells [.p (eR s.1.2.2)])]) (fun _ => 0) (fun s => s.1.2.2.length) ⟨(0, 0, b0), Nat.zero_le 9, Nat.one_pos, hb0, hB0, h0⟩ ?_ ?_
  · (first | refine Ent.ofA [] ?_ | refine Ent.ofC [] ?_) <;> (repeat' (first | exact trivial | refine HpLe.dd ?_ | refine HpLe.mk rfl (by simp) rfl (fun h => AObj.noConfusion h) ?_ ?_ | refine And.intro ?_ ?_ | exact cl9 | refine VLe.pe ?_ | refine VLe.agg ?_ | refine VLe.tup ?_ | refine VLe.fn ?_ ?_ | refine VLeL.cons ?_ ?_ | exact VLeL.nil | exact OLe.row _ _ | rfl | refine VLe.rsle rfl ?_ ?_ ?_ | refine OLe.rowe2 ?_ ?_ | refine OLe.mape ?_ ?_ | refine OLe.iter0 ?_ | refine OLe.itere ?_ ?_ | refine OLe.chane ?_ ?_ | refine OLe.mapSe ?_ ?_ ?_ | exact OLe.mapS0 rfl)) <;> try (first | (simp; done) | (congr 1; omega) | (congr 1; (first | (simp; done) | (simp; omega))))
  rintro ⟨⟨i, u, b⟩, hi, hu, hb, hB, hq⟩
  have hi : i ≤ 9 := hi
  have hu : u < 2 ^ (7 * i) := hu
  have hb : b.length < 1000000 := hb
  have hB : B8 b := hB
  have hq : numD b i u = none := hq
  cases b with
  | nil =>
    have q1 := take_no [] 1 (by simp) (by simp)
    repeat' (first | exact cl1 | ((with_reducible show Exists _); first | exact exHM _ | refine exU8 ?_) | ((fail_if_success refine stp ?_); (conv => whnf) <;> (first | exact cl2 | (refine XAlt.r ?_; (conv => whnf); refine call_x [0] (q1) (by kernel_rfl) rfl rfl (by decide) cl6 (fun i hi => by match i, hi with | 0, _ => rfl) cl7 ?_) | refine XAlt.l ?_ | refine Sq.pr ?_ | refine Br.dec (fun hc => ?_) (fun hc => ?_) | refine Br.tt ?_ | refine Br.ff ?_ | refine Br.not ?_ | refine Br.mk (fun hc => ?_) (fun hc => ?_) | refine Opt.nn ?_ | refine Opt.ss ?_ | refine AltA.l ?_ | exact PV.leL_nil | refine PV.leL_cons ?_ ?_ | refine And.intro ?_ ?_ | refine ix_map (fun x hx => ?_) | refine exU8 ?_ | refine nilc (fun hn => ?_) ?_ | exact cl3 | refine imp0 (fun hpos => ?_) | refine fits_i64 ?_ ?_ | exact rfl | exact trivial | (first | refine stq ?_ | fail)))) <;> (try exact cl5)
  | cons c b =>
    have q1 := take_yes (c :: b) 1 (by simp) hb
    obtain ⟨hc0, hc1⟩ := hB c (by simp)
    have hix : (List.take 1 (c :: b))[Int.toNat 0]? = some c := rfl
    have w1 := want_yes (eR b)
    have w0 := want_no (eR b)
    unfold numD at hq
    by_cases hok : nOk i c = true
    · rw [if_pos hok] at hq
      have hk : (i < 9 ∨ c ≤ 1) := by unfold nOk at hok; simp at hok; omega
      have hk2 : (i = 0 ∨ ¬ c = 0) := by unfold nOk at hok; simp at hok; omega
      have hbits := nAdd_bits hi hu hc0 hc1 hk
      have h64 := nAdd_64 hi hu hc0 hk
      have h128 : ¬ c < 128 := fun h => by rw [if_pos h] at hq; cases hq
      rw [if_neg h128] at hq
      have hi9 : i < 9 := by omega
      have hlt := nAdd_lt hi9 hu hc0
      repeat' (first | exact cl1 | ((with_reducible show Exists _); first | exact exHM _ | refine exU8 ?_) | ((with_reducible show callX _ _ _ _ _); (first | refine call_i [0] (q1) (by kernel_rfl) rfl rfl (by decide) cl6 (fun i hi => by match i, hi with | 0, _ => rfl) cl7 cl8 (by simp [keys]) ?_ | refine call_i [0] (w1) (by kernel_rfl) rfl rfl (by decide) cl6 (fun i hi => by match i, hi with | 0, _ => rfl) cl7 cl8 (by simp [keys]) ?_)) | ((fail_if_success refine stp ?_); (conv => whnf) <;> (first | exact cl2 | refine ix_at hix ?_ | refine Br.dec (fun hc => absurd hc h128) (fun hc => ?_) | refine XAlt.l ?_ | refine Sq.pr ?_ | refine Br.dec (fun hc => ?_) (fun hc => ?_) | refine Br.tt ?_ | refine Br.ff ?_ | refine Br.not ?_ | refine Br.mk (fun hc => ?_) (fun hc => ?_) | refine Opt.nn ?_ | refine Opt.ss ?_ | refine AltA.l ?_ | exact PV.leL_nil | refine PV.leL_cons ?_ ?_ | refine And.intro ?_ ?_ | refine ix_map (fun x hx => ?_) | refine exU8 ?_ | refine nilc (fun hn => ?_) ?_ | exact cl3 | refine imp0 (fun hpos => ?_) | refine fits_i64 ?_ ?_ | exact rfl | exact trivial | (first | refine stq ?_ | fail)))) <;> (try exact cl5)
      all_goals first
      | (exfalso; dsimp only at *; omega)
      | (refine ⟨⟨(i + 1, nAdd i u c, b), hi9, hlt, Nat.lt_of_succ_lt hb, fun x hx => hB x (by simp [hx]), hq⟩, by show b.length < (c :: b).length; simp, ?_⟩
         (first | refine Ent.ofA [] ?_ | refine Ent.ofC [] ?_) <;> (repeat' (first | exact trivial | refine HpLe.dd ?_ | refine HpLe.mk rfl (by simp) rfl (fun h => AObj.noConfusion h) ?_ ?_ | refine And.intro ?_ ?_ | exact cl9 | refine VLe.pe ?_ | refine VLe.agg ?_ | refine VLe.tup ?_ | refine VLe.fn ?_ ?_ | refine VLeL.cons ?_ ?_ | exact VLeL.nil | exact OLe.row _ _ | rfl | refine VLe.rsle rfl ?_ ?_ ?_ | refine OLe.rowe2 ?_ ?_ | refine OLe.mape ?_ ?_ | refine OLe.iter0 ?_ | refine OLe.itere ?_ ?_ | refine OLe.chane ?_ ?_ | refine OLe.mapSe ?_ ?_ ?_ | exact OLe.mapS0 rfl)) <;> try (first | (simp; done) | (congr 1; omega) | (congr 1; (first | (simp; done) | (simp; omega))))
         all_goals exact congrArg (PV.int .u64) hbits)
    · have hk : ¬ ((i < 9 ∨ c ≤ 1) ∧ (i = 0 ∨ ¬ c = 0)) := by unfold nOk at hok; simp at hok; omega
      by_cases hc9 : c ≤ 1
      · repeat' (first | exact cl1 | ((with_reducible show Exists _); first | exact exHM _ | refine exU8 ?_) | ((with_reducible show callX _ _ _ _ _); (first | refine call_i [0] (q1) (by kernel_rfl) rfl rfl (by decide) cl6 (fun i hi => by match i, hi with | 0, _ => rfl) cl7 cl8 (by simp [keys]) ?_)) | ((fail_if_success refine stp ?_); (conv => whnf) <;> (first | exact cl2 | refine ix_at hix ?_ | (refine XAlt.r ?_; (conv => whnf); refine call_x [0] (w0) (by kernel_rfl) rfl rfl (by decide) cl6 (fun i hi => by match i, hi with | 0, _ => rfl) cl7 ?_) | refine XAlt.l ?_ | refine Sq.pr ?_ | refine Br.dec (fun hc => ?_) (fun hc => ?_) | refine Br.tt ?_ | refine Br.ff ?_ | refine Br.not ?_ | refine Br.mk (fun hc => ?_) (fun hc => ?_) | refine Opt.nn ?_ | refine Opt.ss ?_ | refine AltA.l ?_ | exact PV.leL_nil | refine PV.leL_cons ?_ ?_ | refine And.intro ?_ ?_ | refine ix_map (fun x hx => ?_) | refine exU8 ?_ | refine nilc (fun hn => ?_) ?_ | exact cl3 | refine imp0 (fun hpos => ?_) | refine fits_i64 ?_ ?_ | exact rfl | exact trivial | (first | refine stq ?_ | fail)))) <;> (try exact cl5)
        all_goals (exfalso; dsimp only at *; omega)
      · have w2 := w0
        rw [← decide_eq_false hc9] at w2
        repeat' (first | exact cl1 | ((with_reducible show Exists _); first | exact exHM _ | refine exU8 ?_) | ((with_reducible show callX _ _ _ _ _); (first | refine call_i [0] (q1) (by kernel_rfl) rfl rfl (by decide) cl6 (fun i hi => by match i, hi with | 0, _ => rfl) cl7 cl8 (by simp [keys]) ?_)) | ((fail_if_success refine stp ?_); (conv => whnf) <;> (first | exact cl2 | refine ix_at hix ?_ | (refine XAlt.r ?_; (conv => whnf); refine call_x [0] (w0) (by kernel_rfl) rfl rfl (by decide) cl6 (fun i hi => by match i, hi with | 0, _ => rfl) cl7 ?_) | (refine XAlt.r ?_; (conv => whnf); refine call_x [0] (w2) (by kernel_rfl) rfl rfl (by decide) cl6 (fun i hi => by match i, hi with | 0, _ => rfl) cl7 ?_) | refine XAlt.l ?_ | refine Sq.pr ?_ | refine Br.dec (fun hc => ?_) (fun hc => ?_) | refine Br.tt ?_ | refine Br.ff ?_ | refine Br.not ?_ | refine Br.mk (fun hc => ?_) (fun hc => ?_) | refine Opt.nn ?_ | refine Opt.ss ?_ | refine AltA.l ?_ | exact PV.leL_nil | refine PV.leL_cons ?_ ?_ | refine And.intro ?_ ?_ | refine ix_map (fun x hx => ?_) | refine exU8 ?_ | refine nilc (fun hn => ?_) ?_ | exact cl3 | refine imp0 (fun hpos => ?_) | refine fits_i64 ?_ ?_ | exact rfl | exact trivial | (first | refine stq ?_ | fail)))) <;> (try exact cl5)
        all_goals (exfalso; dsimp only at *; omega)
end Go.Proofs.Ytgclicahmbgfiaa.Cd

namespace Go.Proofs.Ytgclicahmbgfiaa.Cd
open Go Go.Sg
set_option maxRecDepth 100000
set_option maxHeartbeats 20000000
theorem numD_facts : ∀ (b : List Int) (i u : Nat) {v : Nat} {r : List Int}, numD b i u = some (v, r) → B8 b → i ≤ 9 → u < 2 ^ (7 * i) → v < 18446744073709551616 ∧ r.length < b.length ∧ B8 r
  | [], i, u, v, r, h, _, _, _ => by cases h
  | c :: b, i, u, v, r, h, hB, hi, hu => by
    unfold numD at h
    split at h
    · rename_i hok
      obtain ⟨h0, h1⟩ := hB c (by simp)
      have hk : (i < 9 ∨ c ≤ 1) := by unfold nOk at hok; simp at hok; omega
      have hB' : B8 b := fun x hx => hB x (by simp [hx])
      split at h
      · injection h with h; injection h with e1 e2; subst e1; subst e2
        exact ⟨nAdd_64 hi hu h0 hk, by simp, hB'⟩
      · have hi9 : i < 9 := by omega
        obtain ⟨a1, a2, a3⟩ := numD_facts b (i + 1) _ h hB' hi9 (nAdd_lt hi9 hu h0)
        exact ⟨a1, by simp; omega, a3⟩
    · cases h
def lenD (b : List Int) : Option (Nat × List Int) :=
  match numD b 0 0 with
  | some (n, r) => if n ≤ r.length then some (n, r) else none
  | none => none
theorem num0 {b : List Int} {v : Nat} {r : List Int} (h : numD b 0 0 = some (v, r)) (hB : B8 b) : v < 18446744073709551616 ∧ r.length < b.length ∧ B8 r := numD_facts b 0 0 h hB (by decide) (by decide)
theorem lenW {r : List Int} (h : r.length < 1000000) (n : Nat) : ((n : Int) ≤ IntKind.u64.wrap (((r.map (PV.int .u8)).length : Nat) : Int)) ↔ n ≤ r.length := by
  rw [List.length_map, wrap_u64]; omega
theorem length_yes (b : List Int) (hb : b.length < 1000000) (hB : B8 b) (n : Nat) (r : List Int) (h : lenD b = some (n, r)) : ICalls Try.prog 82 1 [(0, .cells [.p (eR b)])] [.ptr 0 0] (.p (eI n)) [(0, .cells [.p (eR r)])] := by
  unfold lenD at h
  cases hn : numD b 0 0 with
  | none => rw [hn] at h; cases h
  | some x =>
    obtain ⟨u, s⟩ := x
    rw [hn] at h
    simp only at h
    split at h
    · rename_i hle
      injection h with h; injection h with e1 e2; subst e1; subst e2
      obtain ⟨f1, f2, f3⟩ := num0 hn hB
      have q1 := number_yes b hb hB u s hn
      have w1 := want_yes (eR s)
      rw [← decide_eq_true ((lenW (by omega) u).2 hle)] at w1
      refine ICalls.of (N := 18) (res := [.tmp 2]) mixed Try.func82 rfl rfl rfl (by kernel_rfl) (by simp) [0, 2, 3] (Nat.le_refl _) ?_
      repeat' (first | exact cl1 | ((with_reducible show Exists _); first | exact exHM _ | refine exU8 ?_) | ((with_reducible show callX _ _ _ _ _); (first | refine call_i [0] (q1) (by kernel_rfl) rfl rfl (by decide) cl6 (fun i hi => by match i, hi with | 0, _ => rfl) cl7 cl8 (by simp [keys]) ?_ | refine call_i [0] (w1) (by kernel_rfl) rfl rfl (by decide) cl6 (fun i hi => by match i, hi with | 0, _ => rfl) cl7 cl8 (by simp [keys]) ?_)) | ((fail_if_success refine stp ?_); (conv => whnf) <;> (first | exact cl2 | refine XAlt.l ?_ | refine Sq.pr ?_ | refine Br.dec (fun hc => ?_) (fun hc => ?_) | refine Br.tt ?_ | refine Br.ff ?_ | refine Br.not ?_ | refine Br.mk (fun hc => ?_) (fun hc => ?_) | refine Opt.nn ?_ | refine Opt.ss ?_ | refine AltA.l ?_ | exact PV.leL_nil | refine PV.leL_cons ?_ ?_ | refine And.intro ?_ ?_ | refine ix_map (fun x hx => ?_) | refine exU8 ?_ | refine nilc (fun hn => ?_) ?_ | exact cl3 | refine imp0 (fun hpos => ?_) | refine fits_i64 ?_ ?_ | exact rfl | exact trivial | (first | refine stq ?_ | fail)))) <;> (try exact cl5)
      all_goals (refine ⟨[], [(0, 0)], ?_, ?_, by decide, by simp, fun i hi => by match i, hi with | 0, _ => rfl⟩ <;> (repeat' (first | exact trivial | refine HpLe.dd ?_ | refine HpLe.mk rfl (by simp) rfl (fun h => AObj.noConfusion h) ?_ ?_ | refine And.intro ?_ ?_ | exact cl9 | refine VLe.pe ?_ | refine VLe.agg ?_ | refine VLe.tup ?_ | refine VLe.fn ?_ ?_ | refine VLeL.cons ?_ ?_ | exact VLeL.nil | exact OLe.row _ _ | rfl | refine VLe.rsle rfl ?_ ?_ ?_ | refine OLe.rowe2 ?_ ?_ | refine OLe.mape ?_ ?_ | refine OLe.iter0 ?_ | refine OLe.itere ?_ ?_ | refine OLe.chane ?_ ?_ | refine OLe.mapSe ?_ ?_ ?_ | exact OLe.mapS0 rfl)); exact congrArg (PV.int .i64) (wrap_i64 (by omega) (by omega)))
    · cases h
theorem length_no (b : List Int) (hb : b.length < 1000000) (hB : B8 b) (h : lenD b = none) : XCalls Try.prog 82 1 [(0, .cells [.p (eR b)])] [.ptr 0 0] errC := by
  unfold lenD at h
  cases hn : numD b 0 0 with
  | none =>
    have q1 := number_no b hb hB hn
    refine XCalls.of (N := 18) (res := [.tmp 2]) mixed Try.func82 rfl rfl rfl (by kernel_rfl) (by simp) [0, 2, 3] (Nat.le_refl _) (by first | rfl | kernel_rfl) ?_
    repeat' (first | exact cl1 | ((with_reducible show Exists _); first | exact exHM _ | refine exU8 ?_) | ((fail_if_success refine stp ?_); (conv => whnf) <;> (first | exact cl2 | (refine XAlt.r ?_; (conv => whnf); refine call_x [0] (q1) (by kernel_rfl) rfl rfl (by decide) cl6 (fun i hi => by match i, hi with | 0, _ => rfl) cl7 ?_) | refine XAlt.l ?_ | refine Sq.pr ?_ | refine Br.dec (fun hc => ?_) (fun hc => ?_) | refine Br.tt ?_ | refine Br.ff ?_ | refine Br.not ?_ | refine Br.mk (fun hc => ?_) (fun hc => ?_) | refine Opt.nn ?_ | refine Opt.ss ?_ | refine AltA.l ?_ | exact PV.leL_nil | refine PV.leL_cons ?_ ?_ | refine And.intro ?_ ?_ | refine ix_map (fun x hx => ?_) | refine exU8 ?_ | refine nilc (fun hn => ?_) ?_ | exact cl3 | refine imp0 (fun hpos => ?_) | refine fits_i64 ?_ ?_ | exact rfl | exact trivial | (first | refine stq ?_ | fail)))) <;> (try exact cl5)
  | some x =>
    obtain ⟨u, s⟩ := x
    rw [hn] at h
    simp only at h
    split at h
    · cases h
    · rename_i hle
      obtain ⟨f1, f2, f3⟩ := num0 hn hB
      have q1 := number_yes b hb hB u s hn
      have w1 := want_no (eR s)
      rw [← decide_eq_false (fun k => hle ((lenW (by omega) u).1 k))] at w1
      refine XCalls.of (N := 18) (res := [.tmp 2]) mixed Try.func82 rfl rfl rfl (by kernel_rfl) (by simp) [0, 2, 3] (Nat.le_refl _) (by first | rfl | kernel_rfl) ?_
      repeat' (first | exact cl1 | ((with_reducible show Exists _); first | exact exHM _ | refine exU8 ?_) | ((with_reducible show callX _ _ _ _ _); (first | refine call_i [0] (q1) (by kernel_rfl) rfl rfl (by decide) cl6 (fun i hi => by match i, hi with | 0, _ => rfl) cl7 cl8 (by simp [keys]) ?_)) | ((fail_if_success refine stp ?_); (conv => whnf) <;> (first | exact cl2 | (refine XAlt.r ?_; (conv => whnf); refine call_x [0] (w1) (by kernel_rfl) rfl rfl (by decide) cl6 (fun i hi => by match i, hi with | 0, _ => rfl) cl7 ?_) | refine XAlt.l ?_ | refine Sq.pr ?_ | refine Br.dec (fun hc => ?_) (fun hc => ?_) | refine Br.tt ?_ | refine Br.ff ?_ | refine Br.not ?_ | refine Br.mk (fun hc => ?_) (fun hc => ?_) | refine Opt.nn ?_ | refine Opt.ss ?_ | refine AltA.l ?_ | exact PV.leL_nil | refine PV.leL_cons ?_ ?_ | refine And.intro ?_ ?_ | refine ix_map (fun x hx => ?_) | refine exU8 ?_ | refine nilc (fun hn => ?_) ?_ | exact cl3 | refine imp0 (fun hpos => ?_) | refine fits_i64 ?_ ?_ | exact rfl | exact trivial | (first | refine stq ?_ | fail)))) <;> (try exact cl5)
def repD (f : List Int → Option (Vl × List Int)) : Nat → List Int → Option (List Vl × List Int)
  | 0, b => some ([], b)
  | n + 1, b => match f b with
    | some (v, r) => (match repD f n r with | some (l, s) => some (v :: l, s) | none => none)
    | none => none
/-- A value that is read, within so many lists at most. -/
def valD : Nat → List Int → Option (Vl × List Int)
  | _, [] => none
  | k, c :: b => if c = 1 then (match numD b 0 0 with | some (u, r) => some (.mk 1 (nz u) ByteArray.empty [], r) | none => none)
    else if c = 2 then (match lenD b with | some (n, r) => some (.mk 2 0 (strOfNums (r.take n)) [], r.drop n) | none => none)
    else if c = 3 then (match k with
      | 0 => none
      | k + 1 => match lenD b with
        | some (n, r) => (match repD (valD k) n r with | some (l, s) => some (.mk 3 0 ByteArray.empty l, s) | none => none)
        | none => none)
    else none
end Go.Proofs.Ytgclicahmbgfiaa.Cd

namespace Go.Proofs.Ytgclicahmbgfiaa.Cd
open Go Go.Sg
set_option maxRecDepth 100000
set_option maxHeartbeats 40000000
theorem wI {c : Int} (h0 : 0 ≤ c) (h1 : c ≤ 255) : IntKind.i64.wrap c = c := wrap_i64 (by omega) (by omega)
theorem le_val {z : Nat} {k n s : PV} : PV.le (.agg [k, n, s, .sl z true []]) (.agg [k, n, s, .sl 4 false []]) :=
  PV.le_agg (PV.leL_cons (PV.le_refl _) (PV.leL_cons (PV.le_refl _) (PV.leL_cons (PV.le_refl _) (PV.leL_cons (PV.le_nil _ _ _) PV.leL_nil))))
theorem value_int (b : List Int) (hb : (1 :: b).length < 1000000) (hB : B8 b) (d : Int) (u : Nat) (r : List Int) (h : numD b 0 0 = some (u, r)) :
    ICalls Try.prog 59 1 [(0, .cells [.p (eR (1 :: b))])] [.ptr 0 0, .p (eI d)] (.p (eW (.mk 1 (nz u) ByteArray.empty []))) [(0, .cells [.p (eR r)])] := by
  have hb' : b.length < 1000000 := Nat.lt_of_succ_lt hb
  have q1 := take_yes (1 :: b) 1 (by simp) hb
  have q2 := number_yes b hb' hB u r h
  obtain ⟨hu, _, _⟩ := num0 h hB
  have q3 := signed_calls u hu
  have hix : (List.take 1 (1 :: b))[Int.toNat 0]? = some 1 := rfl
  have h1 : IntKind.i64.wrap 1 = 1 := by decide
  refine ICalls.of (N := 50) (res := [.cell 4 57]) mixed Try.func59 rfl rfl rfl (by kernel_rfl) (by simp) [0, 1, 4, 12, 15, 21, 29, 36, 37, 38] (Nat.le_refl _) ?_
  repeat' (first | exact cl1 | ((with_reducible show Exists _); first | exact exHM _ | refine exU8 ?_) | ((with_reducible show callX _ _ _ _ _); (first | refine call_i [0] (q1) (by kernel_rfl) rfl rfl (by decide) cl6 (fun i hi => by match i, hi with | 0, _ => rfl) cl7 cl8 (by simp [keys]) ?_ | refine call_i [0] (q2) (by kernel_rfl) rfl rfl (by decide) cl6 (fun i hi => by match i, hi with | 0, _ => rfl) cl7 cl8 (by simp [keys]) ?_ | refine call_p (q3) (by kernel_rfl) rfl ?_)) | ((fail_if_success refine stp ?_); (conv => whnf) <;> (first | exact cl2 | refine ix_at hix ?_ | refine Br.dec (fun hc => ?_) (fun hc => absurd h1 hc) | refine XAlt.l ?_ | refine Sq.pr ?_ | refine Br.dec (fun hc => ?_) (fun hc => ?_) | refine Br.tt ?_ | refine Br.ff ?_ | refine Br.not ?_ | refine Br.mk (fun hc => ?_) (fun hc => ?_) | refine Opt.nn ?_ | refine Opt.ss ?_ | refine AltA.l ?_ | exact PV.leL_nil | refine PV.leL_cons ?_ ?_ | refine And.intro ?_ ?_ | refine ix_map (fun x hx => ?_) | refine exU8 ?_ | refine nilc (fun hn => ?_) ?_ | exact cl3 | refine imp0 (fun hpos => ?_) | refine fits_i64 ?_ ?_ | exact rfl | exact trivial | (first | refine stq ?_ | fail)))) <;> (try exact cl5)
  refine ⟨[], [(0, 0)], VLe.p ?_, ?_, by decide, by simp, fun i hi => by match i, hi with | 0, _ => rfl⟩
  · rw [h1]; exact le_val
  · (repeat' (first | exact trivial | refine HpLe.dd ?_ | refine HpLe.mk rfl (by simp) rfl (fun h => AObj.noConfusion h) ?_ ?_ | refine And.intro ?_ ?_ | exact cl9 | refine VLe.pe ?_ | refine VLe.agg ?_ | refine VLe.tup ?_ | refine VLe.fn ?_ ?_ | refine VLeL.cons ?_ ?_ | exact VLeL.nil | exact OLe.row _ _ | rfl | refine VLe.rsle rfl ?_ ?_ ?_ | refine OLe.rowe2 ?_ ?_ | refine OLe.mape ?_ ?_ | refine OLe.iter0 ?_ | refine OLe.itere ?_ ?_ | refine OLe.chane ?_ ?_ | refine OLe.mapSe ?_ ?_ ?_ | exact OLe.mapS0 rfl))
theorem value_text (b : List Int) (hb : (2 :: b).length < 1000000) (hB : B8 b) (d : Int) (n : Nat) (r : List Int) (h : lenD b = some (n, r)) :
    ICalls Try.prog 59 1 [(0, .cells [.p (eR (2 :: b))])] [.ptr 0 0, .p (eI d)] (.p (eW (.mk 2 0 (strOfNums (r.take n)) []))) [(0, .cells [.p (eR (r.drop n))])] := by
  have hb' : b.length < 1000000 := Nat.lt_of_succ_lt hb
  have q1 := take_yes (2 :: b) 1 (by simp) hb
  have q2 := length_yes b hb' hB n r h
  have hnr : n ≤ r.length ∧ r.length < b.length := by
    unfold lenD at h
    cases hn : numD b 0 0 with
    | none => rw [hn] at h; cases h
    | some x =>
      rw [hn] at h; simp only at h
      split at h
      · obtain ⟨_, f2, _⟩ := num0 (v := x.1) (r := x.2) hn hB
        injection h with h; injection h with e1 e2; subst e1; subst e2; exact ⟨by assumption, f2⟩
      · cases h
  have q3 := take_yes r n hnr.1 (by omega)
  have hix : (List.take 1 (2 :: b))[Int.toNat 0]? = some 2 := rfl
  have h1 : ¬ IntKind.i64.wrap 2 = 1 := by decide
  have h2 : IntKind.i64.wrap 2 = 2 := by decide
  refine ICalls.of (N := 50) (res := [.cell 4 57]) mixed Try.func59 rfl rfl rfl (by kernel_rfl) (by simp) [0, 1, 4, 12, 15, 21, 29, 36, 37, 38] (Nat.le_refl _) ?_
  repeat' (first | exact cl1 | ((with_reducible show Exists _); first | exact exHM _ | refine exU8 ?_) | ((with_reducible show callX _ _ _ _ _); (first | refine call_i [0] (q1) (by kernel_rfl) rfl rfl (by decide) cl6 (fun i hi => by match i, hi with | 0, _ => rfl) cl7 cl8 (by simp [keys]) ?_ | refine call_i [0] (q2) (by kernel_rfl) rfl rfl (by decide) cl6 (fun i hi => by match i, hi with | 0, _ => rfl) cl7 cl8 (by simp [keys]) ?_ | refine call_i [0] (q3) (by kernel_rfl) rfl rfl (by decide) cl6 (fun i hi => by match i, hi with | 0, _ => rfl) cl7 cl8 (by simp [keys]) ?_)) | ((fail_if_success refine stp ?_); (conv => whnf) <;> (first | exact cl2 | refine ix_at hix ?_ | refine Br.dec (fun hc => absurd hc h1) (fun hc => ?_) | refine Br.dec (fun hc => ?_) (fun hc => absurd h2 hc) | refine XAlt.l ?_ | refine Sq.pr ?_ | refine Br.dec (fun hc => ?_) (fun hc => ?_) | refine Br.tt ?_ | refine Br.ff ?_ | refine Br.not ?_ | refine Br.mk (fun hc => ?_) (fun hc => ?_) | refine Opt.nn ?_ | refine Opt.ss ?_ | refine AltA.l ?_ | exact PV.leL_nil | refine PV.leL_cons ?_ ?_ | refine And.intro ?_ ?_ | refine ix_map (fun x hx => ?_) | refine exU8 ?_ | refine nilc (fun hn => ?_) ?_ | exact cl3 | refine imp0 (fun hpos => ?_) | refine fits_i64 ?_ ?_ | exact rfl | exact trivial | (first | refine stq ?_ | fail)))) <;> (try exact cl5)
  refine ⟨[], [(0, 0)], VLe.p ?_, ?_, by decide, by simp, fun i hi => by match i, hi with | 0, _ => rfl⟩
  · rw [h2]; exact le_val
  · (repeat' (first | exact trivial | refine HpLe.dd ?_ | refine HpLe.mk rfl (by simp) rfl (fun h => AObj.noConfusion h) ?_ ?_ | refine And.intro ?_ ?_ | exact cl9 | refine VLe.pe ?_ | refine VLe.agg ?_ | refine VLe.tup ?_ | refine VLe.fn ?_ ?_ | refine VLeL.cons ?_ ?_ | exact VLeL.nil | exact OLe.row _ _ | rfl | refine VLe.rsle rfl ?_ ?_ ?_ | refine OLe.rowe2 ?_ ?_ | refine OLe.mape ?_ ?_ | refine OLe.iter0 ?_ | refine OLe.itere ?_ ?_ | refine OLe.chane ?_ ?_ | refine OLe.mapSe ?_ ?_ ?_ | exact OLe.mapS0 rfl))
theorem value_int_no (b : List Int) (hb : (1 :: b).length < 1000000) (hB : B8 b) (d : Int) (h : numD b 0 0 = none) : XCalls Try.prog 59 1 [(0, .cells [.p (eR (1 :: b))])] [.ptr 0 0, .p (eI d)] errC := by
  have hb' : b.length < 1000000 := Nat.lt_of_succ_lt hb
  have q1 := take_yes (1 :: b) 1 (by simp) hb
  have q2 := number_no b hb' hB h
  have hix : (List.take 1 (1 :: b))[Int.toNat 0]? = some 1 := rfl
  have h1 : IntKind.i64.wrap 1 = 1 := by decide
  refine XCalls.of (N := 50) (res := [.cell 4 57]) mixed Try.func59 rfl rfl rfl (by kernel_rfl) (by simp) [0, 1, 4, 12, 15, 21, 29, 36, 37, 38] (Nat.le_refl _) (by first | rfl | kernel_rfl) ?_
  repeat' (first | exact cl1 | ((with_reducible show Exists _); first | exact exHM _ | refine exU8 ?_) | ((with_reducible show callX _ _ _ _ _); (first | refine call_i [0] (q1) (by kernel_rfl) rfl rfl (by decide) cl6 (fun i hi => by match i, hi with | 0, _ => rfl) cl7 cl8 (by simp [keys]) ?_)) | ((fail_if_success refine stp ?_); (conv => whnf) <;> (first | exact cl2 | refine ix_at hix ?_ | refine Br.dec (fun hc => ?_) (fun hc => absurd h1 hc) | (refine XAlt.r ?_; (conv => whnf); refine call_x [0] (q2) (by kernel_rfl) rfl rfl (by decide) cl6 (fun i hi => by match i, hi with | 0, _ => rfl) cl7 ?_) | refine XAlt.l ?_ | refine Sq.pr ?_ | refine Br.dec (fun hc => ?_) (fun hc => ?_) | refine Br.tt ?_ | refine Br.ff ?_ | refine Br.not ?_ | refine Br.mk (fun hc => ?_) (fun hc => ?_) | refine Opt.nn ?_ | refine Opt.ss ?_ | refine AltA.l ?_ | exact PV.leL_nil | refine PV.leL_cons ?_ ?_ | refine And.intro ?_ ?_ | refine ix_map (fun x hx => ?_) | refine exU8 ?_ | refine nilc (fun hn => ?_) ?_ | exact cl3 | refine imp0 (fun hpos => ?_) | refine fits_i64 ?_ ?_ | exact rfl | exact trivial | (first | refine stq ?_ | fail)))) <;> (try exact cl5)
theorem value_text_no (b : List Int) (hb : (2 :: b).length < 1000000) (hB : B8 b) (d : Int) (h : lenD b = none) : XCalls Try.prog 59 1 [(0, .cells [.p (eR (2 :: b))])] [.ptr 0 0, .p (eI d)] errC := by
  have hb' : b.length < 1000000 := Nat.lt_of_succ_lt hb
  have q1 := take_yes (2 :: b) 1 (by simp) hb
  have q2 := length_no b hb' hB h
  have hix : (List.take 1 (2 :: b))[Int.toNat 0]? = some 2 := rfl
  have h1 : ¬ IntKind.i64.wrap 2 = 1 := by decide
  have h2 : IntKind.i64.wrap 2 = 2 := by decide
  refine XCalls.of (N := 50) (res := [.cell 4 57]) mixed Try.func59 rfl rfl rfl (by kernel_rfl) (by simp) [0, 1, 4, 12, 15, 21, 29, 36, 37, 38] (Nat.le_refl _) (by first | rfl | kernel_rfl) ?_
  repeat' (first | exact cl1 | ((with_reducible show Exists _); first | exact exHM _ | refine exU8 ?_) | ((with_reducible show callX _ _ _ _ _); (first | refine call_i [0] (q1) (by kernel_rfl) rfl rfl (by decide) cl6 (fun i hi => by match i, hi with | 0, _ => rfl) cl7 cl8 (by simp [keys]) ?_)) | ((fail_if_success refine stp ?_); (conv => whnf) <;> (first | exact cl2 | refine ix_at hix ?_ | refine Br.dec (fun hc => absurd hc h1) (fun hc => ?_) | refine Br.dec (fun hc => ?_) (fun hc => absurd h2 hc) | (refine XAlt.r ?_; (conv => whnf); refine call_x [0] (q2) (by kernel_rfl) rfl rfl (by decide) cl6 (fun i hi => by match i, hi with | 0, _ => rfl) cl7 ?_) | refine XAlt.l ?_ | refine Sq.pr ?_ | refine Br.dec (fun hc => ?_) (fun hc => ?_) | refine Br.tt ?_ | refine Br.ff ?_ | refine Br.not ?_ | refine Br.mk (fun hc => ?_) (fun hc => ?_) | refine Opt.nn ?_ | refine Opt.ss ?_ | refine AltA.l ?_ | exact PV.leL_nil | refine PV.leL_cons ?_ ?_ | refine And.intro ?_ ?_ | refine ix_map (fun x hx => ?_) | refine exU8 ?_ | refine nilc (fun hn => ?_) ?_ | exact cl3 | refine imp0 (fun hpos => ?_) | refine fits_i64 ?_ ?_ | exact rfl | exact trivial | (first | refine stq ?_ | fail)))) <;> (try exact cl5)
theorem value_nil_no (d : Int) : XCalls Try.prog 59 1 [(0, .cells [.p (eR [])])] [.ptr 0 0, .p (eI d)] errC := by
  have q1 := take_no [] 1 (by simp) (by simp)
  refine XCalls.of (N := 50) (res := [.cell 4 57]) mixed Try.func59 rfl rfl rfl (by kernel_rfl) (by simp) [0, 1, 4, 12, 15, 21, 29, 36, 37, 38] (Nat.le_refl _) (by first | rfl | kernel_rfl) ?_
  repeat' (first | exact cl1 | ((with_reducible show Exists _); first | exact exHM _ | refine exU8 ?_) | ((fail_if_success refine stp ?_); (conv => whnf) <;> (first | exact cl2 | (refine XAlt.r ?_; (conv => whnf); refine call_x [0] (q1) (by kernel_rfl) rfl rfl (by decide) cl6 (fun i hi => by match i, hi with | 0, _ => rfl) cl7 ?_) | refine XAlt.l ?_ | refine Sq.pr ?_ | refine Br.dec (fun hc => ?_) (fun hc => ?_) | refine Br.tt ?_ | refine Br.ff ?_ | refine Br.not ?_ | refine Br.mk (fun hc => ?_) (fun hc => ?_) | refine Opt.nn ?_ | refine Opt.ss ?_ | refine AltA.l ?_ | exact PV.leL_nil | refine PV.leL_cons ?_ ?_ | refine And.intro ?_ ?_ | refine ix_map (fun x hx => ?_) | refine exU8 ?_ | refine nilc (fun hn => ?_) ?_ | exact cl3 | refine imp0 (fun hpos => ?_) | refine fits_i64 ?_ ?_ | exact rfl | exact trivial | (first | refine stq ?_ | fail)))) <;> (try exact cl5)
theorem value_other_no (c : Int) (b : List Int) (hb : (c :: b).length < 1000000) (hB : B8 (c :: b)) (d : Int) (k1 : ¬ c = 1) (k2 : ¬ c = 2) (k3 : ¬ c = 3) : XCalls Try.prog 59 1 [(0, .cells [.p (eR (c :: b))])] [.ptr 0 0, .p (eI d)] errC := by
  have q1 := take_yes (c :: b) 1 (by simp) hb
  have q2 := want_no (eR b)
  obtain ⟨hc0, hc1⟩ := hB c (by simp)
  have hw := wI hc0 hc1
  have hix : (List.take 1 (c :: b))[Int.toNat 0]? = some c := rfl
  have h1 : ¬ IntKind.i64.wrap c = 1 := by rw [hw]; exact k1
  have h2 : ¬ IntKind.i64.wrap c = 2 := by rw [hw]; exact k2
  have h3 : ¬ IntKind.i64.wrap c = 3 := by rw [hw]; exact k3
  refine XCalls.of (N := 50) (res := [.cell 4 57]) mixed Try.func59 rfl rfl rfl (by kernel_rfl) (by simp) [0, 1, 4, 12, 15, 21, 29, 36, 37, 38] (Nat.le_refl _) (by first | rfl | kernel_rfl) ?_
  repeat' (first | exact cl1 | ((with_reducible show Exists _); first | exact exHM _ | refine exU8 ?_) | ((with_reducible show callX _ _ _ _ _); (first | refine call_i [0] (q1) (by kernel_rfl) rfl rfl (by decide) cl6 (fun i hi => by match i, hi with | 0, _ => rfl) cl7 cl8 (by simp [keys]) ?_)) | ((fail_if_success refine stp ?_); (conv => whnf) <;> (first | exact cl2 | refine ix_at hix ?_ | refine Br.dec (fun hc => absurd hc h1) (fun hc => ?_) | refine Br.dec (fun hc => absurd hc h2) (fun hc => ?_) | refine Br.dec (fun hc => absurd hc h3) (fun hc => ?_) | (refine XAlt.r ?_; (conv => whnf); refine call_x [0] (q2) (by kernel_rfl) rfl rfl (by decide) cl6 (fun i hi => by match i, hi with | 0, _ => rfl) cl7 ?_) | refine XAlt.l ?_ | refine Sq.pr ?_ | refine Br.dec (fun hc => ?_) (fun hc => ?_) | refine Br.tt ?_ | refine Br.ff ?_ | refine Br.not ?_ | refine Br.mk (fun hc => ?_) (fun hc => ?_) | refine Opt.nn ?_ | refine Opt.ss ?_ | refine AltA.l ?_ | exact PV.leL_nil | refine PV.leL_cons ?_ ?_ | refine And.intro ?_ ?_ | refine ix_map (fun x hx => ?_) | refine exU8 ?_ | refine nilc (fun hn => ?_) ?_ | exact cl3 | refine imp0 (fun hpos => ?_) | refine fits_i64 ?_ ?_ | exact rfl | exact trivial | (first | refine stq ?_ | fail)))) <;> (try exact cl5)
theorem value_deep_no (b : List Int) (hb : (3 :: b).length < 1000000) : XCalls Try.prog 59 1 [(0, .cells [.p (eR (3 :: b))])] [.ptr 0 0, .p (eI 16)] errC := by
  have q1 := take_yes (3 :: b) 1 (by simp) hb
  have q2 := want_no (eR b)
  have hn : ¬ (16 : Int) < 16 := by decide
  have q3 := want_no (eR b)
  rw [← decide_eq_false hn] at q3
  have hix : (List.take 1 (3 :: b))[Int.toNat 0]? = some 3 := rfl
  have h1 : ¬ IntKind.i64.wrap 3 = 1 := by decide
  have h2 : ¬ IntKind.i64.wrap 3 = 2 := by decide
  have h3 : IntKind.i64.wrap 3 = 3 := by decide
  refine XCalls.of (N := 50) (res := [.cell 4 57]) mixed Try.func59 rfl rfl rfl (by kernel_rfl) (by simp) [0, 1, 4, 12, 15, 21, 29, 36, 37, 38] (Nat.le_refl _) (by first | rfl | kernel_rfl) ?_
  repeat' (first | exact cl1 | ((with_reducible show Exists _); first | exact exHM _ | refine exU8 ?_) | ((with_reducible show callX _ _ _ _ _); (first | refine call_i [0] (q1) (by kernel_rfl) rfl rfl (by decide) cl6 (fun i hi => by match i, hi with | 0, _ => rfl) cl7 cl8 (by simp [keys]) ?_)) | ((fail_if_success refine stp ?_); (conv => whnf) <;> (first | exact cl2 | refine ix_at hix ?_ | refine Br.dec (fun hc => absurd hc h1) (fun hc => ?_) | refine Br.dec (fun hc => absurd hc h2) (fun hc => ?_) | refine Br.dec (fun hc => ?_) (fun hc => absurd h3 hc) | (refine XAlt.r ?_; (conv => whnf); refine call_x [0] (q3) (by kernel_rfl) rfl rfl (by decide) cl6 (fun i hi => by match i, hi with | 0, _ => rfl) cl7 ?_) | refine XAlt.l ?_ | refine Sq.pr ?_ | refine Br.dec (fun hc => ?_) (fun hc => ?_) | refine Br.tt ?_ | refine Br.ff ?_ | refine Br.not ?_ | refine Br.mk (fun hc => ?_) (fun hc => ?_) | refine Opt.nn ?_ | refine Opt.ss ?_ | refine AltA.l ?_ | exact PV.leL_nil | refine PV.leL_cons ?_ ?_ | refine And.intro ?_ ?_ | refine ix_map (fun x hx => ?_) | refine exU8 ?_ | refine nilc (fun hn => ?_) ?_ | exact cl3 | refine imp0 (fun hpos => ?_) | refine fits_i64 ?_ ?_ | exact rfl | exact trivial | (first | refine stq ?_ | fail)))) <;> (try exact cl5)
end Go.Proofs.Ytgclicahmbgfiaa.Cd

namespace Go.Proofs.Ytgclicahmbgfiaa.Cd
open Go Go.Sg
set_option maxRecDepth 100000
set_option maxHeartbeats 40000000
theorem lenD_facts {b : List Int} {n : Nat} {r : List Int} (h : lenD b = some (n, r)) (hB : B8 b) : n ≤ r.length ∧ r.length < b.length ∧ B8 r := by
  unfold lenD at h
  cases hn : numD b 0 0 with
  | none => rw [hn] at h; cases h
  | some x =>
    rw [hn] at h; simp only at h
    split at h
    · obtain ⟨_, f2, f3⟩ := num0 (v := x.1) (r := x.2) hn hB
      injection h with h; injection h with e1 e2; subst e1; subst e2; exact ⟨by assumption, f2, f3⟩
    · cases h
theorem repD_facts {f : List Int → Option (Vl × List Int)} (hf : ∀ b v r, f b = some (v, r) → B8 b → B8 r ∧ r.length < b.length) : ∀ (n : Nat) (b : List Int) (l : List Vl) (r : List Int), repD f n b = some (l, r) → B8 b → B8 r ∧ r.length ≤ b.length ∧ l.length = n
  | 0, b, l, r, h, hB => by
    unfold repD at h
    injection h with h; injection h with e1 e2; subst e1; subst e2
    exact ⟨hB, Nat.le_refl _, rfl⟩
  | n + 1, b, l, r, h, hB => by
    unfold repD at h
    cases hv : f b with
    | none => rw [hv] at h; cases h
    | some y =>
      obtain ⟨v, b'⟩ := y
      rw [hv] at h; simp only at h
      cases hq : repD f n b' with
      | none => rw [hq] at h; cases h
      | some z =>
        obtain ⟨l', r'⟩ := z
        rw [hq] at h; simp only at h
        injection h with h; injection h with e1 e2; subst e1; subst e2
        obtain ⟨a1, a2⟩ := hf b v b' hv hB
        obtain ⟨b1, b2, b3⟩ := repD_facts hf n b' l' r' hq a1
        exact ⟨b1, by omega, by simp [b3]⟩
theorem valD_facts : ∀ (k : Nat) (b : List Int) (v : Vl) (r : List Int), valD k b = some (v, r) → B8 b → B8 r ∧ r.length < b.length := by
  intro k
  induction k with
  | zero =>
    intro b v r h hB
    cases b with
    | nil => cases h
    | cons c b =>
      have hB' : B8 b := fun x hx => hB x (by simp [hx])
      unfold valD at h
      split at h
      · cases hn : numD b 0 0 with
        | none => rw [hn] at h; cases h
        | some y =>
          obtain ⟨u, s⟩ := y
          rw [hn] at h; simp only at h
          injection h with h; injection h with e1 e2; subst e2
          obtain ⟨_, a2, a3⟩ := num0 hn hB'
          exact ⟨a3, by simp; omega⟩
      · split at h
        · cases hn : lenD b with
          | none => rw [hn] at h; cases h
          | some y =>
            obtain ⟨u, s⟩ := y
            rw [hn] at h; simp only at h
            injection h with h; injection h with e1 e2; subst e2
            obtain ⟨a1, a2, a3⟩ := lenD_facts hn hB'
            exact ⟨fun x hx => a3 x (List.mem_of_mem_drop hx), by simp; omega⟩
        · split at h <;> cases h
  | succ k ih =>
    intro b v r h hB
    cases b with
    | nil => cases h
    | cons c b =>
      have hB' : B8 b := fun x hx => hB x (by simp [hx])
      unfold valD at h
      split at h
      · cases hn : numD b 0 0 with
        | none => rw [hn] at h; cases h
        | some y =>
          obtain ⟨u, s⟩ := y
          rw [hn] at h; simp only at h
          injection h with h; injection h with e1 e2; subst e2
          obtain ⟨_, a2, a3⟩ := num0 hn hB'
          exact ⟨a3, by simp; omega⟩
      · split at h
        · cases hn : lenD b with
          | none => rw [hn] at h; cases h
          | some y =>
            obtain ⟨u, s⟩ := y
            rw [hn] at h; simp only at h
            injection h with h; injection h with e1 e2; subst e2
            obtain ⟨a1, a2, a3⟩ := lenD_facts hn hB'
            exact ⟨fun x hx => a3 x (List.mem_of_mem_drop hx), by simp; omega⟩
        · split at h
          · cases hn : lenD b with
            | none => rw [hn] at h; cases h
            | some y =>
              obtain ⟨n, s⟩ := y
              rw [hn] at h; simp only at h
              cases hq : repD (valD k) n s with
              | none => rw [hq] at h; cases h
              | some z =>
                obtain ⟨l, s'⟩ := z
                rw [hq] at h; simp only at h
                injection h with h; injection h with e1 e2; subst e2
                obtain ⟨a1, a2, a3⟩ := lenD_facts hn hB'
                obtain ⟨b1, b2, _⟩ := repD_facts ih n s l s' hq a3
                exact ⟨b1, by simp; omega⟩
          · cases h
def accV : List Vl → AV
  | [] => .p (.sl 0 true [])
  | a :: r => .rsl 2 4 0 (a :: r).length
def accH : List Vl → Heap
  | [] => []
  | a :: r => [(2, .row 4 ((a :: r).map eV))]
theorem VLe.val {σ : Heap} {Z : Nat → Prop} {ρ : Nat → Option Nat} {o len : Nat} {l : List PV} {k n s : PV} (ho : Z o) (hc : σ.get o = .row 4 l) (hl : l.length = len) : VLe σ Z ρ (.agg [.p k, .p n, .p s, .rsl o 4 0 len]) (.p (.agg [k, n, s, .sl 4 false l])) := by
  have h := Frz.rsl (i := 0) (len := len) ho hc (by decide) (by omega)
  rw [List.drop_zero, List.take_of_length_le (by omega)] at h
  exact VLe.frz (Frz.agg (FrzL.cons (Frz.refl _) (FrzL.cons (Frz.refl _) (FrzL.cons (Frz.refl _) (FrzL.cons h FrzL.nil)))))
theorem value_list (k : Nat) (hk : k < 16) (b : List Int) (hb : (3 :: b).length < 1000000) (hB : B8 b) (n : Nat) (r : List Int) (h : lenD b = some (n, r)) (l : List Vl) (s : List Int) (hr : repD (valD k) n r = some (l, s))
    (ih : ∀ b, b.length < 1000000 → B8 b → ∀ v r, valD k b = some (v, r) → ICalls Try.prog 59 1 [(0, .cells [.p (eR b)])] [.ptr 0 0, .p (eI (16 - k))] (.p (eW v)) [(0, .cells [.p (eR r)])]) :
    ICalls Try.prog 59 1 [(0, .cells [.p (eR (3 :: b))])] [.ptr 0 0, .p (eI (16 - ((k + 1 : Nat) : Int)))] (.p (eW (.mk 3 0 ByteArray.empty l))) [(0, .cells [.p (eR s)])] := by
  have hb' : b.length < 1000000 := Nat.lt_of_succ_lt hb
  have q1 := take_yes (3 :: b) 1 (by simp) hb
  obtain ⟨f1, f2, f3⟩ := lenD_facts h hB
  have q2 := length_yes b hb' hB n r h
  have hlt : (16 - ((k + 1 : Nat) : Int)) < 16 := by omega
  have w1 := want_yes (eR b)
  rw [← decide_eq_true hlt] at w1
  have hix : (List.take 1 (3 :: b))[Int.toNat 0]? = some 3 := rfl
  have h1 : ¬ IntKind.i64.wrap 3 = 1 := by decide
  have h2 : ¬ IntKind.i64.wrap 3 = 2 := by decide
  have h3 : IntKind.i64.wrap 3 = 3 := by decide
  refine ICalls.of (N := 50) (res := [.cell 4 57]) mixed Try.func59 rfl rfl rfl (by kernel_rfl) (by simp) [0, 1, 4, 12, 15, 21, 29, 36, 37, 38] (Nat.le_refl _) ?_
  repeat' (first | exact cl1 | ((with_reducible show Exists _); first | exact exHM _ | refine exU8 ?_) | ((with_reducible show callX _ _ _ _ _); (first | refine call_i [0] (q1) (by kernel_rfl) rfl rfl (by decide) cl6 (fun i hi => by match i, hi with | 0, _ => rfl) cl7 cl8 (by simp [keys]) ?_ | refine call_i [0] (w1) (by kernel_rfl) rfl rfl (by decide) cl6 (fun i hi => by match i, hi with | 0, _ => rfl) cl7 cl8 (by simp [keys]) ?_ | refine call_i [0] (q2) (by kernel_rfl) rfl rfl (by decide) cl6 (fun i hi => by match i, hi with | 0, _ => rfl) cl7 cl8 (by simp [keys]) ?_)) | ((fail_if_success refine stp ?_); (conv => whnf) <;> (first | exact cl2 | refine ix_at hix ?_ | refine Br.dec (fun hc => absurd hc h1) (fun hc => ?_) | refine Br.dec (fun hc => absurd hc h2) (fun hc => ?_) | refine Br.dec (fun hc => ?_) (fun hc => absurd h3 hc) | refine XAlt.l ?_ | refine Sq.pr ?_ | refine Br.dec (fun hc => ?_) (fun hc => ?_) | refine Br.tt ?_ | refine Br.ff ?_ | refine Br.not ?_ | refine Br.mk (fun hc => ?_) (fun hc => ?_) | refine Opt.nn ?_ | refine Opt.ss ?_ | refine AltA.l ?_ | exact PV.leL_nil | refine PV.leL_cons ?_ ?_ | refine And.intro ?_ ?_ | refine ix_map (fun x hx => ?_) | refine exU8 ?_ | refine nilc (fun hn => ?_) ?_ | exact cl3 | refine imp0 (fun hpos => ?_) | refine fits_i64 ?_ ?_ | exact rfl | exact trivial | (first | refine stq ?_ | fail)))) <;> (try exact cl5)
  refine Wpc.loopA (α := {x : List Vl × List Int // x.1.length ≤ n ∧ B8 x.2 ∧ x.2.length < 1000000 ∧ ∃ rest, l = x.1 ++ rest ∧ repD (valD k) (n - x.1.length) x.2 = some (rest, s)}) mixed [0, 1, 4, 12, 15, 21, 29, 36, 37, 38]
    (fun x => [(37, .p (eI x.1.1.length))]) (fun x => [(0, .cells [.p (eR x.1.2)]), (1, .cells [.p (eI 3), .p (eI 0), .p (.str ByteArray.empty), accV x.1.1])] ++ accH x.1.1) (fun _ => 0) (fun x => n - x.1.1.length) ⟨([], r), Nat.zero_le _, f3, by show r.length < _; omega, l, rfl, hr⟩ ?_ ?_
  · show Ent _ _ (hdS [0, 1, 4, 12, 15, 21, 29, 36, 37, 38] _ _ _ [(37, .p (eI 0))] [(0, .cells [.p (eR r)]), (1, .cells [.p (eI 3), .p (eI 0), .p (.str ByteArray.empty), .p (.sl 0 true [])])] _)
    (first | refine Ent.ofA [] ?_ | refine Ent.ofC [] ?_) <;> (repeat' (first | exact trivial | refine HpLe.dd ?_ | refine HpLe.mk rfl (by simp) rfl (fun h => AObj.noConfusion h) ?_ ?_ | refine And.intro ?_ ?_ | exact cl9 | refine VLe.pe ?_ | refine VLe.agg ?_ | refine VLe.tup ?_ | refine VLe.fn ?_ ?_ | refine VLeL.cons ?_ ?_ | exact VLeL.nil | exact OLe.row _ _ | rfl | refine VLe.rsle rfl ?_ ?_ ?_ | refine OLe.rowe2 ?_ ?_ | refine OLe.mape ?_ ?_ | refine OLe.iter0 ?_ | refine OLe.itere ?_ ?_ | refine OLe.chane ?_ ?_ | refine OLe.mapSe ?_ ?_ ?_ | exact OLe.mapS0 rfl)) <;> try (first | (simp; done) | (congr 1; omega) | (congr 1; (first | (simp; done) | (simp; omega))))
  rintro ⟨⟨acc, rs⟩, ha, hB2, hb2, rest, hl, hq⟩
  have ha : acc.length ≤ n := ha
  have hB2 : B8 rs := hB2
  have hb2 : rs.length < 1000000 := hb2
  have hl : l = acc ++ rest := hl
  have hq : repD (valD k) (n - acc.length) rs = some (rest, s) := hq
  by_cases hn : acc.length < n
  · have hyes : ((acc.length : Int) < (n : Int)) := by omega
    rw [show n - acc.length = (n - (acc.length + 1)) + 1 by omega] at hq
    unfold repD at hq
    cases hv : valD k rs with
    | none => rw [hv] at hq; cases hq
    | some y =>
      obtain ⟨v, rs'⟩ := y
      rw [hv] at hq
      simp only at hq
      cases hq2 : repD (valD k) (n - (acc.length + 1)) rs' with
      | none => rw [hq2] at hq; cases hq
      | some z =>
        obtain ⟨rest', s'⟩ := z
        rw [hq2] at hq
        simp only at hq
        injection hq with hq; injection hq with e1 e2; subst e1; subst e2
        have q3 := ih rs hb2 hB2 v rs' hv
        rw [show (16 : Int) - (k : Int) = 16 - ((k + 1 : Nat) : Int) + 1 by omega] at q3
        obtain ⟨g1, g2⟩ := valD_facts k rs v rs' hv hB2
        cases acc with
        | nil =>
          repeat' (first | exact cl1 | ((with_reducible show Exists _); first | exact exHM _ | refine exU8 ?_) | ((with_reducible show callX _ _ _ _ _); (first | refine call_i [0] (q3) (by kernel_rfl) rfl rfl (by decide) cl6 (fun i hi => by match i, hi with | 0, _ => rfl) cl7 cl8 (by simp [keys]) ?_)) | ((fail_if_success refine stp ?_); (conv => whnf) <;> (first | exact cl2 | refine Br.dec (fun hc => ?_) (fun hc => absurd hyes hc) | refine XAlt.l ?_ | refine Sq.pr ?_ | refine Br.dec (fun hc => ?_) (fun hc => ?_) | refine Br.tt ?_ | refine Br.ff ?_ | refine Br.not ?_ | refine Br.mk (fun hc => ?_) (fun hc => ?_) | refine Opt.nn ?_ | refine Opt.ss ?_ | refine AltA.l ?_ | exact PV.leL_nil | refine PV.leL_cons ?_ ?_ | refine And.intro ?_ ?_ | refine ix_map (fun x hx => ?_) | refine exU8 ?_ | refine nilc (fun hn => ?_) ?_ | exact cl3 | refine imp0 (fun hpos => ?_) | refine fits_i64 ?_ ?_ | exact rfl | exact trivial | (first | refine stq ?_ | fail)))) <;> (try exact cl5)
          refine ⟨⟨([v], rs'), hn, g1, Nat.lt_trans g2 hb2, rest', hl, hq2⟩, by show n - 1 < n - 0; omega, ?_⟩
          (first | refine Ent.ofA [] ?_ | refine Ent.ofC [] ?_) <;> (repeat' (first | exact trivial | refine HpLe.dd ?_ | refine HpLe.mk rfl (by simp) rfl (fun h => AObj.noConfusion h) ?_ ?_ | refine And.intro ?_ ?_ | exact cl9 | refine VLe.pe ?_ | refine VLe.agg ?_ | refine VLe.tup ?_ | refine VLe.fn ?_ ?_ | refine VLeL.cons ?_ ?_ | exact VLeL.nil | exact OLe.row _ _ | rfl | refine VLe.rsle rfl ?_ ?_ ?_ | refine OLe.rowe2 ?_ ?_ | refine OLe.mape ?_ ?_ | refine OLe.iter0 ?_ | refine OLe.itere ?_ ?_ | refine OLe.chane ?_ ?_ | refine OLe.mapSe ?_ ?_ ?_ | exact OLe.mapS0 rfl)) <;> try (first | (simp; done) | (congr 1; omega) | (congr 1; (first | (simp; done) | (simp; omega))))
          all_goals simp [eV_eq]
        | cons a acc =>
          repeat' (first | exact cl1 | ((with_reducible show Exists _); first | exact exHM _ | refine exU8 ?_) | ((with_reducible show callX _ _ _ _ _); (first | refine call_i [0] (q3) (by kernel_rfl) rfl rfl (by decide) cl6 (fun i hi => by match i, hi with | 0, _ => rfl) cl7 cl8 (by simp [keys]) ?_)) | ((fail_if_success refine stp ?_); (conv => whnf) <;> (first | exact cl2 | refine Br.dec (fun hc => ?_) (fun hc => absurd hyes hc) | refine XAlt.l ?_ | refine Sq.pr ?_ | refine Br.dec (fun hc => ?_) (fun hc => ?_) | refine Br.tt ?_ | refine Br.ff ?_ | refine Br.not ?_ | refine Br.mk (fun hc => ?_) (fun hc => ?_) | refine Opt.nn ?_ | refine Opt.ss ?_ | refine AltA.l ?_ | exact PV.leL_nil | refine PV.leL_cons ?_ ?_ | refine And.intro ?_ ?_ | refine ix_map (fun x hx => ?_) | refine exU8 ?_ | refine nilc (fun hn => ?_) ?_ | exact cl3 | refine imp0 (fun hpos => ?_) | refine fits_i64 ?_ ?_ | exact rfl | exact trivial | (first | refine stq ?_ | fail)))) <;> (try exact cl5)
          refine ⟨⟨((a :: acc) ++ [v], rs'), by show ((a :: acc) ++ [v]).length ≤ n; simp at hn ⊢; omega, g1, Nat.lt_trans g2 hb2, rest', by rw [hl]; simp, by show repD (valD k) (n - ((a :: acc) ++ [v]).length) rs' = _; rw [← hq2]; simp⟩, by show n - ((a :: acc) ++ [v]).length < n - (a :: acc).length; simp at hn ⊢; omega, ?_⟩
          (first | refine Ent.ofA [] ?_ | refine Ent.ofC [] ?_) <;> (repeat' (first | exact trivial | refine HpLe.dd ?_ | refine HpLe.mk rfl (by simp) rfl (fun h => AObj.noConfusion h) ?_ ?_ | refine And.intro ?_ ?_ | exact cl9 | refine VLe.pe ?_ | refine VLe.agg ?_ | refine VLe.tup ?_ | refine VLe.fn ?_ ?_ | refine VLeL.cons ?_ ?_ | exact VLeL.nil | exact OLe.row _ _ | rfl | refine VLe.rsle rfl ?_ ?_ ?_ | refine OLe.rowe2 ?_ ?_ | refine OLe.mape ?_ ?_ | refine OLe.iter0 ?_ | refine OLe.itere ?_ ?_ | refine OLe.chane ?_ ?_ | refine OLe.mapSe ?_ ?_ ?_ | exact OLe.mapS0 rfl)) <;> try (first | (simp; done) | (congr 1; omega) | (congr 1; (first | (simp; done) | (simp; omega))))
          all_goals simp [eV_eq]
  · have hno : ¬ ((acc.length : Int) < (n : Int)) := by omega
    rw [show n - acc.length = 0 by omega] at hq
    unfold repD at hq
    injection hq with hq; injection hq with e1 e2; subst e1; subst e2
    rw [List.append_nil] at hl
    subst hl
    cases l with
    | nil =>
      repeat' (first | exact cl1 | ((with_reducible show Exists _); first | exact exHM _ | refine exU8 ?_) | ((fail_if_success refine stp ?_); (conv => whnf) <;> (first | exact cl2 | refine Br.dec (fun hc => absurd hc hno) (fun hc => ?_) | refine XAlt.l ?_ | refine Sq.pr ?_ | refine Br.dec (fun hc => ?_) (fun hc => ?_) | refine Br.tt ?_ | refine Br.ff ?_ | refine Br.not ?_ | refine Br.mk (fun hc => ?_) (fun hc => ?_) | refine Opt.nn ?_ | refine Opt.ss ?_ | refine AltA.l ?_ | exact PV.leL_nil | refine PV.leL_cons ?_ ?_ | refine And.intro ?_ ?_ | refine ix_map (fun x hx => ?_) | refine exU8 ?_ | refine nilc (fun hn => ?_) ?_ | exact cl3 | refine imp0 (fun hpos => ?_) | refine fits_i64 ?_ ?_ | exact rfl | exact trivial | (first | refine stq ?_ | fail)))) <;> (try exact cl5)
      refine ⟨[], [(0, 0)], VLe.p le_val, ?_, by decide, by simp, fun i hi => by match i, hi with | 0, _ => rfl⟩
      (repeat' (first | exact trivial | refine HpLe.dd ?_ | refine HpLe.mk rfl (by simp) rfl (fun h => AObj.noConfusion h) ?_ ?_ | refine And.intro ?_ ?_ | exact cl9 | refine VLe.pe ?_ | refine VLe.agg ?_ | refine VLe.tup ?_ | refine VLe.fn ?_ ?_ | refine VLeL.cons ?_ ?_ | exact VLeL.nil | exact OLe.row _ _ | rfl | refine VLe.rsle rfl ?_ ?_ ?_ | refine OLe.rowe2 ?_ ?_ | refine OLe.mape ?_ ?_ | refine OLe.iter0 ?_ | refine OLe.itere ?_ ?_ | refine OLe.chane ?_ ?_ | refine OLe.mapSe ?_ ?_ ?_ | exact OLe.mapS0 rfl))
    | cons a r =>
      repeat' (first | exact cl1 | ((with_reducible show Exists _); first | exact exHM _ | refine exU8 ?_) | ((fail_if_success refine stp ?_); (conv => whnf) <;> (first | exact cl2 | refine Br.dec (fun hc => absurd hc hno) (fun hc => ?_) | refine XAlt.l ?_ | refine Sq.pr ?_ | refine Br.dec (fun hc => ?_) (fun hc => ?_) | refine Br.tt ?_ | refine Br.ff ?_ | refine Br.not ?_ | refine Br.mk (fun hc => ?_) (fun hc => ?_) | refine Opt.nn ?_ | refine Opt.ss ?_ | refine AltA.l ?_ | exact PV.leL_nil | refine PV.leL_cons ?_ ?_ | refine And.intro ?_ ?_ | refine ix_map (fun x hx => ?_) | refine exU8 ?_ | refine nilc (fun hn => ?_) ?_ | exact cl3 | refine imp0 (fun hpos => ?_) | refine fits_i64 ?_ ?_ | exact rfl | exact trivial | (first | refine stq ?_ | fail)))) <;> (try exact cl5)
      refine ⟨[2], [(0, 0)], VLe.val (show (2 : Nat) ∈ [2] by simp) rfl (by simp [Vl.l]), ?_, by decide, by simp, fun i hi => by match i, hi with | 0, _ => rfl⟩
      (repeat' (first | exact trivial | refine HpLe.dd ?_ | refine HpLe.mk rfl (by simp) rfl (fun h => AObj.noConfusion h) ?_ ?_ | refine And.intro ?_ ?_ | exact cl9 | refine VLe.pe ?_ | refine VLe.agg ?_ | refine VLe.tup ?_ | refine VLe.fn ?_ ?_ | refine VLeL.cons ?_ ?_ | exact VLeL.nil | exact OLe.row _ _ | rfl | refine VLe.rsle rfl ?_ ?_ ?_ | refine OLe.rowe2 ?_ ?_ | refine OLe.mape ?_ ?_ | refine OLe.iter0 ?_ | refine OLe.itere ?_ ?_ | refine OLe.chane ?_ ?_ | refine OLe.mapSe ?_ ?_ ?_ | exact OLe.mapS0 rfl))
theorem value_list_no (k : Nat) (hk : k < 16) (b : List Int) (hb : (3 :: b).length < 1000000) (hB : B8 b) (n : Nat) (r : List Int) (h : lenD b = some (n, r)) (hr : repD (valD k) n r = none)
    (ih : ∀ b, b.length < 1000000 → B8 b → ∀ v r, valD k b = some (v, r) → ICalls Try.prog 59 1 [(0, .cells [.p (eR b)])] [.ptr 0 0, .p (eI (16 - k))] (.p (eW v)) [(0, .cells [.p (eR r)])])
    (ihx : ∀ b, b.length < 1000000 → B8 b → valD k b = none → XCalls Try.prog 59 1 [(0, .cells [.p (eR b)])] [.ptr 0 0, .p (eI (16 - k))] errC) :
    XCalls Try.prog 59 1 [(0, .cells [.p (eR (3 :: b))])] [.ptr 0 0, .p (eI (16 - ((k + 1 : Nat) : Int)))] errC := by
  have hb' : b.length < 1000000 := Nat.lt_of_succ_lt hb
  have q1 := take_yes (3 :: b) 1 (by simp) hb
  obtain ⟨f1, f2, f3⟩ := lenD_facts h hB
  have q2 := length_yes b hb' hB n r h
  have hlt : (16 - ((k + 1 : Nat) : Int)) < 16 := by omega
  have w1 := want_yes (eR b)
  rw [← decide_eq_true hlt] at w1
  have hix : (List.take 1 (3 :: b))[Int.toNat 0]? = some 3 := rfl
  have h1 : ¬ IntKind.i64.wrap 3 = 1 := by decide
  have h2 : ¬ IntKind.i64.wrap 3 = 2 := by decide
  have h3 : IntKind.i64.wrap 3 = 3 := by decide
  refine XCalls.of (N := 50) (res := [.cell 4 57]) mixed Try.func59 rfl rfl rfl (by kernel_rfl) (by simp) [0, 1, 4, 12, 15, 21, 29, 36, 37, 38] (Nat.le_refl _) (by first | rfl | kernel_rfl) ?_
  repeat' (first | exact cl1 | ((with_reducible show Exists _); first | exact exHM _ | refine exU8 ?_) | ((with_reducible show callX _ _ _ _ _); (first | refine call_i [0] (q1) (by kernel_rfl) rfl rfl (by decide) cl6 (fun i hi => by match i, hi with | 0, _ => rfl) cl7 cl8 (by simp [keys]) ?_ | refine call_i [0] (w1) (by kernel_rfl) rfl rfl (by decide) cl6 (fun i hi => by match i, hi with | 0, _ => rfl) cl7 cl8 (by simp [keys]) ?_ | refine call_i [0] (q2) (by kernel_rfl) rfl rfl (by decide) cl6 (fun i hi => by match i, hi with | 0, _ => rfl) cl7 cl8 (by simp [keys]) ?_)) | ((fail_if_success refine stp ?_); (conv => whnf) <;> (first | exact cl2 | refine ix_at hix ?_ | refine Br.dec (fun hc => absurd hc h1) (fun hc => ?_) | refine Br.dec (fun hc => absurd hc h2) (fun hc => ?_) | refine Br.dec (fun hc => ?_) (fun hc => absurd h3 hc) | refine XAlt.l ?_ | refine Sq.pr ?_ | refine Br.dec (fun hc => ?_) (fun hc => ?_) | refine Br.tt ?_ | refine Br.ff ?_ | refine Br.not ?_ | refine Br.mk (fun hc => ?_) (fun hc => ?_) | refine Opt.nn ?_ | refine Opt.ss ?_ | refine AltA.l ?_ | exact PV.leL_nil | refine PV.leL_cons ?_ ?_ | refine And.intro ?_ ?_ | refine ix_map (fun x hx => ?_) | refine exU8 ?_ | refine nilc (fun hn => ?_) ?_ | exact cl3 | refine imp0 (fun hpos => ?_) | refine fits_i64 ?_ ?_ | exact rfl | exact trivial | (first | refine stq ?_ | fail)))) <;> (try exact cl5)
  refine Wpc.loopA (α := {x : List Vl × List Int // x.1.length ≤ n ∧ B8 x.2 ∧ x.2.length < 1000000 ∧ repD (valD k) (n - x.1.length) x.2 = none}) mixed [0, 1, 4, 12, 15, 21, 29, 36, 37, 38]
    (fun x => [(37, .p (eI x.1.1.length))]) (fun x => [(0, .cells [.p (eR x.1.2)]), (1, .cells [.p (eI 3), .p (eI 0), .p (.str ByteArray.empty), accV x.1.1])] ++ accH x.1.1) (fun _ => 0) (fun x => n - x.1.1.length) ⟨([], r), Nat.zero_le _, f3, by show r.length < _; omega, hr⟩ ?_ ?_
  · show Ent _ _ (hdS [0, 1, 4, 12, 15, 21, 29, 36, 37, 38] _ _ _ [(37, .p (eI 0))] [(0, .cells [.p (eR r)]), (1, .cells [.p (eI 3), .p (eI 0), .p (.str ByteArray.empty), .p (.sl 0 true [])])] _)
    (first | refine Ent.ofA [] ?_ | refine Ent.ofC [] ?_) <;> (repeat' (first | exact trivial | refine HpLe.dd ?_ | refine HpLe.mk rfl (by simp) rfl (fun h => AObj.noConfusion h) ?_ ?_ | refine And.intro ?_ ?_ | exact cl9 | refine VLe.pe ?_ | refine VLe.agg ?_ | refine VLe.tup ?_ | refine VLe.fn ?_ ?_ | refine VLeL.cons ?_ ?_ | exact VLeL.nil | exact OLe.row _ _ | rfl | refine VLe.rsle rfl ?_ ?_ ?_ | refine OLe.rowe2 ?_ ?_ | refine OLe.mape ?_ ?_ | refine OLe.iter0 ?_ | refine OLe.itere ?_ ?_ | refine OLe.chane ?_ ?_ | refine OLe.mapSe ?_ ?_ ?_ | exact OLe.mapS0 rfl)) <;> try (first | (simp; done) | (congr 1; omega) | (congr 1; (first | (simp; done) | (simp; omega))))
  rintro ⟨⟨acc, rs⟩, ha, hB2, hb2, hq⟩
  have ha : acc.length ≤ n := ha
  have hB2 : B8 rs := hB2
  have hb2 : rs.length < 1000000 := hb2
  have hq : repD (valD k) (n - acc.length) rs = none := hq
  by_cases hn : acc.length < n
  · have hyes : ((acc.length : Int) < (n : Int)) := by omega
    rw [show n - acc.length = (n - (acc.length + 1)) + 1 by omega] at hq
    unfold repD at hq
    cases hv : valD k rs with
    | none =>
      have q3 := ihx rs hb2 hB2 hv
      rw [show (16 : Int) - (k : Int) = 16 - ((k + 1 : Nat) : Int) + 1 by omega] at q3
      cases acc with
      | nil => repeat' (first | exact cl1 | ((with_reducible show Exists _); first | exact exHM _ | refine exU8 ?_) | ((fail_if_success refine stp ?_); (conv => whnf) <;> (first | exact cl2 | refine Br.dec (fun hc => ?_) (fun hc => absurd hyes hc) | (refine XAlt.r ?_; (conv => whnf); refine call_x [0] (q3) (by kernel_rfl) rfl rfl (by decide) cl6 (fun i hi => by match i, hi with | 0, _ => rfl) cl7 ?_) | refine XAlt.l ?_ | refine Sq.pr ?_ | refine Br.dec (fun hc => ?_) (fun hc => ?_) | refine Br.tt ?_ | refine Br.ff ?_ | refine Br.not ?_ | refine Br.mk (fun hc => ?_) (fun hc => ?_) | refine Opt.nn ?_ | refine Opt.ss ?_ | refine AltA.l ?_ | exact PV.leL_nil | refine PV.leL_cons ?_ ?_ | refine And.intro ?_ ?_ | refine ix_map (fun x hx => ?_) | refine exU8 ?_ | refine nilc (fun hn => ?_) ?_ | exact cl3 | refine imp0 (fun hpos => ?_) | refine fits_i64 ?_ ?_ | exact rfl | exact trivial | (first | refine stq ?_ | fail)))) <;> (try exact cl5)
      | cons a acc => repeat' (first | exact cl1 | ((with_reducible show Exists _); first | exact exHM _ | refine exU8 ?_) | ((fail_if_success refine stp ?_); (conv => whnf) <;> (first | exact cl2 | refine Br.dec (fun hc => ?_) (fun hc => absurd hyes hc) | (refine XAlt.r ?_; (conv => whnf); refine call_x [0] (q3) (by kernel_rfl) rfl rfl (by decide) cl6 (fun i hi => by match i, hi with | 0, _ => rfl) cl7 ?_) | refine XAlt.l ?_ | refine Sq.pr ?_ | refine Br.dec (fun hc => ?_) (fun hc => ?_) | refine Br.tt ?_ | refine Br.ff ?_ | refine Br.not ?_ | refine Br.mk (fun hc => ?_) (fun hc => ?_) | refine Opt.nn ?_ | refine Opt.ss ?_ | refine AltA.l ?_ | exact PV.leL_nil | refine PV.leL_cons ?_ ?_ | refine And.intro ?_ ?_ | refine ix_map (fun x hx => ?_) | refine exU8 ?_ | refine nilc (fun hn => ?_) ?_ | exact cl3 | refine imp0 (fun hpos => ?_) | refine fits_i64 ?_ ?_ | exact rfl | exact trivial | (first | refine stq ?_ | fail)))) <;> (try exact cl5)
    | some y =>
      obtain ⟨v, rs'⟩ := y
      rw [hv] at hq
      simp only at hq
      cases hq2 : repD (valD k) (n - (acc.length + 1)) rs' with
      | some z =>
        obtain ⟨rest', s'⟩ := z
        rw [hq2] at hq; cases hq
      | none =>
        have q3 := ih rs hb2 hB2 v rs' hv
        rw [show (16 : Int) - (k : Int) = 16 - ((k + 1 : Nat) : Int) + 1 by omega] at q3
        obtain ⟨g1, g2⟩ := valD_facts k rs v rs' hv hB2
        cases acc with
        | nil =>
          repeat' (first | exact cl1 | ((with_reducible show Exists _); first | exact exHM _ | refine exU8 ?_) | ((with_reducible show callX _ _ _ _ _); (first | refine call_i [0] (q3) (by kernel_rfl) rfl rfl (by decide) cl6 (fun i hi => by match i, hi with | 0, _ => rfl) cl7 cl8 (by simp [keys]) ?_)) | ((fail_if_success refine stp ?_); (conv => whnf) <;> (first | exact cl2 | refine Br.dec (fun hc => ?_) (fun hc => absurd hyes hc) | refine XAlt.l ?_ | refine Sq.pr ?_ | refine Br.dec (fun hc => ?_) (fun hc => ?_) | refine Br.tt ?_ | refine Br.ff ?_ | refine Br.not ?_ | refine Br.mk (fun hc => ?_) (fun hc => ?_) | refine Opt.nn ?_ | refine Opt.ss ?_ | refine AltA.l ?_ | exact PV.leL_nil | refine PV.leL_cons ?_ ?_ | refine And.intro ?_ ?_ | refine ix_map (fun x hx => ?_) | refine exU8 ?_ | refine nilc (fun hn => ?_) ?_ | exact cl3 | refine imp0 (fun hpos => ?_) | refine fits_i64 ?_ ?_ | exact rfl | exact trivial | (first | refine stq ?_ | fail)))) <;> (try exact cl5)
          refine ⟨⟨([v], rs'), hn, g1, Nat.lt_trans g2 hb2, hq2⟩, by show n - 1 < n - 0; omega, ?_⟩
          (first | refine Ent.ofA [] ?_ | refine Ent.ofC [] ?_) <;> (repeat' (first | exact trivial | refine HpLe.dd ?_ | refine HpLe.mk rfl (by simp) rfl (fun h => AObj.noConfusion h) ?_ ?_ | refine And.intro ?_ ?_ | exact cl9 | refine VLe.pe ?_ | refine VLe.agg ?_ | refine VLe.tup ?_ | refine VLe.fn ?_ ?_ | refine VLeL.cons ?_ ?_ | exact VLeL.nil | exact OLe.row _ _ | rfl | refine VLe.rsle rfl ?_ ?_ ?_ | refine OLe.rowe2 ?_ ?_ | refine OLe.mape ?_ ?_ | refine OLe.iter0 ?_ | refine OLe.itere ?_ ?_ | refine OLe.chane ?_ ?_ | refine OLe.mapSe ?_ ?_ ?_ | exact OLe.mapS0 rfl)) <;> try (first | (simp; done) | (congr 1; omega) | (congr 1; (first | (simp; done) | (simp; omega))))
          all_goals simp [eV_eq]
        | cons a acc =>
          repeat' (first | exact cl1 | ((with_reducible show Exists _); first | exact exHM _ | refine exU8 ?_) | ((with_reducible show callX _ _ _ _ _); (first | refine call_i [0] (q3) (by kernel_rfl) rfl rfl (by decide) cl6 (fun i hi => by match i, hi with | 0, _ => rfl) cl7 cl8 (by simp [keys]) ?_)) | ((fail_if_success refine stp ?_); (conv => whnf) <;> (first | exact cl2 | refine Br.dec (fun hc => ?_) (fun hc => absurd hyes hc) | refine XAlt.l ?_ | refine Sq.pr ?_ | refine Br.dec (fun hc => ?_) (fun hc => ?_) | refine Br.tt ?_ | refine Br.ff ?_ | refine Br.not ?_ | refine Br.mk (fun hc => ?_) (fun hc => ?_) | refine Opt.nn ?_ | refine Opt.ss ?_ | refine AltA.l ?_ | exact PV.leL_nil | refine PV.leL_cons ?_ ?_ | refine And.intro ?_ ?_ | refine ix_map (fun x hx => ?_) | refine exU8 ?_ | refine nilc (fun hn => ?_) ?_ | exact cl3 | refine imp0 (fun hpos => ?_) | refine fits_i64 ?_ ?_ | exact rfl | exact trivial | (first | refine stq ?_ | fail)))) <;> (try exact cl5)
          refine ⟨⟨((a :: acc) ++ [v], rs'), by show ((a :: acc) ++ [v]).length ≤ n; simp at hn ⊢; omega, g1, Nat.lt_trans g2 hb2, by show repD (valD k) (n - ((a :: acc) ++ [v]).length) rs' = _; rw [← hq2]; simp⟩, by show n - ((a :: acc) ++ [v]).length < n - (a :: acc).length; simp at hn ⊢; omega, ?_⟩
          (first | refine Ent.ofA [] ?_ | refine Ent.ofC [] ?_) <;> (repeat' (first | exact trivial | refine HpLe.dd ?_ | refine HpLe.mk rfl (by simp) rfl (fun h => AObj.noConfusion h) ?_ ?_ | refine And.intro ?_ ?_ | exact cl9 | refine VLe.pe ?_ | refine VLe.agg ?_ | refine VLe.tup ?_ | refine VLe.fn ?_ ?_ | refine VLeL.cons ?_ ?_ | exact VLeL.nil | exact OLe.row _ _ | rfl | refine VLe.rsle rfl ?_ ?_ ?_ | refine OLe.rowe2 ?_ ?_ | refine OLe.mape ?_ ?_ | refine OLe.iter0 ?_ | refine OLe.itere ?_ ?_ | refine OLe.chane ?_ ?_ | refine OLe.mapSe ?_ ?_ ?_ | exact OLe.mapS0 rfl)) <;> try (first | (simp; done) | (congr 1; omega) | (congr 1; (first | (simp; done) | (simp; omega))))
          all_goals simp [eV_eq]
  · rw [show n - acc.length = 0 by omega] at hq
    unfold repD at hq
    cases hq
theorem value_deep2_no (k : Nat) (hk : k < 16) (b : List Int) (hb : (3 :: b).length < 1000000) (hB : B8 b) (h : lenD b = none) :
    XCalls Try.prog 59 1 [(0, .cells [.p (eR (3 :: b))])] [.ptr 0 0, .p (eI (16 - ((k + 1 : Nat) : Int)))] errC := by
  have hb' : b.length < 1000000 := Nat.lt_of_succ_lt hb
  have q1 := take_yes (3 :: b) 1 (by simp) hb
  have q2 := length_no b hb' hB h
  have hlt : (16 - ((k + 1 : Nat) : Int)) < 16 := by omega
  have w1 := want_yes (eR b)
  rw [← decide_eq_true hlt] at w1
  have hix : (List.take 1 (3 :: b))[Int.toNat 0]? = some 3 := rfl
  have h1 : ¬ IntKind.i64.wrap 3 = 1 := by decide
  have h2 : ¬ IntKind.i64.wrap 3 = 2 := by decide
  have h3 : IntKind.i64.wrap 3 = 3 := by decide
  refine XCalls.of (N := 50) (res := [.cell 4 57]) mixed Try.func59 rfl rfl rfl (by kernel_rfl) (by simp) [0, 1, 4, 12, 15, 21, 29, 36, 37, 38] (Nat.le_refl _) (by first | rfl | kernel_rfl) ?_
  repeat' (first | exact cl1 | ((with_reducible show Exists _); first | exact exHM _ | refine exU8 ?_) | ((with_reducible show callX _ _ _ _ _); (first | refine call_i [0] (q1) (by kernel_rfl) rfl rfl (by decide) cl6 (fun i hi => by match i, hi with | 0, _ => rfl) cl7 cl8 (by simp [keys]) ?_ | refine call_i [0] (w1) (by kernel_rfl) rfl rfl (by decide) cl6 (fun i hi => by match i, hi with | 0, _ => rfl) cl7 cl8 (by simp [keys]) ?_)) | ((fail_if_success refine stp ?_); (conv => whnf) <;> (first | exact cl2 | refine ix_at hix ?_ | refine Br.dec (fun hc => absurd hc h1) (fun hc => ?_) | refine Br.dec (fun hc => absurd hc h2) (fun hc => ?_) | refine Br.dec (fun hc => ?_) (fun hc => absurd h3 hc) | (refine XAlt.r ?_; (conv => whnf); refine call_x [0] (q2) (by kernel_rfl) rfl rfl (by decide) cl6 (fun i hi => by match i, hi with | 0, _ => rfl) cl7 ?_) | refine XAlt.l ?_ | refine Sq.pr ?_ | refine Br.dec (fun hc => ?_) (fun hc => ?_) | refine Br.tt ?_ | refine Br.ff ?_ | refine Br.not ?_ | refine Br.mk (fun hc => ?_) (fun hc => ?_) | refine Opt.nn ?_ | refine Opt.ss ?_ | refine AltA.l ?_ | exact PV.leL_nil | refine PV.leL_cons ?_ ?_ | refine And.intro ?_ ?_ | refine ix_map (fun x hx => ?_) | refine exU8 ?_ | refine nilc (fun hn => ?_) ?_ | exact cl3 | refine imp0 (fun hpos => ?_) | refine fits_i64 ?_ ?_ | exact rfl | exact trivial | (first | refine stq ?_ | fail)))) <;> (try exact cl5)
theorem value_both : ∀ k, k ≤ 16 → ∀ b, b.length < 1000000 → B8 b →
    (∀ v r, valD k b = some (v, r) → ICalls Try.prog 59 1 [(0, .cells [.p (eR b)])] [.ptr 0 0, .p (eI (16 - (k : Int)))] (.p (eW v)) [(0, .cells [.p (eR r)])]) ∧
    (valD k b = none → XCalls Try.prog 59 1 [(0, .cells [.p (eR b)])] [.ptr 0 0, .p (eI (16 - (k : Int)))] errC) := by
  intro k
  induction k with
  | zero =>
    intro _ b hb hB
    cases b with
    | nil => exact ⟨fun v r h => (by cases h), fun _ => value_nil_no _⟩
    | cons c b =>
      have hB' : B8 b := fun x hx => hB x (by simp [hx])
      by_cases k1 : c = 1
      · subst k1
        refine ⟨fun v r h => ?_, fun h => ?_⟩
        · unfold valD at h
          rw [if_pos rfl] at h
          cases hn : numD b 0 0 with
          | none => rw [hn] at h; cases h
          | some y =>
            obtain ⟨u, s⟩ := y
            rw [hn] at h; simp only at h
            injection h with h; injection h with e1 e2; subst e1; subst e2
            exact value_int b hb hB' _ u s hn
        · unfold valD at h
          rw [if_pos rfl] at h
          cases hn : numD b 0 0 with
          | none => exact value_int_no b hb hB' _ hn
          | some y => rw [hn] at h; cases h
      by_cases k2 : c = 2
      · subst k2
        refine ⟨fun v r h => ?_, fun h => ?_⟩
        · unfold valD at h
          rw [if_neg (by decide), if_pos rfl] at h
          cases hn : lenD b with
          | none => rw [hn] at h; cases h
          | some y =>
            obtain ⟨u, s⟩ := y
            rw [hn] at h; simp only at h
            injection h with h; injection h with e1 e2; subst e1; subst e2
            exact value_text b hb hB' _ u s hn
        · unfold valD at h
          rw [if_neg (by decide), if_pos rfl] at h
          cases hn : lenD b with
          | none => exact value_text_no b hb hB' _ hn
          | some y => rw [hn] at h; cases h
      by_cases k3 : c = 3
      · subst k3
        refine ⟨fun v r h => ?_, fun h => ?_⟩
        · unfold valD at h
          rw [if_neg (by decide), if_neg (by decide), if_pos rfl] at h
          cases h
        · exact value_deep_no b hb
      · refine ⟨fun v r h => ?_, fun h => value_other_no c b hb hB _ k1 k2 k3⟩
        unfold valD at h
        rw [if_neg k1, if_neg k2, if_neg k3] at h
        cases h
  | succ k ih =>
    intro hk b hb hB
    have ih := ih (by omega)
    cases b with
    | nil => exact ⟨fun v r h => (by cases h), fun _ => value_nil_no _⟩
    | cons c b =>
      have hB' : B8 b := fun x hx => hB x (by simp [hx])
      by_cases k1 : c = 1
      · subst k1
        refine ⟨fun v r h => ?_, fun h => ?_⟩
        · unfold valD at h
          rw [if_pos rfl] at h
          cases hn : numD b 0 0 with
          | none => rw [hn] at h; cases h
          | some y =>
            obtain ⟨u, s⟩ := y
            rw [hn] at h; simp only at h
            injection h with h; injection h with e1 e2; subst e1; subst e2
            exact value_int b hb hB' _ u s hn
        · unfold valD at h
          rw [if_pos rfl] at h
          cases hn : numD b 0 0 with
          | none => exact value_int_no b hb hB' _ hn
          | some y => rw [hn] at h; cases h
      by_cases k2 : c = 2
      · subst k2
        refine ⟨fun v r h => ?_, fun h => ?_⟩
        · unfold valD at h
          rw [if_neg (by decide), if_pos rfl] at h
          cases hn : lenD b with
          | none => rw [hn] at h; cases h
          | some y =>
            obtain ⟨u, s⟩ := y
            rw [hn] at h; simp only at h
            injection h with h; injection h with e1 e2; subst e1; subst e2
            exact value_text b hb hB' _ u s hn
        · unfold valD at h
          rw [if_neg (by decide), if_pos rfl] at h
          cases hn : lenD b with
          | none => exact value_text_no b hb hB' _ hn
          | some y => rw [hn] at h; cases h
      by_cases k3 : c = 3
      · subst k3
        have i1 := fun b hb hB => (ih b hb hB).1
        have i2 := fun b hb hB => (ih b hb hB).2
        cases hn : lenD b with
        | none => exact ⟨fun v r h => (by unfold valD at h; rw [if_neg (by decide), if_neg (by decide), if_pos rfl] at h; simp only [hn] at h; cases h), fun h => value_deep2_no k (by omega) b hb hB' hn⟩
        | some y =>
          obtain ⟨n, s⟩ := y
          cases hq : repD (valD k) n s with
          | none => exact ⟨fun v r h => (by unfold valD at h; rw [if_neg (by decide), if_neg (by decide), if_pos rfl] at h; simp only [hn, hq] at h; cases h), fun h => value_list_no k (by omega) b hb hB' n s hn hq i1 i2⟩
          | some z =>
            obtain ⟨l, s'⟩ := z
            refine ⟨fun v r h => ?_, fun h => ?_⟩
            · unfold valD at h
              rw [if_neg (by decide), if_neg (by decide), if_pos rfl] at h
              simp only [hn, hq] at h
              injection h with h; injection h with e1 e2; subst e1; subst e2
              exact value_list k (by omega) b hb hB' n s hn l s' hq i1
            · unfold valD at h
              rw [if_neg (by decide), if_neg (by decide), if_pos rfl] at h
              simp only [hn, hq] at h
              cases h
      · refine ⟨fun v r h => ?_, fun h => value_other_no c b hb hB _ k1 k2 k3⟩
        unfold valD at h
        rw [if_neg k1, if_neg k2, if_neg k3] at h
        cases h
end Go.Proofs.Ytgclicahmbgfiaa.Cd

namespace Go.Proofs.Ytgclicahmbgfiaa.Cd
open Go Go.Sg
set_option maxRecDepth 100000
set_option maxHeartbeats 40000000
theorem d16 : (16 : Int) - ((16 : Nat) : Int) = 0 := rfl
theorem decode_some (b : List Int) (hb : b.length < 1000000) (hB : B8 b) (v : Vl) (h : valD 16 b = some (v, [])) : PCalls Try.prog 31 [eR b] (.tup [eW v, eI 0]) := by
  have q1 := (value_both 16 (Nat.le_refl _) b hb hB).1 v _ h
  rw [d16] at q1
  have hyes : (((([] : List Int)).map (PV.int .u8)).length : Int) = 0 := by simp
  have q2 := want_yes (eR [])
  rw [← decide_eq_true hyes] at q2
  refine PCalls.ofD [0, 64] mixed Try.func31 rfl rfl rfl (by kernel_rfl) (by simp) rfl rfl rfl rfl rfl Try.func58 rfl rfl rfl (by kernel_rfl) rfl rfl rfl (fun ev w => rfl) (fun ev w => rfl) rfl rfl rfl (by decide) (by kernel_rfl) [0, 2, 3, 4] [0, 2, 3, 4] [0, 1, 2, 5] ?_
  intro G hG
  repeat' (first | exact cl1 | ((with_reducible show Exists _); first | exact exHM _ | refine exU8 ?_) | ((with_reducible show callX _ _ _ _ _); (first | refine call_i [320] (q1) (by kernel_rfl) rfl rfl (by decide) cl6 (fun i hi => by match i, hi with | 0, _ => rfl) cl7 cl8 (by simp [keys]) ?_ | refine call_i [320] (q2) (by kernel_rfl) rfl rfl (by decide) cl6 (fun i hi => by match i, hi with | 0, _ => rfl) cl7 cl8 (by simp [keys]) ?_)) | ((fail_if_success refine stp ?_); (conv => whnf) <;> (first | exact cl2 | refine XAlt.l ?_ | refine Sq.pr ?_ | refine Br.dec (fun hc => ?_) (fun hc => ?_) | refine Br.tt ?_ | refine Br.ff ?_ | refine Br.not ?_ | refine Br.mk (fun hc => ?_) (fun hc => ?_) | refine Opt.nn ?_ | refine Opt.ss ?_ | refine AltA.l ?_ | exact PV.leL_nil | refine PV.leL_cons ?_ ?_ | refine And.intro ?_ ?_ | refine ix_map (fun x hx => ?_) | refine exU8 ?_ | refine nilc (fun hn => ?_) ?_ | exact cl3 | refine imp0 (fun hpos => ?_) | refine fits_i64 ?_ ?_ | exact rfl | exact trivial | (first | refine stq ?_ | fail)))) <;> (try exact cl5)
  all_goals trace_state
end Go.Proofs.Ytgclicahmbgfiaa.Cd

namespace Go.Proofs.Ytgclicahmbgfiaa.Cd
open Go Go.Sg
set_option maxRecDepth 100000
set_option maxHeartbeats 20000000
/-- Small enough for counting. -/
def Sm (v : Vl) : Prop := lens 5000 v ∧ dep v ≤ 1000000
def chkV (v : Vl) : Int := if frm v then (if dep v > 16 then 2 else 0) else 1
theorem check_calls (v : Vl) (h : Sm v) : PCalls Try.prog 68 [eW v] (eI (chkV v)) := by
  have q1 := formed_calls v h.1 h.2
  unfold chkV
  unfold fmR at q1
  cases hf : frm v with
  | false =>
    rw [hf] at q1
    refine PCalls.of (N := 16) (res := [.tmp 2]) mixed Try.func68 rfl rfl rfl (by kernel_rfl) (by simp) [0, 1, 2, 3, 4, 10, 13] ?_
    repeat' (first | exact cl1 | ((with_reducible show Exists _); first | exact exHM _ | refine exU8 ?_) | ((with_reducible show callX _ _ _ _ _); (first | refine call_p (q1) (by kernel_rfl) rfl ?_)) | ((fail_if_success refine stp ?_); (conv => whnf) <;> (first | exact cl2 | refine XAlt.l ?_ | refine Sq.pr ?_ | refine Br.dec (fun hc => ?_) (fun hc => ?_) | refine Br.tt ?_ | refine Br.ff ?_ | refine Br.not ?_ | refine Br.mk (fun hc => ?_) (fun hc => ?_) | refine Opt.nn ?_ | refine Opt.ss ?_ | refine AltA.l ?_ | exact PV.leL_nil | refine PV.leL_cons ?_ ?_ | refine And.intro ?_ ?_ | refine ix_map (fun x hx => ?_) | refine exU8 ?_ | refine nilc (fun hn => ?_) ?_ | exact cl3 | refine imp0 (fun hpos => ?_) | refine fits_i64 ?_ ?_ | exact rfl | exact trivial | (first | refine stq ?_ | fail)))) <;> (try exact cl5)
  | true =>
    rw [hf] at q1
    simp only [if_true]
    by_cases hd : dep v > 16
    · rw [if_pos hd]
      have hd' : (16 : Int) < (dep v : Int) := by omega
      refine PCalls.of (N := 16) (res := [.tmp 2]) mixed Try.func68 rfl rfl rfl (by kernel_rfl) (by simp) [0, 1, 2, 3, 4, 10, 13] ?_
      repeat' (first | exact cl1 | ((with_reducible show Exists _); first | exact exHM _ | refine exU8 ?_) | ((with_reducible show callX _ _ _ _ _); (first | refine call_p (q1) (by kernel_rfl) rfl ?_)) | ((fail_if_success refine stp ?_); (conv => whnf) <;> (first | exact cl2 | refine Br.dec (fun hc => ?_) (fun hc => absurd hd' hc) | refine XAlt.l ?_ | refine Sq.pr ?_ | refine Br.dec (fun hc => ?_) (fun hc => ?_) | refine Br.tt ?_ | refine Br.ff ?_ | refine Br.not ?_ | refine Br.mk (fun hc => ?_) (fun hc => ?_) | refine Opt.nn ?_ | refine Opt.ss ?_ | refine AltA.l ?_ | exact PV.leL_nil | refine PV.leL_cons ?_ ?_ | refine And.intro ?_ ?_ | refine ix_map (fun x hx => ?_) | refine exU8 ?_ | refine nilc (fun hn => ?_) ?_ | exact cl3 | refine imp0 (fun hpos => ?_) | refine fits_i64 ?_ ?_ | exact rfl | exact trivial | (first | refine stq ?_ | fail)))) <;> (try exact cl5)
    · rw [if_neg hd]
      have hd' : ¬ (16 : Int) < (dep v : Int) := by omega
      refine PCalls.of (N := 16) (res := [.tmp 2]) mixed Try.func68 rfl rfl rfl (by kernel_rfl) (by simp) [0, 1, 2, 3, 4, 10, 13] ?_
      repeat' (first | exact cl1 | ((with_reducible show Exists _); first | exact exHM _ | refine exU8 ?_) | ((with_reducible show callX _ _ _ _ _); (first | refine call_p (q1) (by kernel_rfl) rfl ?_)) | ((fail_if_success refine stp ?_); (conv => whnf) <;> (first | exact cl2 | refine Br.dec (fun hc => absurd hc hd') (fun hc => ?_) | refine XAlt.l ?_ | refine Sq.pr ?_ | refine Br.dec (fun hc => ?_) (fun hc => ?_) | refine Br.tt ?_ | refine Br.ff ?_ | refine Br.not ?_ | refine Br.mk (fun hc => ?_) (fun hc => ?_) | refine Opt.nn ?_ | refine Opt.ss ?_ | refine AltA.l ?_ | exact PV.leL_nil | refine PV.leL_cons ?_ ?_ | refine And.intro ?_ ?_ | refine ix_map (fun x hx => ?_) | refine exU8 ?_ | refine nilc (fun hn => ?_) ?_ | exact cl3 | refine imp0 (fun hpos => ?_) | refine fits_i64 ?_ ?_ | exact rfl | exact trivial | (first | refine stq ?_ | fail)))) <;> (try exact cl5)
def bytes (s : ByteArray) : List Int := s.data.toList.map fun u => (u.toNat : Int)
def nml (u : Nat) : List Int := if h : u < 128 then [(u : Int)] else ((u % 128 + 128 : Nat) : Int) :: nml (u / 128)
termination_by u
decreasing_by omega
theorem nml_lt {u : Nat} (h : u < 128) : nml u = [(u : Int)] := by rw [nml, dif_pos h]
theorem nml_ge {u : Nat} (h : ¬ u < 128) : nml u = ((u % 128 + 128 : Nat) : Int) :: nml (u / 128) := by rw [nml, dif_neg h]
theorem nml_len (i : Nat) : ∀ u, u < 2 ^ (7 * i) → (nml u).length ≤ max i 1 := by
  induction i with
  | zero => intro u hu; have : u = 0 := by simpa using hu
            subst this; rw [nml_lt (by decide)]; simp
  | succ i ih =>
    intro u hu
    by_cases h : u < 128
    · rw [nml_lt h]; simp
    · rw [nml_ge h]
      have h2 : u / 128 < 2 ^ (7 * i) := by
        have : 2 ^ (7 * (i + 1)) = 128 * 2 ^ (7 * i) := by rw [show 7 * (i + 1) = 7 * i + 7 by omega, Nat.pow_add]; omega
        rw [this] at hu
        exact Nat.div_lt_of_lt_mul hu
      have h3 := ih _ h2
      have hi : 0 < i := by
        rcases Nat.eq_zero_or_pos i with e | e
        · subst e; simp at h2; omega
        · exact e
      simp; omega
theorem nml_len64 {u : Nat} (h : u < 18446744073709551616) : (nml u).length ≤ 10 := by
  have := nml_len 10 u (Nat.lt_of_lt_of_le h (by decide)); omega
mutual
def enc : Vl → List Int
  | .mk k n s l => if k = 1 then 1 :: nml (zz n) else if k = 2 then 2 :: (nml s.size ++ bytes s) else 3 :: (nml l.length ++ encs l)
def encs : List Vl → List Int
  | [] => []
  | x :: r => enc x ++ encs r
end
theorem encs_flat : ∀ l, encs l = l.flatMap enc
  | [] => rfl
  | x :: r => by rw [encs, encs_flat r]; rfl
end Go.Proofs.Ytgclicahmbgfiaa.Cd

namespace Go.Proofs.Ytgclicahmbgfiaa.Cd
open Go Go.Sg
set_option maxRecDepth 100000
set_option maxHeartbeats 20000000
mutual
def nums : Vl → Prop
  | .mk _ n _ l => I64 n ∧ numsL l
def numsL : List Vl → Prop
  | [] => True
  | x :: r => nums x ∧ numsL r
end
theorem numsL_mem {x : Vl} : ∀ {l : List Vl}, numsL l → x ∈ l → nums x
  | y :: r, h, hx => by
    rcases List.mem_cons.1 hx with e | e
    · subst e; exact h.1
    · exact numsL_mem h.2 e
theorem numsL_of {l : List Vl} (h : ∀ x ∈ l, nums x) : numsL l := by
  induction l with
  | nil => trivial
  | cons a r ih => exact ⟨h a (by simp), ih fun x hx => h x (by simp [hx])⟩
theorem bytes_len (s : ByteArray) : (bytes s).length = s.size := by simp [bytes]
theorem enc_int {n : Int} {s : ByteArray} {l : List Vl} : enc (.mk 1 n s l) = 1 :: nml (zz n) := by rw [enc, if_pos rfl]
theorem enc_text {n : Int} {s : ByteArray} {l : List Vl} : enc (.mk 2 n s l) = 2 :: (nml s.size ++ bytes s) := by rw [enc, if_neg (by decide), if_pos rfl]
theorem enc_list {n : Int} {s : ByteArray} {l : List Vl} : enc (.mk 3 n s l) = 3 :: (nml l.length ++ encs l) := by rw [enc, if_neg (by decide), if_neg (by decide)]
theorem encs_take {l : List Vl} {i : Nat} {x : Vl} (h : l[i]? = some x) : encs (l.take (i + 1)) = encs (l.take i) ++ enc x := by
  rw [encs_flat, encs_flat, List.take_add_one, h]; simp
theorem encs_le {l : List Vl} {i : Nat} : (encs (l.take i)).length ≤ (encs l).length := by
  conv => rhs; rw [← List.take_append_drop i l]
  rw [encs_flat, encs_flat, List.flatMap_append, List.length_append]; omega
theorem encs_mem {l : List Vl} {x : Vl} (h : x ∈ l) : (enc x).length ≤ (encs l).length := by
  induction l with
  | nil => cases h
  | cons a r ih =>
    rw [encs, List.length_append]
    rcases List.mem_cons.1 h with e | e
    · subst e; omega
    · have := ih e; omega
theorem u64len {n : Nat} (h : n ≤ 100000000) : IntKind.u64.wrap (n : Int) = (n : Int) := by rw [wrap_u64]; omega
end Go.Proofs.Ytgclicahmbgfiaa.Cd

namespace Go.Proofs.Ytgclicahmbgfiaa.Cd
open Go Go.Sg
set_option maxRecDepth 100000
set_option maxHeartbeats 20000000
def nmV (b : List Int) : List Int → AV
  | [] => .rsl 0 1 0 b.length
  | a :: r => .rsl 2 1 0 (b ++ a :: r).length
def nmH (b : List Int) : List Int → Heap
  | [] => [(0, .row 1 (b.map (.int .u8)))]
  | a :: r => [(0, .dead), (2, .row 1 ((b ++ a :: r).map (.int .u8)))]
theorem or128 {u : Nat} : bitsI .or .u8 (IntKind.u8.wrap (u : Int)) 128 = ((u % 128 + 128 : Nat) : Int) := by
  have e : IntKind.u8.wrap (u : Int) = ((u % 256 : Nat) : Int) := by rw [wrap_u8]; omega
  rw [e, show (128 : Int) = ((128 : Nat) : Int) from rfl, bits_or rfl (by show _ < 256; omega) (by decide)]
  congr 1
  have h2 : u % 256 = u % 128 + (u / 128 % 2) * 2 ^ 7 := by omega
  have h1 : u % 128 ||| (u / 128 % 2) * 2 ^ 7 = u % 128 + (u / 128 % 2) * 2 ^ 7 := or_shift (by omega)
  rw [h2, ← h1, Nat.or_assoc]
  have h3 : (u / 128 % 2) * 2 ^ 7 ||| 128 = 1 * 2 ^ 7 := by
    rcases Nat.mod_two_eq_zero_or_one (u / 128) with e | e <;> rw [e] <;> decide
  rw [h3, or_shift (by omega)]
theorem numeral_calls (b : List Int) (hb : b.length ≤ 100000000) (u0 : Nat) (h0 : u0 < 18446744073709551616) :
    ICalls Try.prog 87 1 [(0, .row 1 (b.map (.int .u8)))] [.rsl 0 1 0 b.length, .p (eU u0)] (.rsl 1 1 0 (b ++ nml u0).length) [(0, .dead), (1, .row 1 ((b ++ nml u0).map (.int .u8)))] := by
  have h10 := nml_len64 h0
  refine ICalls.of (N := 20) (res := [.tmp 4]) mixed Try.func87 rfl rfl rfl (by kernel_rfl) (by simp) [0, 1, 4, 6] (Nat.le_refl _) ?_
  repeat' (first | exact cl1 | ((with_reducible show Exists _); first | exact exHM _ | refine exU8 ?_) | ((fail_if_success refine stp ?_); (conv => whnf) <;> (first | exact cl2 | refine XAlt.l ?_ | refine Sq.pr ?_ | refine Br.dec (fun hc => ?_) (fun hc => ?_) | refine Br.tt ?_ | refine Br.ff ?_ | refine Br.not ?_ | refine Br.mk (fun hc => ?_) (fun hc => ?_) | refine Opt.nn ?_ | refine Opt.ss ?_ | refine AltA.l ?_ | exact PV.leL_nil | refine PV.leL_cons ?_ ?_ | refine And.intro ?_ ?_ | refine ix_map (fun x hx => ?_) | refine exU8 ?_ | refine nilc (fun hn => ?_) ?_ | exact cl3 | refine imp0 (fun hpos => ?_) | refine fits_i64 ?_ ?_ | exact rfl | exact trivial | (first | refine stq ?_ | fail)))) <;> (try exact cl5)
  refine Wpc.loopA (α := {s : List Int × Nat // s.2 < 18446744073709551616 ∧ s.1 ++ nml s.2 = nml u0}) mixed [0, 1, 4, 6] (fun s => [(0, nmV b s.1.1), (1, .p (eU s.1.2))]) (fun s => nmH b s.1.1) (fun _ => 0) (fun s => s.1.2) ⟨([], u0), h0, rfl⟩ ?_ ?_
  · (refine Ent.ofAK [] ?_) <;> (repeat' (first | exact trivial | refine HpLe.dd ?_ | refine HpLe.mk rfl (by simp) rfl (fun h => AObj.noConfusion h) ?_ ?_ | refine And.intro ?_ ?_ | exact cl9 | refine VLe.pe ?_ | refine VLe.agg ?_ | refine VLe.tup ?_ | refine VLe.fn ?_ ?_ | refine VLeL.cons ?_ ?_ | exact VLeL.nil | exact OLe.row _ _ | rfl | refine VLe.rsle rfl ?_ ?_ ?_ | refine OLe.rowe2 ?_ ?_ | refine OLe.mape ?_ ?_ | refine OLe.iter0 ?_ | refine OLe.itere ?_ ?_ | refine OLe.chane ?_ ?_ | refine OLe.mapSe ?_ ?_ ?_ | exact OLe.mapS0 rfl)) <;> try (first | (simp; done) | (congr 1; omega) | (congr 1; (first | (simp; done) | (simp; omega))))
  rintro ⟨⟨acc, u⟩, hu, hq⟩
  have hu : u < 18446744073709551616 := hu
  have hq : acc ++ nml u = nml u0 := hq
  have hl : acc.length ≤ 10 := by rw [← hq] at h10; simp at h10; omega
  have hbl : (b ++ acc).length + 1 ≤ 1000000000 := by simp; omega
  have e1 : (u : Int).fdiv (2 ^ 7) = ((u / 128 : Nat) : Int) := by
    rw [Int.fdiv_eq_ediv_of_nonneg _ (by omega)]; omega
  by_cases h : u < 128
  · have hno : ¬ ((u : Int) ≥ 128) := by omega
    rw [nml_lt h] at hq
    have e2 : IntKind.u8.wrap (u : Int) = (u : Int) := by rw [wrap_u8]; omega
    cases acc with
    | nil =>
      repeat' (first | exact cl1 | ((with_reducible show Exists _); first | exact exHM _ | refine exU8 ?_) | ((fail_if_success refine stp ?_); (conv => whnf) <;> (first | exact cl2 | refine Br.dec (fun hc => absurd hc hno) (fun hc => ?_) | refine XAlt.l ?_ | refine Sq.pr ?_ | refine Br.dec (fun hc => ?_) (fun hc => ?_) | refine Br.tt ?_ | refine Br.ff ?_ | refine Br.not ?_ | refine Br.mk (fun hc => ?_) (fun hc => ?_) | refine Opt.nn ?_ | refine Opt.ss ?_ | refine AltA.l ?_ | exact PV.leL_nil | refine PV.leL_cons ?_ ?_ | refine And.intro ?_ ?_ | refine ix_map (fun x hx => ?_) | refine exU8 ?_ | refine nilc (fun hn => ?_) ?_ | exact cl3 | refine imp0 (fun hpos => ?_) | refine fits_i64 ?_ ?_ | exact rfl | exact trivial | (first | refine stq ?_ | fail)))) <;> (try exact cl5)
      refine ⟨[], [(0, 0), (1, 449)], ?_, ?_, by decide, by simp, fun i hi => by match i, hi with | 0, _ => rfl⟩ <;> (repeat' (first | exact trivial | refine HpLe.dd ?_ | refine HpLe.mk rfl (by simp) rfl (fun h => AObj.noConfusion h) ?_ ?_ | refine And.intro ?_ ?_ | exact cl9 | refine VLe.pe ?_ | refine VLe.agg ?_ | refine VLe.tup ?_ | refine VLe.fn ?_ ?_ | refine VLeL.cons ?_ ?_ | exact VLeL.nil | exact OLe.row _ _ | rfl | refine VLe.rsle rfl ?_ ?_ ?_ | refine OLe.rowe2 ?_ ?_ | refine OLe.mape ?_ ?_ | refine OLe.iter0 ?_ | refine OLe.itere ?_ ?_ | refine OLe.chane ?_ ?_ | refine OLe.mapSe ?_ ?_ ?_ | exact OLe.mapS0 rfl))
      all_goals first
      | (show _ = (b ++ nml u0).length; rw [← hq]; simp <;> omega)
      | (show (b.map (PV.int .u8)) ++ List.take 1 (List.drop 0 [PV.int .u8 (IntKind.u8.wrap (u : Int))]) = (b ++ nml u0).map (PV.int .u8); rw [← hq, e2]; simp)
    | cons a acc =>
      repeat' (first | exact cl1 | ((with_reducible show Exists _); first | exact exHM _ | refine exU8 ?_) | ((fail_if_success refine stp ?_); (conv => whnf) <;> (first | exact cl2 | refine Br.dec (fun hc => absurd hc hno) (fun hc => ?_) | refine XAlt.l ?_ | refine Sq.pr ?_ | refine Br.dec (fun hc => ?_) (fun hc => ?_) | refine Br.tt ?_ | refine Br.ff ?_ | refine Br.not ?_ | refine Br.mk (fun hc => ?_) (fun hc => ?_) | refine Opt.nn ?_ | refine Opt.ss ?_ | refine AltA.l ?_ | exact PV.leL_nil | refine PV.leL_cons ?_ ?_ | refine And.intro ?_ ?_ | refine ix_map (fun x hx => ?_) | refine exU8 ?_ | refine nilc (fun hn => ?_) ?_ | exact cl3 | refine imp0 (fun hpos => ?_) | refine fits_i64 ?_ ?_ | exact rfl | exact trivial | (first | refine stq ?_ | fail)))) <;> (try exact cl5)
      refine ⟨[], [(0, 0), (1, 449)], ?_, ?_, by decide, by simp, fun i hi => by match i, hi with | 0, _ => rfl⟩ <;> (repeat' (first | exact trivial | refine HpLe.dd ?_ | refine HpLe.mk rfl (by simp) rfl (fun h => AObj.noConfusion h) ?_ ?_ | refine And.intro ?_ ?_ | exact cl9 | refine VLe.pe ?_ | refine VLe.agg ?_ | refine VLe.tup ?_ | refine VLe.fn ?_ ?_ | refine VLeL.cons ?_ ?_ | exact VLeL.nil | exact OLe.row _ _ | rfl | refine VLe.rsle rfl ?_ ?_ ?_ | refine OLe.rowe2 ?_ ?_ | refine OLe.mape ?_ ?_ | refine OLe.iter0 ?_ | refine OLe.itere ?_ ?_ | refine OLe.chane ?_ ?_ | refine OLe.mapSe ?_ ?_ ?_ | exact OLe.mapS0 rfl))
      all_goals first
      | (show _ = (b ++ nml u0).length; rw [← hq]; simp <;> omega)
      | (show ((b ++ a :: acc).map (PV.int .u8)) ++ List.take 1 (List.drop 0 [PV.int .u8 (IntKind.u8.wrap (u : Int))]) = (b ++ nml u0).map (PV.int .u8); rw [← hq, e2]; simp)
  · have hyes : ((u : Int) ≥ 128) := by omega
    rw [nml_ge h] at hq
    cases acc with
    | nil =>
      repeat' (first | exact cl1 | ((with_reducible show Exists _); first | exact exHM _ | refine exU8 ?_) | ((fail_if_success refine stp ?_); (conv => whnf) <;> (first | exact cl2 | refine Br.dec (fun hc => ?_) (fun hc => absurd hyes hc) | refine XAlt.l ?_ | refine Sq.pr ?_ | refine Br.dec (fun hc => ?_) (fun hc => ?_) | refine Br.tt ?_ | refine Br.ff ?_ | refine Br.not ?_ | refine Br.mk (fun hc => ?_) (fun hc => ?_) | refine Opt.nn ?_ | refine Opt.ss ?_ | refine AltA.l ?_ | exact PV.leL_nil | refine PV.leL_cons ?_ ?_ | refine And.intro ?_ ?_ | refine ix_map (fun x hx => ?_) | refine exU8 ?_ | refine nilc (fun hn => ?_) ?_ | exact cl3 | refine imp0 (fun hpos => ?_) | refine fits_i64 ?_ ?_ | exact rfl | exact trivial | (first | refine stq ?_ | fail)))) <;> (try exact cl5)
      refine ⟨⟨([((u % 128 + 128 : Nat) : Int)], u / 128), by omega, hq⟩, by show u / 128 < u; omega, ?_⟩
      (refine Ent.ofAK [] ?_) <;> (repeat' (first | exact trivial | refine HpLe.dd ?_ | refine HpLe.mk rfl (by simp) rfl (fun h => AObj.noConfusion h) ?_ ?_ | refine And.intro ?_ ?_ | exact cl9 | refine VLe.pe ?_ | refine VLe.agg ?_ | refine VLe.tup ?_ | refine VLe.fn ?_ ?_ | refine VLeL.cons ?_ ?_ | exact VLeL.nil | exact OLe.row _ _ | rfl | refine VLe.rsle rfl ?_ ?_ ?_ | refine OLe.rowe2 ?_ ?_ | refine OLe.mape ?_ ?_ | refine OLe.iter0 ?_ | refine OLe.itere ?_ ?_ | refine OLe.chane ?_ ?_ | refine OLe.mapSe ?_ ?_ ?_ | exact OLe.mapS0 rfl)) <;> try (first | (simp; done) | (congr 1; omega) | (congr 1; (first | (simp; done) | (simp; omega))))
      all_goals first
      | exact congrArg (PV.int .u64) e1
      | (show (b.map (PV.int .u8)) ++ List.take 1 (List.drop 0 [PV.int .u8 (bitsI .or .u8 (IntKind.u8.wrap (u : Int)) 128)]) = _; rw [or128]; simp)
    | cons a acc =>
      repeat' (first | exact cl1 | ((with_reducible show Exists _); first | exact exHM _ | refine exU8 ?_) | ((fail_if_success refine stp ?_); (conv => whnf) <;> (first | exact cl2 | refine Br.dec (fun hc => ?_) (fun hc => absurd hyes hc) | refine XAlt.l ?_ | refine Sq.pr ?_ | refine Br.dec (fun hc => ?_) (fun hc => ?_) | refine Br.tt ?_ | refine Br.ff ?_ | refine Br.not ?_ | refine Br.mk (fun hc => ?_) (fun hc => ?_) | refine Opt.nn ?_ | refine Opt.ss ?_ | refine AltA.l ?_ | exact PV.leL_nil | refine PV.leL_cons ?_ ?_ | refine And.intro ?_ ?_ | refine ix_map (fun x hx => ?_) | refine exU8 ?_ | refine nilc (fun hn => ?_) ?_ | exact cl3 | refine imp0 (fun hpos => ?_) | refine fits_i64 ?_ ?_ | exact rfl | exact trivial | (first | refine stq ?_ | fail)))) <;> (try exact cl5)
      refine ⟨⟨((a :: acc) ++ [((u % 128 + 128 : Nat) : Int)], u / 128), by omega, by rw [← hq]; simp⟩, by show u / 128 < u; omega, ?_⟩
      (refine Ent.ofAK [] ?_) <;> (repeat' (first | exact trivial | refine HpLe.dd ?_ | refine HpLe.mk rfl (by simp) rfl (fun h => AObj.noConfusion h) ?_ ?_ | refine And.intro ?_ ?_ | exact cl9 | refine VLe.pe ?_ | refine VLe.agg ?_ | refine VLe.tup ?_ | refine VLe.fn ?_ ?_ | refine VLeL.cons ?_ ?_ | exact VLeL.nil | exact OLe.row _ _ | rfl | refine VLe.rsle rfl ?_ ?_ ?_ | refine OLe.rowe2 ?_ ?_ | refine OLe.mape ?_ ?_ | refine OLe.iter0 ?_ | refine OLe.itere ?_ ?_ | refine OLe.chane ?_ ?_ | refine OLe.mapSe ?_ ?_ ?_ | exact OLe.mapS0 rfl)) <;> try (first | (simp; done) | (congr 1; omega) | (congr 1; (first | (simp; done) | (simp; omega))))
      all_goals first
      | exact congrArg (PV.int .u64) e1
      | (show ((b ++ a :: acc).map (PV.int .u8)) ++ List.take 1 (List.drop 0 [PV.int .u8 (bitsI .or .u8 (IntKind.u8.wrap (u : Int)) 128)]) = _; rw [or128]; simp)
end Go.Proofs.Ytgclicahmbgfiaa.Cd

namespace Go.Proofs.Ytgclicahmbgfiaa.Cd
open Go Go.Sg
set_option maxRecDepth 100000
set_option maxHeartbeats 20000000
theorem numeral2 (b : List Int) (hb : b.length ≤ 100000000) (u : Nat) (h0 : u < 18446744073709551616) (L : List PV) (n : Nat) (hL : L = b.map (.int .u8)) (hn : n = b.length) :
    ICalls Try.prog 87 1 [(0, .row 1 L)] [.rsl 0 1 0 n, .p (eU u)] (.rsl 1 1 0 (b ++ nml u).length) [(0, .dead), (1, .row 1 ((b ++ nml u).map (.int .u8)))] := by
  subst hL; subst hn; exact numeral_calls b hb u h0
theorem numeral3 (b : List Int) (hb : b.length ≤ 100000000) (u : Nat) (h0 : u < 18446744073709551616) (L : List PV) (n : Nat) (U : Int) (hL : L = b.map (.int .u8)) (hn : n = b.length) (hU : U = u) :
    ICalls Try.prog 87 1 [(0, .row 1 L)] [.rsl 0 1 0 n, .p (.int .u64 U)] (.rsl 1 1 0 (b ++ nml u).length) [(0, .dead), (1, .row 1 ((b ++ nml u).map (.int .u8)))] := by
  subst hL; subst hn; subst hU; exact numeral_calls b hb u h0
theorem newWriter_calls : ICalls Try.prog 69 0 [] [] (.ptr 0 0) [(0, .cells [.p .nilf, .p (.fn (.func 86) [] []), .p (.fn (.func 89) [] []), .fn (.func 90) [] [.ptr 1 0]]), (1, .cells [.ptr 0 0])] := by
  refine ICalls.of (N := 18) (res := [.tmp 0]) mixed Try.func69 rfl rfl rfl (by kernel_rfl) (by simp) [0, 1] (Nat.le_refl _) ?_
  repeat' (first | exact cl1 | ((with_reducible show Exists _); first | exact exHM _ | refine exU8 ?_) | ((fail_if_success refine stp ?_); (conv => whnf) <;> (first | exact cl2 | refine XAlt.l ?_ | refine Sq.pr ?_ | refine Br.dec (fun hc => ?_) (fun hc => ?_) | refine Br.tt ?_ | refine Br.ff ?_ | refine Br.not ?_ | refine Br.mk (fun hc => ?_) (fun hc => ?_) | refine Opt.nn ?_ | refine Opt.ss ?_ | refine AltA.l ?_ | exact PV.leL_nil | refine PV.leL_cons ?_ ?_ | refine And.intro ?_ ?_ | refine ix_map (fun x hx => ?_) | refine exU8 ?_ | refine nilc (fun hn => ?_) ?_ | exact cl3 | refine imp0 (fun hpos => ?_) | refine fits_i64 ?_ ?_ | exact rfl | exact trivial | (first | refine stq ?_ | fail)))) <;> (try exact cl5)
  refine ⟨[], [(0, 128), (1, 192)], ?_, ?_, by decide, by simp, fun i hi => by omega⟩ <;> (repeat' (first | exact trivial | refine HpLe.dd ?_ | refine HpLe.mk rfl (by simp) rfl (fun h => AObj.noConfusion h) ?_ ?_ | refine And.intro ?_ ?_ | exact cl9 | refine VLe.pe ?_ | refine VLe.agg ?_ | refine VLe.tup ?_ | refine VLe.fn ?_ ?_ | refine VLeL.cons ?_ ?_ | exact VLeL.nil | exact OLe.row _ _ | rfl | refine VLe.rsle rfl ?_ ?_ ?_ | refine OLe.rowe2 ?_ ?_ | refine OLe.mape ?_ ?_ | refine OLe.iter0 ?_ | refine OLe.itere ?_ ?_ | refine OLe.chane ?_ ?_ | refine OLe.mapSe ?_ ?_ ?_ | exact OLe.mapS0 rfl))
theorem wInt (b : List Int) (hb : b.length ≤ 90000000) (n : Int) (hn : I64 n) (s : ByteArray) (l : List Vl) :
    ICalls Try.prog 86 1 [(0, .row 1 (b.map (.int .u8)))] [.rsl 0 1 0 b.length, .p (eW (.mk 1 n s l))] (.rsl 1 1 0 (b ++ enc (.mk 1 n s l)).length) [(0, .dead), (1, .row 1 ((b ++ enc (.mk 1 n s l)).map (.int .u8)))] := by
  have q1 := unsigned_calls n hn
  have h64 := zz_lt hn
  have hb1 : (b ++ [1]).length ≤ 100000000 := by simp; omega
  rw [enc_int]
  refine ICalls.of (N := 12) (res := [.tmp 4]) mixed Try.func86 rfl rfl rfl (by kernel_rfl) (by simp) [0, 1, 3, 4] (Nat.le_refl _) ?_
  repeat' (first | exact cl1 | ((with_reducible show Exists _); first | exact exHM _ | refine exU8 ?_) | ((with_reducible show callX _ _ _ _ _); (first | refine call_p (q1) (by kernel_rfl) rfl ?_ | refine call_i [257] (numeral2 (b ++ [1]) hb1 (zz n) h64 _ _ ?_ ?_) (by kernel_rfl) rfl rfl (by decide) cl6 (fun i hi => by match i, hi with | 0, _ => rfl) cl7 cl8 (by simp [keys]) ?_)) | ((fail_if_success refine stp ?_); (conv => whnf) <;> (first | exact cl2 | refine XAlt.l ?_ | refine Sq.pr ?_ | refine Br.dec (fun hc => ?_) (fun hc => ?_) | refine Br.tt ?_ | refine Br.ff ?_ | refine Br.not ?_ | refine Br.mk (fun hc => ?_) (fun hc => ?_) | refine Opt.nn ?_ | refine Opt.ss ?_ | refine AltA.l ?_ | exact PV.leL_nil | refine PV.leL_cons ?_ ?_ | refine And.intro ?_ ?_ | refine ix_map (fun x hx => ?_) | refine exU8 ?_ | refine nilc (fun hn => ?_) ?_ | exact cl3 | refine imp0 (fun hpos => ?_) | refine fits_i64 ?_ ?_ | exact rfl | exact trivial | (first | refine stq ?_ | fail)))) <;> (try exact cl5)
  · simp
  · refine ⟨[], [(0, 0), (1, 513)], ?_, ?_, by decide, by simp, fun i hi => by match i, hi with | 0, _ => rfl⟩ <;> (repeat' (first | exact trivial | refine HpLe.dd ?_ | refine HpLe.mk rfl (by simp) rfl (fun h => AObj.noConfusion h) ?_ ?_ | refine And.intro ?_ ?_ | exact cl9 | refine VLe.pe ?_ | refine VLe.agg ?_ | refine VLe.tup ?_ | refine VLe.fn ?_ ?_ | refine VLeL.cons ?_ ?_ | exact VLeL.nil | exact OLe.row _ _ | rfl | refine VLe.rsle rfl ?_ ?_ ?_ | refine OLe.rowe2 ?_ ?_ | refine OLe.mape ?_ ?_ | refine OLe.iter0 ?_ | refine OLe.itere ?_ ?_ | refine OLe.chane ?_ ?_ | refine OLe.mapSe ?_ ?_ ?_ | exact OLe.mapS0 rfl))
    all_goals simp
theorem wInt0 (n : Int) (hn : I64 n) (s : ByteArray) (l : List Vl) :
    ICalls Try.prog 86 0 [] [.p (.sl 0 true []), .p (eW (.mk 1 n s l))] (.rsl 0 1 0 (enc (.mk 1 n s l)).length) [(0, .row 1 ((enc (.mk 1 n s l)).map (.int .u8)))] := by
  have q1 := unsigned_calls n hn
  have h64 := zz_lt hn
  have hb1 : ([1] : List Int).length ≤ 100000000 := by simp
  rw [enc_int]
  refine ICalls.of (N := 12) (res := [.tmp 4]) mixed Try.func86 rfl rfl rfl (by kernel_rfl) (by simp) [0, 1, 3, 4] (Nat.le_refl _) ?_
  repeat' (first | exact cl1 | ((with_reducible show Exists _); first | exact exHM _ | refine exU8 ?_) | ((with_reducible show callX _ _ _ _ _); (first | refine call_p (q1) (by kernel_rfl) rfl ?_ | refine call_i [256] (numeral2 [1] hb1 (zz n) h64 _ _ ?_ ?_) (by kernel_rfl) rfl rfl (by decide) cl6 (fun i hi => by match i, hi with | 0, _ => rfl) cl7 cl8 (by simp [keys]) ?_)) | ((fail_if_success refine stp ?_); (conv => whnf) <;> (first | exact cl2 | refine XAlt.l ?_ | refine Sq.pr ?_ | refine Br.dec (fun hc => ?_) (fun hc => ?_) | refine Br.tt ?_ | refine Br.ff ?_ | refine Br.not ?_ | refine Br.mk (fun hc => ?_) (fun hc => ?_) | refine Opt.nn ?_ | refine Opt.ss ?_ | refine AltA.l ?_ | exact PV.leL_nil | refine PV.leL_cons ?_ ?_ | refine And.intro ?_ ?_ | refine ix_map (fun x hx => ?_) | refine exU8 ?_ | refine nilc (fun hn => ?_) ?_ | exact cl3 | refine imp0 (fun hpos => ?_) | refine fits_i64 ?_ ?_ | exact rfl | exact trivial | (first | refine stq ?_ | fail)))) <;> (try exact cl5)
  · refine ⟨[], [(0, 512)], ?_, ?_, by decide, by simp, fun i hi => by omega⟩ <;> (repeat' (first | exact trivial | refine HpLe.dd ?_ | refine HpLe.mk rfl (by simp) rfl (fun h => AObj.noConfusion h) ?_ ?_ | refine And.intro ?_ ?_ | exact cl9 | refine VLe.pe ?_ | refine VLe.agg ?_ | refine VLe.tup ?_ | refine VLe.fn ?_ ?_ | refine VLeL.cons ?_ ?_ | exact VLeL.nil | exact OLe.row _ _ | rfl | refine VLe.rsle rfl ?_ ?_ ?_ | refine OLe.rowe2 ?_ ?_ | refine OLe.mape ?_ ?_ | refine OLe.iter0 ?_ | refine OLe.itere ?_ ?_ | refine OLe.chane ?_ ?_ | refine OLe.mapSe ?_ ?_ ?_ | exact OLe.mapS0 rfl))
theorem wText (b : List Int) (hb : b.length ≤ 90000000) (n : Int) (s : ByteArray) (hs : s.size ≤ 90000000) (l : List Vl) (hz : (b ++ enc (.mk 2 n s l)).length ≤ 90000000) :
    ICalls Try.prog 89 1 [(0, .row 1 (b.map (.int .u8)))] [.rsl 0 1 0 b.length, .p (eW (.mk 2 n s l))] (.rsl 1 1 0 (b ++ enc (.mk 2 n s l)).length) [(0, .dead), (1, .row 1 ((b ++ enc (.mk 2 n s l)).map (.int .u8)))] := by
  have hb1 : (b ++ [2]).length ≤ 100000000 := by simp; omega
  have hw := u64len (n := s.size) (by omega)
  have hdl : s.data.toList.length = s.size := by simp
  have hbl := bytes_len s
  have h10 := nml_len64 (u := s.size) (by omega)
  rw [enc_text] at hz ⊢
  have hbd : (b ++ [2] ++ nml s.size).length + s.size ≤ 1000000000 := by simp; omega
  refine ICalls.of (N := 16) (res := [.tmp 4]) mixed Try.func89 rfl rfl rfl (by kernel_rfl) (by simp) [0, 1, 3, 4] (Nat.le_refl _) ?_
  repeat' (first | exact cl1 | ((with_reducible show Exists _); first | exact exHM _ | refine exU8 ?_) | ((with_reducible show callX _ _ _ _ _); (first | refine call_i [257] (numeral3 (b ++ [2]) hb1 s.size (by omega) _ _ _ ?_ ?_ ?_) (by kernel_rfl) rfl rfl (by decide) cl6 (fun i hi => by match i, hi with | 0, _ => rfl) cl7 cl8 (by simp [keys]) ?_)) | ((fail_if_success refine stp ?_); (conv => whnf) <;> (first | exact cl2 | refine XAlt.l ?_ | refine Sq.pr ?_ | refine Br.dec (fun hc => ?_) (fun hc => ?_) | refine Br.tt ?_ | refine Br.ff ?_ | refine Br.not ?_ | refine Br.mk (fun hc => ?_) (fun hc => ?_) | refine Opt.nn ?_ | refine Opt.ss ?_ | refine AltA.l ?_ | exact PV.leL_nil | refine PV.leL_cons ?_ ?_ | refine And.intro ?_ ?_ | refine ix_map (fun x hx => ?_) | refine exU8 ?_ | refine nilc (fun hn => ?_) ?_ | exact cl3 | refine imp0 (fun hpos => ?_) | refine fits_i64 ?_ ?_ | exact rfl | exact trivial | (first | refine stq ?_ | fail)))) <;> (try exact cl5)
  · simp
  · exact hw
  · exact hbd
  · refine ⟨[], [(0, 0), (1, 769)], ?_, ?_, by decide, by simp, fun i hi => by match i, hi with | 0, _ => rfl⟩ <;> (repeat' (first | exact trivial | refine HpLe.dd ?_ | refine HpLe.mk rfl (by simp) rfl (fun h => AObj.noConfusion h) ?_ ?_ | refine And.intro ?_ ?_ | exact cl9 | refine VLe.pe ?_ | refine VLe.agg ?_ | refine VLe.tup ?_ | refine VLe.fn ?_ ?_ | refine VLeL.cons ?_ ?_ | exact VLeL.nil | exact OLe.row _ _ | rfl | refine VLe.rsle rfl ?_ ?_ ?_ | refine OLe.rowe2 ?_ ?_ | refine OLe.mape ?_ ?_ | refine OLe.iter0 ?_ | refine OLe.itere ?_ ?_ | refine OLe.chane ?_ ?_ | refine OLe.mapSe ?_ ?_ ?_ | exact OLe.mapS0 rfl))
    · show (b ++ [2] ++ nml s.size).length + s.size = (b ++ 2 :: (nml s.size ++ bytes s)).length
      simp [hbl]; omega
    · show (b ++ [2] ++ nml s.size).map (PV.int .u8) ++ s.data.toList.map (fun u => PV.int .u8 u.toNat) = (b ++ 2 :: (nml s.size ++ bytes s)).map (PV.int .u8)
      simp [bytes]
theorem wText0 (n : Int) (s : ByteArray) (hs : s.size ≤ 90000000) (l : List Vl) (hz : (enc (.mk 2 n s l)).length ≤ 90000000) :
    ICalls Try.prog 89 0 [] [.p (.sl 0 true []), .p (eW (.mk 2 n s l))] (.rsl 0 1 0 (enc (.mk 2 n s l)).length) [(0, .row 1 ((enc (.mk 2 n s l)).map (.int .u8)))] := by
  have hb1 : ([2] : List Int).length ≤ 100000000 := by simp
  have hw := u64len (n := s.size) (by omega)
  have hdl : s.data.toList.length = s.size := by simp
  have hbl := bytes_len s
  have h10 := nml_len64 (u := s.size) (by omega)
  rw [enc_text] at hz ⊢
  have hbd : ([2] ++ nml s.size).length + s.size ≤ 1000000000 := by simp; omega
  refine ICalls.of (N := 16) (res := [.tmp 4]) mixed Try.func89 rfl rfl rfl (by kernel_rfl) (by simp) [0, 1, 3, 4] (Nat.le_refl _) ?_
  repeat' (first | exact cl1 | ((with_reducible show Exists _); first | exact exHM _ | refine exU8 ?_) | ((with_reducible show callX _ _ _ _ _); (first | refine call_i [256] (numeral3 [2] hb1 s.size (by omega) _ _ _ ?_ ?_ ?_) (by kernel_rfl) rfl rfl (by decide) cl6 (fun i hi => by match i, hi with | 0, _ => rfl) cl7 cl8 (by simp [keys]) ?_)) | ((fail_if_success refine stp ?_); (conv => whnf) <;> (first | exact cl2 | refine XAlt.l ?_ | refine Sq.pr ?_ | refine Br.dec (fun hc => ?_) (fun hc => ?_) | refine Br.tt ?_ | refine Br.ff ?_ | refine Br.not ?_ | refine Br.mk (fun hc => ?_) (fun hc => ?_) | refine Opt.nn ?_ | refine Opt.ss ?_ | refine AltA.l ?_ | exact PV.leL_nil | refine PV.leL_cons ?_ ?_ | refine And.intro ?_ ?_ | refine ix_map (fun x hx => ?_) | refine exU8 ?_ | refine nilc (fun hn => ?_) ?_ | exact cl3 | refine imp0 (fun hpos => ?_) | refine fits_i64 ?_ ?_ | exact rfl | exact trivial | (first | refine stq ?_ | fail)))) <;> (try exact cl5)
  · exact hw
  · exact hbd
  · refine ⟨[], [(0, 768)], ?_, ?_, by decide, by simp, fun i hi => by omega⟩ <;> (repeat' (first | exact trivial | refine HpLe.dd ?_ | refine HpLe.mk rfl (by simp) rfl (fun h => AObj.noConfusion h) ?_ ?_ | refine And.intro ?_ ?_ | exact cl9 | refine VLe.pe ?_ | refine VLe.agg ?_ | refine VLe.tup ?_ | refine VLe.fn ?_ ?_ | refine VLeL.cons ?_ ?_ | exact VLeL.nil | exact OLe.row _ _ | rfl | refine VLe.rsle rfl ?_ ?_ ?_ | refine OLe.rowe2 ?_ ?_ | refine OLe.mape ?_ ?_ | refine OLe.iter0 ?_ | refine OLe.itere ?_ ?_ | refine OLe.chane ?_ ?_ | refine OLe.mapSe ?_ ?_ ?_ | exact OLe.mapS0 rfl))
    · show ([2] ++ nml s.size).length + s.size = (2 :: (nml s.size ++ bytes s)).length
      simp [hbl]; omega
    · show ([2] ++ nml s.size).map (PV.int .u8) ++ s.data.toList.map (fun u => PV.int .u8 u.toNat) = (2 :: (nml s.size ++ bytes s)).map (PV.int .u8)
      simp [bytes]
end Go.Proofs.Ytgclicahmbgfiaa.Cd

namespace Go.Proofs.Ytgclicahmbgfiaa.Cd
open Go Go.Sg
set_option maxRecDepth 100000
set_option maxHeartbeats 40000000
theorem wList : ∀ v, frm v = true → nums v → lens 5000 v → v.kind = 3 → ∀ b : List Int, (b ++ enc v).length ≤ 80000000 →
    ICalls Try.prog 90 3 [(0, .row 1 (b.map (.int .u8))), (1, .cells [.p .nilf, .p (.fn (.func 86) [] []), .p (.fn (.func 89) [] []), .fn (.func 90) [] [.ptr 2 0]]), (2, .cells [.ptr 1 0])] [.rsl 0 1 0 b.length, .p (eW v), .ptr 2 0] (.rsl 3 1 0 (b ++ enc v).length) [(0, .dead), (1, .cells [.p .nilf, .p (.fn (.func 86) [] []), .p (.fn (.func 89) [] []), .fn (.func 90) [] [.ptr 2 0]]), (2, .cells [.ptr 1 0]), (3, .row 1 ((b ++ enc v).map (.int .u8)))] := by
  refine Vl.ind fun v ih hf hn hl hk b hz => ?_
  obtain ⟨k, n, s, l⟩ := v
  have hk : k = 3 := hk
  subst hk
  obtain ⟨hn1, hnl⟩ := hn
  obtain ⟨hll, hls⟩ := hl
  have ih : ∀ x ∈ l, frm x = true → nums x → lens 5000 x → x.kind = 3 → ∀ b : List Int, (b ++ enc x).length ≤ 80000000 →
    ICalls Try.prog 90 3 [(0, .row 1 (b.map (.int .u8))), (1, .cells [.p .nilf, .p (.fn (.func 86) [] []), .p (.fn (.func 89) [] []), .fn (.func 90) [] [.ptr 2 0]]), (2, .cells [.ptr 1 0])] [.rsl 0 1 0 b.length, .p (eW x), .ptr 2 0] (.rsl 3 1 0 (b ++ enc x).length) [(0, .dead), (1, .cells [.p .nilf, .p (.fn (.func 86) [] []), .p (.fn (.func 89) [] []), .fn (.func 90) [] [.ptr 2 0]]), (2, .cells [.ptr 1 0]), (3, .row 1 ((b ++ enc x).map (.int .u8)))] := ih
  have hbl : b.length ≤ 80000000 := by simp at hz; omega
  rw [frm_list] at hf
  simp only [Bool.and_eq_true] at hf
  obtain ⟨_, hfl⟩ := hf
  rw [enc_list] at hz ⊢
  have hz : (b ++ 3 :: (nml l.length ++ encs l)).length ≤ 80000000 := hz
  have hb1 : (b ++ [3] : List Int).length ≤ 100000000 := by simp; omega
  have h10 := nml_len64 (u := l.length) (by omega)
  have hw : IntKind.u64.wrap (((l.map eV).length : Nat) : Int) = (l.length : Int) := by rw [List.length_map]; exact u64len (by omega)
  refine ICalls.of (N := 35) (res := [.tmp 5]) mixed Try.func90 rfl rfl rfl (by kernel_rfl) (by simp) [0, 1, 2, 4, 5, 7, 17, 18, 19, 20] (Nat.le_refl _) ?_
  repeat' (first | exact cl1 | ((with_reducible show Exists _); first | exact exHM _ | refine exU8 ?_) | ((with_reducible show callX _ _ _ _ _); (first | refine call_i [259] (numeral3 (b ++ [3]) hb1 l.length (by omega) _ _ _ ?_ ?_ ?_) (by kernel_rfl) rfl rfl (by decide) cl6 (fun i hi => by match i, hi with | 0, _ => rfl) cl7 cl8 (by simp [keys]) ?_)) | ((fail_if_success refine stp ?_); (conv => whnf) <;> (first | exact cl2 | refine XAlt.l ?_ | refine Sq.pr ?_ | refine Br.dec (fun hc => ?_) (fun hc => ?_) | refine Br.tt ?_ | refine Br.ff ?_ | refine Br.not ?_ | refine Br.mk (fun hc => ?_) (fun hc => ?_) | refine Opt.nn ?_ | refine Opt.ss ?_ | refine AltA.l ?_ | exact PV.leL_nil | refine PV.leL_cons ?_ ?_ | refine And.intro ?_ ?_ | refine ix_map (fun x hx => ?_) | refine exU8 ?_ | refine nilc (fun hn => ?_) ?_ | exact cl3 | refine imp0 (fun hpos => ?_) | refine fits_i64 ?_ ?_ | exact rfl | exact trivial | (first | refine stq ?_ | fail)))) <;> (try exact cl5)
  · simp
  · exact hw
  refine Wpc.loopA (α := {i : Nat // i ≤ l.length}) mixed [0, 1, 2, 4, 5, 7, 17, 18, 19, 20] (fun i => [(0, .rsl 579 1 0 (b ++ 3 :: (nml l.length ++ encs (l.take i.1))).length), (19, .p (eI i.1))]) (fun i => [(195, .dead), (579, .row 1 ((b ++ 3 :: (nml l.length ++ encs (l.take i.1))).map (.int .u8)))]) (fun _ => 0) (fun i => l.length - i.1) ⟨0, by omega⟩ ?_ ?_
  · (refine Ent.ofAK [] ?_) <;> (repeat' (first | exact trivial | refine HpLe.dd ?_ | refine HpLe.mk rfl (by simp) rfl (fun h => AObj.noConfusion h) ?_ ?_ | refine And.intro ?_ ?_ | exact cl9 | refine VLe.pe ?_ | refine VLe.agg ?_ | refine VLe.tup ?_ | refine VLe.fn ?_ ?_ | refine VLeL.cons ?_ ?_ | exact VLeL.nil | exact OLe.row _ _ | rfl | refine VLe.rsle rfl ?_ ?_ ?_ | refine OLe.rowe2 ?_ ?_ | refine OLe.mape ?_ ?_ | refine OLe.iter0 ?_ | refine OLe.itere ?_ ?_ | refine OLe.chane ?_ ?_ | refine OLe.mapSe ?_ ?_ ?_ | exact OLe.mapS0 rfl)) <;> try (first | (simp; done) | (congr 1; omega) | (congr 1; (first | (simp; done) | (simp; omega))))
    all_goals simp [encs]
  rintro ⟨i, hi⟩
  have hi : i ≤ l.length := hi
  cases hxi : l[i]? with
  | none =>
    have hge : l.length ≤ i := List.getElem?_eq_none_iff.1 hxi
    have hno : ¬ ((i : Int) < ((l.map eV).length : Int)) := by rw [List.length_map]; omega
    rw [List.take_of_length_le hge]
    repeat' (first | exact cl1 | ((with_reducible show Exists _); first | exact exHM _ | refine exU8 ?_) | ((fail_if_success refine stp ?_); (conv => whnf) <;> (first | exact cl2 | refine Br.dec (fun hc => absurd hc hno) (fun hc => ?_) | refine XAlt.l ?_ | refine Sq.pr ?_ | refine Br.dec (fun hc => ?_) (fun hc => ?_) | refine Br.tt ?_ | refine Br.ff ?_ | refine Br.not ?_ | refine Br.mk (fun hc => ?_) (fun hc => ?_) | refine Opt.nn ?_ | refine Opt.ss ?_ | refine AltA.l ?_ | exact PV.leL_nil | refine PV.leL_cons ?_ ?_ | refine And.intro ?_ ?_ | refine ix_map (fun x hx => ?_) | refine exU8 ?_ | refine nilc (fun hn => ?_) ?_ | exact cl3 | refine imp0 (fun hpos => ?_) | refine fits_i64 ?_ ?_ | exact rfl | exact trivial | (first | refine stq ?_ | fail)))) <;> (try exact cl5)
    refine ⟨[], [(0, 0), (1, 1), (2, 2), (3, 579)], ?_, ?_, by decide, by simp, fun i hi => by match i, hi with | 0, _ => rfl | 1, _ => rfl | 2, _ => rfl⟩ <;> (repeat' (first | exact trivial | refine HpLe.dd ?_ | refine HpLe.mk rfl (by simp) rfl (fun h => AObj.noConfusion h) ?_ ?_ | refine And.intro ?_ ?_ | exact cl9 | refine VLe.pe ?_ | refine VLe.agg ?_ | refine VLe.tup ?_ | refine VLe.fn ?_ ?_ | refine VLeL.cons ?_ ?_ | exact VLeL.nil | exact OLe.row _ _ | rfl | refine VLe.rsle rfl ?_ ?_ ?_ | refine OLe.rowe2 ?_ ?_ | refine OLe.mape ?_ ?_ | refine OLe.iter0 ?_ | refine OLe.itere ?_ ?_ | refine OLe.chane ?_ ?_ | refine OLe.mapSe ?_ ?_ ?_ | exact OLe.mapS0 rfl))
  | some x =>
    have hlt : i < l.length := (List.getElem?_eq_some_iff.1 hxi).1
    have hyes : ((i : Int) < ((l.map eV).length : Int)) := by rw [List.length_map]; omega
    have hxm := List.mem_of_getElem? hxi
    have htk := encs_take hxi
    have hte := encs_le (l := l) (i := i + 1)
    have hxf := List.all_eq_true.1 hfl x hxm
    have hxn := numsL_mem hnl hxm
    have hxl := lensL_mem hls hxm
    generalize hcur : b ++ 3 :: (nml l.length ++ encs (l.take i)) = cur at *
    have hnext : b ++ 3 :: (nml l.length ++ encs (l.take (i + 1))) = cur ++ enc x := by rw [htk, ← hcur]; simp
    have hcz : (cur ++ enc x).length ≤ 80000000 := by
      rw [← hnext]
      simp only [List.length_cons, List.length_append] at hz ⊢
      omega
    have hcl : cur.length ≤ 80000000 := by simp only [List.length_append] at hcz; omega
    obtain ⟨k', n', s', l'⟩ := x
    have hk' : k' = 1 ∨ k' = 2 ∨ k' = 3 := by
      by_cases h1 : k' = 1
      · exact .inl h1
      · by_cases h2 : k' = 2
        · exact .inr (.inl h2)
        · by_cases h3 : k' = 3
          · exact .inr (.inr h3)
          · rw [frm_other h1 h2 h3] at hxf; cases hxf
    rcases hk' with e | e | e <;> subst e
    · have q3 := wInt cur (by omega) n' hxn.1 s' l'
      repeat' (first | exact cl1 | ((with_reducible show Exists _); first | exact exHM _ | refine exU8 ?_) | ((with_reducible show callX _ _ _ _ _); (first | refine call_i [579] (q3) (by kernel_rfl) rfl rfl (by decide) cl6 (fun i hi => by match i, hi with | 0, _ => rfl) cl7 cl8 (by simp [keys]) ?_)) | ((fail_if_success refine stp ?_); (conv => whnf) <;> (first | exact cl2 | refine Br.dec (fun hc => ?_) (fun hc => absurd hyes hc) | refine ix_v hxi ?_ | refine XAlt.l ?_ | refine Sq.pr ?_ | refine Br.dec (fun hc => ?_) (fun hc => ?_) | refine Br.tt ?_ | refine Br.ff ?_ | refine Br.not ?_ | refine Br.mk (fun hc => ?_) (fun hc => ?_) | refine Opt.nn ?_ | refine Opt.ss ?_ | refine AltA.l ?_ | exact PV.leL_nil | refine PV.leL_cons ?_ ?_ | refine And.intro ?_ ?_ | refine ix_map (fun x hx => ?_) | refine exU8 ?_ | refine nilc (fun hn => ?_) ?_ | exact cl3 | refine imp0 (fun hpos => ?_) | refine fits_i64 ?_ ?_ | exact rfl | exact trivial | (first | refine stq ?_ | fail)))) <;> (try exact cl5)
      refine ⟨⟨i + 1, hlt⟩, by show l.length - (i + 1) < l.length - i; omega, ?_⟩
      show Ent _ _ (hdS [0, 1, 2, 4, 5, 7, 17, 18, 19, 20] _ _ _ [(0, .rsl 579 1 0 (b ++ 3 :: (nml l.length ++ encs (l.take (i + 1)))).length), (19, .p (eI ((i + 1 : Nat) : Int)))] [(195, .dead), (579, .row 1 ((b ++ 3 :: (nml l.length ++ encs (l.take (i + 1)))).map (.int .u8)))] _)
      rw [hnext]
      (refine Ent.ofAK [] ?_) <;> (repeat' (first | exact trivial | refine HpLe.dd ?_ | refine HpLe.mk rfl (by simp) rfl (fun h => AObj.noConfusion h) ?_ ?_ | refine And.intro ?_ ?_ | exact cl9 | refine VLe.pe ?_ | refine VLe.agg ?_ | refine VLe.tup ?_ | refine VLe.fn ?_ ?_ | refine VLeL.cons ?_ ?_ | exact VLeL.nil | exact OLe.row _ _ | rfl | refine VLe.rsle rfl ?_ ?_ ?_ | refine OLe.rowe2 ?_ ?_ | refine OLe.mape ?_ ?_ | refine OLe.iter0 ?_ | refine OLe.itere ?_ ?_ | refine OLe.chane ?_ ?_ | refine OLe.mapSe ?_ ?_ ?_ | exact OLe.mapS0 rfl)) <;> try (first | (simp; done) | (congr 1; omega) | (congr 1; (first | (simp; done) | (simp; omega))))
    · have hs' : s'.size ≤ 90000000 := by
        have := bytes_len s'
        rw [enc_text] at hcz
        simp only [List.length_cons, List.length_append] at hcz; omega
      have q3 := wText cur (by omega) n' s' hs' l' (by omega)
      repeat' (first | exact cl1 | ((with_reducible show Exists _); first | exact exHM _ | refine exU8 ?_) | ((with_reducible show callX _ _ _ _ _); (first | refine call_i [579] (q3) (by kernel_rfl) rfl rfl (by decide) cl6 (fun i hi => by match i, hi with | 0, _ => rfl) cl7 cl8 (by simp [keys]) ?_)) | ((fail_if_success refine stp ?_); (conv => whnf) <;> (first | exact cl2 | refine Br.dec (fun hc => ?_) (fun hc => absurd hyes hc) | refine ix_v hxi ?_ | refine XAlt.l ?_ | refine Sq.pr ?_ | refine Br.dec (fun hc => ?_) (fun hc => ?_) | refine Br.tt ?_ | refine Br.ff ?_ | refine Br.not ?_ | refine Br.mk (fun hc => ?_) (fun hc => ?_) | refine Opt.nn ?_ | refine Opt.ss ?_ | refine AltA.l ?_ | exact PV.leL_nil | refine PV.leL_cons ?_ ?_ | refine And.intro ?_ ?_ | refine ix_map (fun x hx => ?_) | refine exU8 ?_ | refine nilc (fun hn => ?_) ?_ | exact cl3 | refine imp0 (fun hpos => ?_) | refine fits_i64 ?_ ?_ | exact rfl | exact trivial | (first | refine stq ?_ | fail)))) <;> (try exact cl5)
      refine ⟨⟨i + 1, hlt⟩, by show l.length - (i + 1) < l.length - i; omega, ?_⟩
      show Ent _ _ (hdS [0, 1, 2, 4, 5, 7, 17, 18, 19, 20] _ _ _ [(0, .rsl 579 1 0 (b ++ 3 :: (nml l.length ++ encs (l.take (i + 1)))).length), (19, .p (eI ((i + 1 : Nat) : Int)))] [(195, .dead), (579, .row 1 ((b ++ 3 :: (nml l.length ++ encs (l.take (i + 1)))).map (.int .u8)))] _)
      rw [hnext]
      (refine Ent.ofAK [] ?_) <;> (repeat' (first | exact trivial | refine HpLe.dd ?_ | refine HpLe.mk rfl (by simp) rfl (fun h => AObj.noConfusion h) ?_ ?_ | refine And.intro ?_ ?_ | exact cl9 | refine VLe.pe ?_ | refine VLe.agg ?_ | refine VLe.tup ?_ | refine VLe.fn ?_ ?_ | refine VLeL.cons ?_ ?_ | exact VLeL.nil | exact OLe.row _ _ | rfl | refine VLe.rsle rfl ?_ ?_ ?_ | refine OLe.rowe2 ?_ ?_ | refine OLe.mape ?_ ?_ | refine OLe.iter0 ?_ | refine OLe.itere ?_ ?_ | refine OLe.chane ?_ ?_ | refine OLe.mapSe ?_ ?_ ?_ | exact OLe.mapS0 rfl)) <;> try (first | (simp; done) | (congr 1; omega) | (congr 1; (first | (simp; done) | (simp; omega))))
    · have q3 := ih _ hxm hxf hxn hxl rfl cur hcz
      repeat' (first | exact cl1 | ((with_reducible show Exists _); first | exact exHM _ | refine exU8 ?_) | ((with_reducible show callX _ _ _ _ _); (first | refine call_i [579, 1, 2] (q3) (by kernel_rfl) rfl rfl (by decide) cl6 (fun i hi => by match i, hi with | 0, _ => rfl | 1, _ => rfl | 2, _ => rfl) cl7 cl8 (by simp [keys]) ?_)) | ((fail_if_success refine stp ?_); (conv => whnf) <;> (first | exact cl2 | refine Br.dec (fun hc => ?_) (fun hc => absurd hyes hc) | refine ix_v hxi ?_ | refine XAlt.l ?_ | refine Sq.pr ?_ | refine Br.dec (fun hc => ?_) (fun hc => ?_) | refine Br.tt ?_ | refine Br.ff ?_ | refine Br.not ?_ | refine Br.mk (fun hc => ?_) (fun hc => ?_) | refine Opt.nn ?_ | refine Opt.ss ?_ | refine AltA.l ?_ | exact PV.leL_nil | refine PV.leL_cons ?_ ?_ | refine And.intro ?_ ?_ | refine ix_map (fun x hx => ?_) | refine exU8 ?_ | refine nilc (fun hn => ?_) ?_ | exact cl3 | refine imp0 (fun hpos => ?_) | refine fits_i64 ?_ ?_ | exact rfl | exact trivial | (first | refine stq ?_ | fail)))) <;> (try exact cl5)
      refine ⟨⟨i + 1, hlt⟩, by show l.length - (i + 1) < l.length - i; omega, ?_⟩
      show Ent _ _ (hdS [0, 1, 2, 4, 5, 7, 17, 18, 19, 20] _ _ _ [(0, .rsl 579 1 0 (b ++ 3 :: (nml l.length ++ encs (l.take (i + 1)))).length), (19, .p (eI ((i + 1 : Nat) : Int)))] [(195, .dead), (579, .row 1 ((b ++ 3 :: (nml l.length ++ encs (l.take (i + 1)))).map (.int .u8)))] _)
      rw [hnext]
      (refine Ent.ofAK [] ?_) <;> (repeat' (first | exact trivial | refine HpLe.dd ?_ | refine HpLe.mk rfl (by simp) rfl (fun h => AObj.noConfusion h) ?_ ?_ | refine And.intro ?_ ?_ | exact cl9 | refine VLe.pe ?_ | refine VLe.agg ?_ | refine VLe.tup ?_ | refine VLe.fn ?_ ?_ | refine VLeL.cons ?_ ?_ | exact VLeL.nil | exact OLe.row _ _ | rfl | refine VLe.rsle rfl ?_ ?_ ?_ | refine OLe.rowe2 ?_ ?_ | refine OLe.mape ?_ ?_ | refine OLe.iter0 ?_ | refine OLe.itere ?_ ?_ | refine OLe.chane ?_ ?_ | refine OLe.mapSe ?_ ?_ ?_ | exact OLe.mapS0 rfl)) <;> try (first | (simp; done) | (congr 1; omega) | (congr 1; (first | (simp; done) | (simp; omega))))
theorem wList0 (v : Vl) (hf : frm v = true) (hn : nums v) (hl : lens 5000 v) (hk : v.kind = 3) (hz : (enc v).length ≤ 80000000) :
    ICalls Try.prog 90 2 [(0, .cells [.p .nilf, .p (.fn (.func 86) [] []), .p (.fn (.func 89) [] []), .fn (.func 90) [] [.ptr 1 0]]), (1, .cells [.ptr 0 0])] [.p (.sl 0 true []), .p (eW v), .ptr 1 0] (.rsl 2 1 0 (enc v).length) [(0, .cells [.p .nilf, .p (.fn (.func 86) [] []), .p (.fn (.func 89) [] []), .fn (.func 90) [] [.ptr 1 0]]), (1, .cells [.ptr 0 0]), (2, .row 1 ((enc v).map (.int .u8)))] := by
  obtain ⟨k, n, s, l⟩ := v
  have hk : k = 3 := hk
  subst hk
  obtain ⟨hn1, hnl⟩ := hn
  obtain ⟨hll, hls⟩ := hl
  rw [frm_list] at hf
  simp only [Bool.and_eq_true] at hf
  obtain ⟨_, hfl⟩ := hf
  rw [enc_list] at hz ⊢
  have hz : (3 :: (nml l.length ++ encs l)).length ≤ 80000000 := hz
  have hb1 : ([3] : List Int).length ≤ 100000000 := by simp
  have h10 := nml_len64 (u := l.length) (by omega)
  have hw : IntKind.u64.wrap (((l.map eV).length : Nat) : Int) = (l.length : Int) := by rw [List.length_map]; exact u64len (by omega)
  refine ICalls.of (N := 35) (res := [.tmp 5]) mixed Try.func90 rfl rfl rfl (by kernel_rfl) (by simp) [0, 1, 2, 4, 5, 7, 17, 18, 19, 20] (Nat.le_refl _) ?_
  repeat' (first | exact cl1 | ((with_reducible show Exists _); first | exact exHM _ | refine exU8 ?_) | ((with_reducible show callX _ _ _ _ _); (first | refine call_i [258] (numeral3 ([3]) hb1 l.length (by omega) _ _ _ ?_ ?_ ?_) (by kernel_rfl) rfl rfl (by decide) cl6 (fun i hi => by match i, hi with | 0, _ => rfl) cl7 cl8 (by simp [keys]) ?_)) | ((fail_if_success refine stp ?_); (conv => whnf) <;> (first | exact cl2 | refine XAlt.l ?_ | refine Sq.pr ?_ | refine Br.dec (fun hc => ?_) (fun hc => ?_) | refine Br.tt ?_ | refine Br.ff ?_ | refine Br.not ?_ | refine Br.mk (fun hc => ?_) (fun hc => ?_) | refine Opt.nn ?_ | refine Opt.ss ?_ | refine AltA.l ?_ | exact PV.leL_nil | refine PV.leL_cons ?_ ?_ | refine And.intro ?_ ?_ | refine ix_map (fun x hx => ?_) | refine exU8 ?_ | refine nilc (fun hn => ?_) ?_ | exact cl3 | refine imp0 (fun hpos => ?_) | refine fits_i64 ?_ ?_ | exact rfl | exact trivial | (first | refine stq ?_ | fail)))) <;> (try exact cl5)
  · exact hw
  refine Wpc.loopA (α := {i : Nat // i ≤ l.length}) mixed [0, 1, 2, 4, 5, 7, 17, 18, 19, 20] (fun i => [(0, .rsl 578 1 0 (3 :: (nml l.length ++ encs (l.take i.1))).length), (19, .p (eI i.1))]) (fun i => [(194, .dead), (578, .row 1 ((3 :: (nml l.length ++ encs (l.take i.1))).map (.int .u8)))]) (fun _ => 0) (fun i => l.length - i.1) ⟨0, by omega⟩ ?_ ?_
  · (refine Ent.ofAK [] ?_) <;> (repeat' (first | exact trivial | refine HpLe.dd ?_ | refine HpLe.mk rfl (by simp) rfl (fun h => AObj.noConfusion h) ?_ ?_ | refine And.intro ?_ ?_ | exact cl9 | refine VLe.pe ?_ | refine VLe.agg ?_ | refine VLe.tup ?_ | refine VLe.fn ?_ ?_ | refine VLeL.cons ?_ ?_ | exact VLeL.nil | exact OLe.row _ _ | rfl | refine VLe.rsle rfl ?_ ?_ ?_ | refine OLe.rowe2 ?_ ?_ | refine OLe.mape ?_ ?_ | refine OLe.iter0 ?_ | refine OLe.itere ?_ ?_ | refine OLe.chane ?_ ?_ | refine OLe.mapSe ?_ ?_ ?_ | exact OLe.mapS0 rfl)) <;> try (first | (simp; done) | (congr 1; omega) | (congr 1; (first | (simp; done) | (simp; omega))))
    all_goals simp [encs]
  rintro ⟨i, hi⟩
  have hi : i ≤ l.length := hi
  cases hxi : l[i]? with
  | none =>
    have hge : l.length ≤ i := List.getElem?_eq_none_iff.1 hxi
    have hno : ¬ ((i : Int) < ((l.map eV).length : Int)) := by rw [List.length_map]; omega
    rw [List.take_of_length_le hge]
    repeat' (first | exact cl1 | ((with_reducible show Exists _); first | exact exHM _ | refine exU8 ?_) | ((fail_if_success refine stp ?_); (conv => whnf) <;> (first | exact cl2 | refine Br.dec (fun hc => absurd hc hno) (fun hc => ?_) | refine XAlt.l ?_ | refine Sq.pr ?_ | refine Br.dec (fun hc => ?_) (fun hc => ?_) | refine Br.tt ?_ | refine Br.ff ?_ | refine Br.not ?_ | refine Br.mk (fun hc => ?_) (fun hc => ?_) | refine Opt.nn ?_ | refine Opt.ss ?_ | refine AltA.l ?_ | exact PV.leL_nil | refine PV.leL_cons ?_ ?_ | refine And.intro ?_ ?_ | refine ix_map (fun x hx => ?_) | refine exU8 ?_ | refine nilc (fun hn => ?_) ?_ | exact cl3 | refine imp0 (fun hpos => ?_) | refine fits_i64 ?_ ?_ | exact rfl | exact trivial | (first | refine stq ?_ | fail)))) <;> (try exact cl5)
    refine ⟨[], [(0, 0), (1, 1), (2, 578)], ?_, ?_, by decide, by simp, fun i hi => by match i, hi with | 0, _ => rfl | 1, _ => rfl⟩ <;> (repeat' (first | exact trivial | refine HpLe.dd ?_ | refine HpLe.mk rfl (by simp) rfl (fun h => AObj.noConfusion h) ?_ ?_ | refine And.intro ?_ ?_ | exact cl9 | refine VLe.pe ?_ | refine VLe.agg ?_ | refine VLe.tup ?_ | refine VLe.fn ?_ ?_ | refine VLeL.cons ?_ ?_ | exact VLeL.nil | exact OLe.row _ _ | rfl | refine VLe.rsle rfl ?_ ?_ ?_ | refine OLe.rowe2 ?_ ?_ | refine OLe.mape ?_ ?_ | refine OLe.iter0 ?_ | refine OLe.itere ?_ ?_ | refine OLe.chane ?_ ?_ | refine OLe.mapSe ?_ ?_ ?_ | exact OLe.mapS0 rfl))
  | some x =>
    have hlt : i < l.length := (List.getElem?_eq_some_iff.1 hxi).1
    have hyes : ((i : Int) < ((l.map eV).length : Int)) := by rw [List.length_map]; omega
    have hxm := List.mem_of_getElem? hxi
    have htk := encs_take hxi
    have hte := encs_le (l := l) (i := i + 1)
    have hxf := List.all_eq_true.1 hfl x hxm
    have hxn := numsL_mem hnl hxm
    have hxl := lensL_mem hls hxm
    generalize hcur : 3 :: (nml l.length ++ encs (l.take i)) = cur at *
    have hnext : 3 :: (nml l.length ++ encs (l.take (i + 1))) = cur ++ enc x := by rw [htk, ← hcur]; simp
    have hcz : (cur ++ enc x).length ≤ 80000000 := by
      rw [← hnext]
      simp only [List.length_cons, List.length_append] at hz ⊢
      omega
    have hcl : cur.length ≤ 80000000 := by simp only [List.length_append] at hcz; omega
    obtain ⟨k', n', s', l'⟩ := x
    have hk' : k' = 1 ∨ k' = 2 ∨ k' = 3 := by
      by_cases h1 : k' = 1
      · exact .inl h1
      · by_cases h2 : k' = 2
        · exact .inr (.inl h2)
        · by_cases h3 : k' = 3
          · exact .inr (.inr h3)
          · rw [frm_other h1 h2 h3] at hxf; cases hxf
    rcases hk' with e | e | e <;> subst e
    · have q3 := wInt cur (by omega) n' hxn.1 s' l'
      repeat' (first | exact cl1 | ((with_reducible show Exists _); first | exact exHM _ | refine exU8 ?_) | ((with_reducible show callX _ _ _ _ _); (first | refine call_i [578] (q3) (by kernel_rfl) rfl rfl (by decide) cl6 (fun i hi => by match i, hi with | 0, _ => rfl) cl7 cl8 (by simp [keys]) ?_)) | ((fail_if_success refine stp ?_); (conv => whnf) <;> (first | exact cl2 | refine Br.dec (fun hc => ?_) (fun hc => absurd hyes hc) | refine ix_v hxi ?_ | refine XAlt.l ?_ | refine Sq.pr ?_ | refine Br.dec (fun hc => ?_) (fun hc => ?_) | refine Br.tt ?_ | refine Br.ff ?_ | refine Br.not ?_ | refine Br.mk (fun hc => ?_) (fun hc => ?_) | refine Opt.nn ?_ | refine Opt.ss ?_ | refine AltA.l ?_ | exact PV.leL_nil | refine PV.leL_cons ?_ ?_ | refine And.intro ?_ ?_ | refine ix_map (fun x hx => ?_) | refine exU8 ?_ | refine nilc (fun hn => ?_) ?_ | exact cl3 | refine imp0 (fun hpos => ?_) | refine fits_i64 ?_ ?_ | exact rfl | exact trivial | (first | refine stq ?_ | fail)))) <;> (try exact cl5)
      refine ⟨⟨i + 1, hlt⟩, by show l.length - (i + 1) < l.length - i; omega, ?_⟩
      show Ent _ _ (hdS [0, 1, 2, 4, 5, 7, 17, 18, 19, 20] _ _ _ [(0, .rsl 578 1 0 (3 :: (nml l.length ++ encs (l.take (i + 1)))).length), (19, .p (eI ((i + 1 : Nat) : Int)))] [(194, .dead), (578, .row 1 ((3 :: (nml l.length ++ encs (l.take (i + 1)))).map (.int .u8)))] _)
      rw [hnext]
      (refine Ent.ofAK [] ?_) <;> (repeat' (first | exact trivial | refine HpLe.dd ?_ | refine HpLe.mk rfl (by simp) rfl (fun h => AObj.noConfusion h) ?_ ?_ | refine And.intro ?_ ?_ | exact cl9 | refine VLe.pe ?_ | refine VLe.agg ?_ | refine VLe.tup ?_ | refine VLe.fn ?_ ?_ | refine VLeL.cons ?_ ?_ | exact VLeL.nil | exact OLe.row _ _ | rfl | refine VLe.rsle rfl ?_ ?_ ?_ | refine OLe.rowe2 ?_ ?_ | refine OLe.mape ?_ ?_ | refine OLe.iter0 ?_ | refine OLe.itere ?_ ?_ | refine OLe.chane ?_ ?_ | refine OLe.mapSe ?_ ?_ ?_ | exact OLe.mapS0 rfl)) <;> try (first | (simp; done) | (congr 1; omega) | (congr 1; (first | (simp; done) | (simp; omega))))
    · have hs' : s'.size ≤ 90000000 := by
        have := bytes_len s'
        rw [enc_text] at hcz
        simp only [List.length_cons, List.length_append] at hcz; omega
      have q3 := wText cur (by omega) n' s' hs' l' (by omega)
      repeat' (first | exact cl1 | ((with_reducible show Exists _); first | exact exHM _ | refine exU8 ?_) | ((with_reducible show callX _ _ _ _ _); (first | refine call_i [578] (q3) (by kernel_rfl) rfl rfl (by decide) cl6 (fun i hi => by match i, hi with | 0, _ => rfl) cl7 cl8 (by simp [keys]) ?_)) | ((fail_if_success refine stp ?_); (conv => whnf) <;> (first | exact cl2 | refine Br.dec (fun hc => ?_) (fun hc => absurd hyes hc) | refine ix_v hxi ?_ | refine XAlt.l ?_ | refine Sq.pr ?_ | refine Br.dec (fun hc => ?_) (fun hc => ?_) | refine Br.tt ?_ | refine Br.ff ?_ | refine Br.not ?_ | refine Br.mk (fun hc => ?_) (fun hc => ?_) | refine Opt.nn ?_ | refine Opt.ss ?_ | refine AltA.l ?_ | exact PV.leL_nil | refine PV.leL_cons ?_ ?_ | refine And.intro ?_ ?_ | refine ix_map (fun x hx => ?_) | refine exU8 ?_ | refine nilc (fun hn => ?_) ?_ | exact cl3 | refine imp0 (fun hpos => ?_) | refine fits_i64 ?_ ?_ | exact rfl | exact trivial | (first | refine stq ?_ | fail)))) <;> (try exact cl5)
      refine ⟨⟨i + 1, hlt⟩, by show l.length - (i + 1) < l.length - i; omega, ?_⟩
      show Ent _ _ (hdS [0, 1, 2, 4, 5, 7, 17, 18, 19, 20] _ _ _ [(0, .rsl 578 1 0 (3 :: (nml l.length ++ encs (l.take (i + 1)))).length), (19, .p (eI ((i + 1 : Nat) : Int)))] [(194, .dead), (578, .row 1 ((3 :: (nml l.length ++ encs (l.take (i + 1)))).map (.int .u8)))] _)
      rw [hnext]
      (refine Ent.ofAK [] ?_) <;> (repeat' (first | exact trivial | refine HpLe.dd ?_ | refine HpLe.mk rfl (by simp) rfl (fun h => AObj.noConfusion h) ?_ ?_ | refine And.intro ?_ ?_ | exact cl9 | refine VLe.pe ?_ | refine VLe.agg ?_ | refine VLe.tup ?_ | refine VLe.fn ?_ ?_ | refine VLeL.cons ?_ ?_ | exact VLeL.nil | exact OLe.row _ _ | rfl | refine VLe.rsle rfl ?_ ?_ ?_ | refine OLe.rowe2 ?_ ?_ | refine OLe.mape ?_ ?_ | refine OLe.iter0 ?_ | refine OLe.itere ?_ ?_ | refine OLe.chane ?_ ?_ | refine OLe.mapSe ?_ ?_ ?_ | exact OLe.mapS0 rfl)) <;> try (first | (simp; done) | (congr 1; omega) | (congr 1; (first | (simp; done) | (simp; omega))))
    · have q3 := wList _ hxf hxn hxl rfl cur hcz
      repeat' (first | exact cl1 | ((with_reducible show Exists _); first | exact exHM _ | refine exU8 ?_) | ((with_reducible show callX _ _ _ _ _); (first | refine call_i [578, 0, 1] (q3) (by kernel_rfl) rfl rfl (by decide) cl6 (fun i hi => by match i, hi with | 0, _ => rfl | 1, _ => rfl | 2, _ => rfl) cl7 cl8 (by simp [keys]) ?_)) | ((fail_if_success refine stp ?_); (conv => whnf) <;> (first | exact cl2 | refine Br.dec (fun hc => ?_) (fun hc => absurd hyes hc) | refine ix_v hxi ?_ | refine XAlt.l ?_ | refine Sq.pr ?_ | refine Br.dec (fun hc => ?_) (fun hc => ?_) | refine Br.tt ?_ | refine Br.ff ?_ | refine Br.not ?_ | refine Br.mk (fun hc => ?_) (fun hc => ?_) | refine Opt.nn ?_ | refine Opt.ss ?_ | refine AltA.l ?_ | exact PV.leL_nil | refine PV.leL_cons ?_ ?_ | refine And.intro ?_ ?_ | refine ix_map (fun x hx => ?_) | refine exU8 ?_ | refine nilc (fun hn => ?_) ?_ | exact cl3 | refine imp0 (fun hpos => ?_) | refine fits_i64 ?_ ?_ | exact rfl | exact trivial | (first | refine stq ?_ | fail)))) <;> (try exact cl5)
      refine ⟨⟨i + 1, hlt⟩, by show l.length - (i + 1) < l.length - i; omega, ?_⟩
      show Ent _ _ (hdS [0, 1, 2, 4, 5, 7, 17, 18, 19, 20] _ _ _ [(0, .rsl 578 1 0 (3 :: (nml l.length ++ encs (l.take (i + 1)))).length), (19, .p (eI ((i + 1 : Nat) : Int)))] [(194, .dead), (578, .row 1 ((3 :: (nml l.length ++ encs (l.take (i + 1)))).map (.int .u8)))] _)
      rw [hnext]
      (refine Ent.ofAK [] ?_) <;> (repeat' (first | exact trivial | refine HpLe.dd ?_ | refine HpLe.mk rfl (by simp) rfl (fun h => AObj.noConfusion h) ?_ ?_ | refine And.intro ?_ ?_ | exact cl9 | refine VLe.pe ?_ | refine VLe.agg ?_ | refine VLe.tup ?_ | refine VLe.fn ?_ ?_ | refine VLeL.cons ?_ ?_ | exact VLeL.nil | exact OLe.row _ _ | rfl | refine VLe.rsle rfl ?_ ?_ ?_ | refine OLe.rowe2 ?_ ?_ | refine OLe.mape ?_ ?_ | refine OLe.iter0 ?_ | refine OLe.itere ?_ ?_ | refine OLe.chane ?_ ?_ | refine OLe.mapSe ?_ ?_ ?_ | exact OLe.mapS0 rfl)) <;> try (first | (simp; done) | (congr 1; omega) | (congr 1; (first | (simp; done) | (simp; omega))))
end Go.Proofs.Ytgclicahmbgfiaa.Cd
