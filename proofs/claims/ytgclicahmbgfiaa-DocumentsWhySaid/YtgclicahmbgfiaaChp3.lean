/- A part of the proof: contracts of the functions that the statement reaches. -/
import Derived.Test.YtgclicahmbgfiaaChp2
import Derived.Test.YtgclicahmbgfiaaRows
set_option linter.unusedSimpArgs false
set_option linter.unusedVariables false
set_option linter.unnecessarySimpa false
open Go.Sg.XAlt renaming l → kX
open Go.Sg.Sq renaming pr → kP
open Go.Sg.Br renaming tt → kT, ff → kF, not → kN, dec → kBd, mk → kBm
open Go.Sg.Opt renaming nn → kO, ss → kS
open Go.Sg.AltA renaming l → kA
open Go.Sg.PV renaming leL_cons → kC
open Go.Sg renaming fits_i64 → kG
open Go.Sg.VLe renaming pe → kVp, agg → kVa, tup → kVt, fn → kVf
open Go.Sg.VLeL renaming cons → kVc
open Go.Sg.OLe renaming rowe2 → kQw, mape → kQm, itere → kQj, chane → kQc, mapSe → kQs
open Go.Sg.HpLe renaming dd → kHd, mk → kHm
namespace Go.Proofs.Ytgclicahmbgfiaa
open Go Go.Sg
set_option maxRecDepth 100000
set_option maxHeartbeats 4000000
def hitB (l : List Dc) (sg : List Int) (t no : Int) (k : Nat) : Bool := upB sg t k && revB l no k && effI l sg k
def revS (l : List Dc) (sg : List Int) (t no : Int) (a : Int) (k : Nat) : Int := if 0 ≤ a then a else if hitB l sg t no k then noF l k else -1
def revN (l : List Dc) (sg : List Int) (t no : Int) (n : Nat) : Int := (List.range n).foldl (revS l sg t no) (-1)
theorem revN_succ (l : List Dc) (sg : List Int) (t no : Int) (n : Nat) : revN l sg t no (n + 1) = revS l sg t no (revN l sg t no n) n := by
  unfold revN; rw [List.range_succ, List.foldl_append]; rfl
theorem noF_nonneg {l : List Dc} (h : ∀ x ∈ l, 0 ≤ x.no) (k : Nat) : 0 ≤ noF l k := by
  unfold noF
  cases hx : l[k]? with
  | none => exact Int.le_refl 0
  | some d => exact h d (List.mem_of_getElem? hx)
theorem revN_cases {l : List Dc} {sg : List Int} {t no : Int} (h : ∀ x ∈ l, 0 ≤ x.no) : ∀ n, (revN l sg t no n = -1 ∧ ∀ k, k < n → hitB l sg t no k = false) ∨ ∃ k, k < n ∧ hitB l sg t no k = true ∧ revN l sg t no n = noF l k ∧ ∀ j, j < k → hitB l sg t no j = false
  | 0 => .inl ⟨rfl, fun k h => by omega⟩
  | n + 1 => by
    rw [revN_succ]
    unfold revS
    rcases revN_cases (sg := sg) (t := t) (no := no) h n with ⟨h1, h2⟩ | ⟨k, h1, h2, h3, h4⟩
    · rw [h1, if_neg (by decide)]
      cases hb : hitB l sg t no n with
      | true => exact .inr ⟨n, by omega, hb, by rw [if_pos rfl], h2⟩
      | false =>
        refine .inl ⟨by rw [if_neg (by decide)], fun k hk => ?_⟩
        rcases Nat.lt_succ_iff_lt_or_eq.1 hk with e | e
        · exact h2 k e
        · rw [e]; exact hb
    · rw [h3, if_pos (noF_nonneg h k)]
      exact .inr ⟨k, by omega, h2, rfl, h4⟩
theorem minL_step (x y : Int) (r : List Int) : minL x (y :: r) = minL (if y < x then y else x) r := rfl
theorem minL_mem : ∀ (r : List Int) (x : Int), minL x r ∈ x :: r
  | [], x => by simp [minL]
  | y :: r, x => by
    rw [minL_step]
    have := minL_mem r (if y < x then y else x)
    rcases List.mem_cons.1 this with e | e
    · rw [e]; split <;> simp
    · simp [e]
theorem minL_le : ∀ (r : List Int) (x : Int), ∀ y ∈ x :: r, minL x r ≤ y
  | [], x, y, h => by simp at h; rw [h]; exact Int.le_refl _
  | z :: r, x, y, h => by
    rw [minL_step]
    have ih := minL_le r (if z < x then z else x)
    have h0 := ih _ (List.mem_cons_self)
    rcases List.mem_cons.1 h with e | e
    · subst e; refine Int.le_trans h0 ?_; split <;> omega
    · rcases List.mem_cons.1 e with e | e
      · subst e; refine Int.le_trans h0 ?_; split <;> omega
      · exact ih y (by simp [e])
theorem fin_bef {l : List Dc} {sg : List Int} {t : Int} {k i : Nat} (h : (ordL sg t)[k]? = some i) : finP l (befL sg i) (sgF sg i) = playP l sg ((ordL sg t).take k) := by
  have hu := (ordL_mem.1 (List.mem_of_getElem? h)).2
  unfold upB at hu
  rw [Bool.and_eq_true] at hu
  have hi0 := of_decide_eq_true hu.1
  have hbt := bef_take h
  unfold finP
  rw [← hbt]
  unfold playP
  exact play_congr _ _ fun j hj => bef_val hi0 hj
theorem row_mem {l : List Dc} {sg : List Int} {t : Int} (hz : chkA l = 0) (hF : ∀ x ∈ l, okF x) (hsz : sg.length = l.length) (no y : Int) : y ∈ rowF (finP l sg t).rv no ↔ ∃ k, k < l.length ∧ hitB l sg t no k = true ∧ y = noF l k := by
  obtain ⟨_, hr, hsr, hnm⟩ := chkA_srt hz
  have h := row_of (l := l) (sg := sg) (ordL_nodup sg t) (fun x hx => ⟨(hF x hx).2.1, rev_srt (hr x hx)⟩) (fun i hi => by have := (ordL_mem.1 hi).1; omega) no (ordL sg t).length (Nat.le_refl _)
  rw [List.take_length] at h
  rw [show rowF (finP l sg t).rv no = _ from h]
  constructor
  · intro e
    obtain ⟨k, hk, rfl⟩ := List.mem_map.1 e
    obtain ⟨k1, k2⟩ := List.mem_filter.1 hk
    rw [Bool.and_eq_true] at k2
    have h1 := ordL_mem.1 k1
    refine ⟨k, by omega, ?_, rfl⟩
    unfold hitB
    rw [h1.2, k2.2, (eff_iff hz hF hsz k1).1 (of_decide_eq_true k2.1)]; rfl
  · rintro ⟨k, k1, k2, rfl⟩
    unfold hitB at k2
    simp only [Bool.and_eq_true] at k2
    obtain ⟨⟨b1, b2⟩, b3⟩ := k2
    have hkO : k ∈ ordL sg t := ordL_mem.2 ⟨by omega, b1⟩
    refine List.mem_map.2 ⟨k, List.mem_filter.2 ⟨hkO, ?_⟩, rfl⟩
    rw [b2, Bool.and_true]
    exact decide_eq_true ((eff_iff hz hF hsz hkO).2 b3)
theorem noF_mono {l : List Dc} (hs : l.Pairwise fun a b => Dc.no a < Dc.no b) {j k : Nat} (hj : j ≤ k) (hk : k < l.length) : noF l j ≤ noF l k := by
  have h1 : l[j]? = some l[j] := List.getElem?_eq_getElem (by omega)
  have h2 : l[k]? = some l[k] := List.getElem?_eq_getElem hk
  rw [noF_of h1, noF_of h2]
  rcases Nat.lt_or_eq_of_le hj with e | e
  · have := srt_lt Dc.no hs e h1 h2; omega
  · subst e; exact Int.le_refl _
theorem min_row {l : List Dc} {sg : List Int} {t : Int} (hz : chkA l = 0) (hF : ∀ x ∈ l, okF x) (hsz : sg.length = l.length) (no : Int) :
    (match aget no (finP l sg t).rv with | some (x :: r) => minL x r | _ => -1) = revN l sg t no l.length ∧ ((∃ x r, aget no (finP l sg t).rv = some (x :: r)) ↔ 0 ≤ revN l sg t no l.length) := by
  obtain ⟨_, hr, hsr, hnm⟩ := chkA_srt hz
  have hn0 : ∀ x ∈ l, 0 ≤ x.no := fun x hx => rightA_no (hr x hx)
  have hm := row_mem (t := t) hz hF hsz no
  unfold rowF at hm
  rcases revN_cases (sg := sg) (t := t) (no := no) hn0 l.length with ⟨h1, h2⟩ | ⟨k, h1, h2, h3, h4⟩
  · rw [h1]
    cases hg : aget no (finP l sg t).rv with
    | none => exact ⟨rfl, by constructor; (rintro ⟨x, r, h⟩; cases h); (intro h; omega)⟩
    | some z =>
      cases z with
      | nil => exact ⟨rfl, by constructor; (rintro ⟨x, r, h⟩; cases h); (intro h; omega)⟩
      | cons x r =>
        rw [hg] at hm
        obtain ⟨k, k1, k2, _⟩ := (hm x).1 (by simp)
        rw [h2 k k1] at k2; cases k2
  · rw [h3]
    have hk := (hm (noF l k)).2 ⟨k, h1, h2, rfl⟩
    cases hg : aget no (finP l sg t).rv with
    | none => rw [hg] at hk; cases hk
    | some z =>
      cases z with
      | nil => rw [hg] at hk; cases hk
      | cons x r =>
        rw [hg] at hk hm
        refine ⟨?_, fun _ => noF_nonneg hn0 k, fun _ => ⟨x, r, rfl⟩⟩
        have a := minL_le r x _ hk
        obtain ⟨j, j1, j2, j3⟩ := (hm (minL x r)).1 (minL_mem r x)
        have hkj : k ≤ j := by
          rcases Nat.lt_or_ge j k with e | e
          · rw [h4 j e] at j2; cases j2
          · exact e
        have b := noF_mono hsr hkj j1
        show minL x r = noF l k
        omega
structure WhyL (l : List Dc) (sg : List Int) (t : Int) (i : Nat) (d : Dc) : Prop where
  op : upB sg t i = false → stA l (finP l sg t) i t = (1, -1)
  need : upB sg t i = true → 0 ≤ needF l (finP l (befL sg i) (sgF sg i)) (sgF sg i) d.need → stA l (finP l sg t) i t = (4, needF l (finP l (befL sg i) (sgF sg i)) (sgF sg i) d.need)
  rev : upB sg t i = true → needF l (finP l (befL sg i) (sgF sg i)) (sgF sg i) d.need < 0 → 0 ≤ revN l sg t d.no l.length → stA l (finP l sg t) i t = (5, revN l sg t d.no l.length)
  els : upB sg t i = true → needF l (finP l (befL sg i) (sgF sg i)) (sgF sg i) d.need < 0 → revN l sg t d.no l.length < 0 → stA l (finP l sg t) i t = if t < d.frm then (2, -1) else if d.til ≤ t then (3, -1) else (0, -1)
theorem why_law {l : List Dc} {sg : List Int} {t : Int} (hz : chkA l = 0) (hF : ∀ x ∈ l, okF x) (hsz : sg.length = l.length) {i : Nat} {d : Dc} (hd : l[i]? = some d) : WhyL l sg t i d := by
  have hil := (List.getElem?_eq_some_iff.1 hd).1
  have hdn : (finP l sg t).dn.getD i false = decide (i ∈ ordL sg t) := play_dn _ (fun j hj => by have := (ordL_mem.1 hj).1; omega) i
  obtain ⟨r1, r2⟩ := min_row (t := t) hz hF hsz d.no
  have hup : upB sg t i = true → i ∈ ordL sg t := fun h => ordL_mem.2 ⟨by omega, h⟩
  have hlk : upB sg t i = true → (finP l sg t).lk.getD i 0 = needF l (finP l (befL sg i) (sgF sg i)) (sgF sg i) d.need := fun h => by
    obtain ⟨k, hk⟩ := List.getElem?_of_mem (hup h)
    rw [fin_bef hk]
    exact lk_of (l := l) (sg := sg) (ordL_nodup sg t) (fun x hx => (hF x hx).2.1) hk hd
  refine ⟨fun h => ?_, fun h h0 => ?_, fun h h0 hR => ?_, fun h h0 hR => ?_⟩
  · have : ¬ i ∈ ordL sg t := fun hm => by have := (ordL_mem.1 hm).2; rw [h] at this; cases this
    rw [decide_eq_false this] at hdn
    unfold stA; rw [hd]; simp only [hdn]; rfl
  · rw [decide_eq_true (hup h)] at hdn
    have hk := hlk h
    unfold stA; rw [hd]; simp only [hdn, hk]; rw [if_neg (by decide), if_pos h0]
  · rw [decide_eq_true (hup h)] at hdn
    have hk := hlk h
    obtain ⟨x, r, hg⟩ := r2.2 hR
    rw [hg] at r1
    have r1 : minL x r = revN l sg t d.no l.length := r1
    unfold stA; rw [hd]; simp only [hdn, hk, hg]; rw [if_neg (by decide), if_neg (by omega), r1]
  · rw [decide_eq_true (hup h)] at hdn
    have hk := hlk h
    unfold stA; rw [hd]; simp only [hdn, hk]; rw [if_neg (by decide), if_neg (by omega)]
    cases hg : aget d.no (finP l sg t).rv with
    | none => rfl
    | some z =>
      cases z with
      | nil => rfl
      | cons x r => exact absurd (r2.1 ⟨x, r, hg⟩) (by omega)
end Go.Proofs.Ytgclicahmbgfiaa

namespace Go.Proofs.Ytgclicahmbgfiaa
open Go Go.Sg
set_option maxRecDepth 100000
set_option maxHeartbeats 40000000
theorem needF_drop {l : List Dc} {p : Pl} {t : Int} {need : List Int} {j : Nat} {no : Int} (h : need[j]? = some no) : needF l p t (need.drop j) = if forF l p t (ixF l no) then needF l p t (need.drop (j + 1)) else no := by
  have hlt := (List.getElem?_eq_some_iff.1 h).1
  have ed : need.drop j = no :: need.drop (j + 1) := by rw [List.drop_eq_getElem_cons hlt]; congr 1; exact (List.getElem?_eq_some_iff.1 h).2
  rw [ed, needF_cons]
  unfold forF
  by_cases hs : (stA l p (ixF l no) t).1 = 0
  · rw [if_neg (fun k => k hs), decide_eq_true hs, if_pos rfl]
  · rw [if_pos hs, decide_eq_false hs]; rfl
theorem stA_rng {l : List Dc} {P : Pl} {i : Nat} {t : Int} {d : Dc} (hd : l[i]? = some d) : 0 ≤ (stA l P i t).1 ∧ (stA l P i t).1 ≤ 5 := by
  unfold stA
  rw [hd]
  simp only
  repeat' split
  all_goals (constructor <;> simp)
theorem rightA_ft {x : Dc} (h : rightA x = true) : x.frm < x.til := by
  unfold rightA at h
  simp only [Bool.and_eq_true, decide_eq_true_eq] at h
  exact h.1.2.1.2
theorem why_calls6 (l : List Dc) (sg : List Int) (t : Int) (hl : l.length < 140737488355328) (hsl : sg.length < 140737488355328) : PCalls Try.prog 6 [eL l, eIs sg, eI t] (.bool true) := by
  have q0 := sane_calls
  have q1 := lawRight_calls l sg hl hsl
  have q2 := rtime_calls t
  cases hr : rgtB l sg with
  | false =>
    rw [hr] at q1
    refine PCalls.of (N := 198) (res := [.tmp 6]) mixed Try.func6 rfl rfl rfl (by kernel_rfl) (by simp) [0, 1, 2, 6, 7, 8, 9, 10, 11, 12, 13, 14, 15, 17, 18, 19, 20, 21, 23, 32, 33, 34, 35, 36, 77, 79, 93, 95, 96, 97, 98, 108, 111, 112, 113, 114, 142, 151, 152, 156, 165, 166, 175, 176] ?_
    repeat' (first | exact cl1 | (refine stx ?_; first | exact exHM _ | refine exU8 ?_) | ((with_reducible show callX _ _ _ _ _); (first | refine call_p (q0) (by kernel_rfl) rfl ?_ | refine call_p (q1) (by kernel_rfl) rfl ?_)) | ((fail_if_success refine stp ?_); (conv => whnf) <;> (first | exact cl2 | refine kX ?_ | refine kP ?_ | refine kBd (fun hc => ?_) (fun hc => ?_) | refine kT ?_ | refine kF ?_ | refine kN ?_ | refine kBm (fun hc => ?_) (fun hc => ?_) | refine kO ?_ | refine kS ?_ | refine kA ?_ | exact PV.leL_nil | refine kC ?_ ?_ | refine And.intro ?_ ?_ | refine ix_map (fun x hx => ?_) | refine exU8 ?_ | refine nilc (fun hn => ?_) ?_ | exact cl3 | refine imp0 (fun hpos => ?_) | refine kG ?_ ?_ | exact rfl | exact trivial | (first | refine stq ?_ | fail)))) <;> (try exact cl5)
  | true =>
  rw [hr] at q1
  cases ht : wiB TM t with
  | false =>
    rw [ht] at q2
    refine PCalls.of (N := 198) (res := [.tmp 6]) mixed Try.func6 rfl rfl rfl (by kernel_rfl) (by simp) [0, 1, 2, 6, 7, 8, 9, 10, 11, 12, 13, 14, 15, 17, 18, 19, 20, 21, 23, 32, 33, 34, 35, 36, 77, 79, 93, 95, 96, 97, 98, 108, 111, 112, 113, 114, 142, 151, 152, 156, 165, 166, 175, 176] ?_
    repeat' (first | exact cl1 | (refine stx ?_; first | exact exHM _ | refine exU8 ?_) | ((with_reducible show callX _ _ _ _ _); (first | refine call_p (q0) (by kernel_rfl) rfl ?_ | refine call_p (q1) (by kernel_rfl) rfl ?_ | refine call_p (q2) (by kernel_rfl) rfl ?_)) | ((fail_if_success refine stp ?_); (conv => whnf) <;> (first | exact cl2 | refine kX ?_ | refine kP ?_ | refine kBd (fun hc => ?_) (fun hc => ?_) | refine kT ?_ | refine kF ?_ | refine kN ?_ | refine kBm (fun hc => ?_) (fun hc => ?_) | refine kO ?_ | refine kS ?_ | refine kA ?_ | exact PV.leL_nil | refine kC ?_ ?_ | refine And.intro ?_ ?_ | refine ix_map (fun x hx => ?_) | refine exU8 ?_ | refine nilc (fun hn => ?_) ?_ | exact cl3 | refine imp0 (fun hpos => ?_) | refine kG ?_ ?_ | exact rfl | exact trivial | (first | refine stq ?_ | fail)))) <;> (try exact cl5)
  | true =>
  rw [ht] at q2
  obtain ⟨h20, hd, hz, hs⟩ := rgtB_f hr
  have hsz := sgB_len hs
  obtain ⟨_, hrr, hsr, hnm⟩ := chkA_srt hz
  refine PCalls.of (N := 198) (res := [.tmp 6]) mixed Try.func6 rfl rfl rfl (by kernel_rfl) (by simp) [0, 1, 2, 6, 7, 8, 9, 10, 11, 12, 13, 14, 15, 17, 18, 19, 20, 21, 23, 32, 33, 34, 35, 36, 77, 79, 93, 95, 96, 97, 98, 108, 111, 112, 113, 114, 142, 151, 152, 156, 165, 166, 175, 176] ?_
  repeat' (first | exact cl1 | (refine stx ?_; first | exact exHM _ | refine exU8 ?_) | ((with_reducible show callX _ _ _ _ _); (first | refine call_p (q0) (by kernel_rfl) rfl ?_ | refine call_p (q1) (by kernel_rfl) rfl ?_ | refine call_p (q2) (by kernel_rfl) rfl ?_)) | ((fail_if_success refine stp ?_); (conv => whnf) <;> (first | exact cl2 | refine kX ?_ | refine kP ?_ | refine kBd (fun hc => ?_) (fun hc => ?_) | refine kT ?_ | refine kF ?_ | refine kN ?_ | refine kBm (fun hc => ?_) (fun hc => ?_) | refine kO ?_ | refine kS ?_ | refine kA ?_ | exact PV.leL_nil | refine kC ?_ ?_ | refine And.intro ?_ ?_ | refine ix_map (fun x hx => ?_) | refine exU8 ?_ | refine nilc (fun hn => ?_) ?_ | exact cl3 | refine imp0 (fun hpos => ?_) | refine kG ?_ ?_ | exact rfl | exact trivial | (first | refine stq ?_ | fail)))) <;> (try exact cl5)
  refine Wpc.loopB (α := {i : Nat // i ≤ l.length}) mixed [0, 1, 2, 6, 7, 8, 9, 10, 11, 12, 13, 14, 15, 17, 18, 19, 20, 21, 23, 32, 33, 34, 35, 36, 77, 79, 93, 95, 96, 97, 98, 108, 111, 112, 113, 114, 142, 151, 152, 156, 165, 166, 175, 176] (fun i => [(35, .p (eI i.1))]) (fun i => l.length - i.1) ⟨0, by omega⟩ ?_ ?_
  · (first | refine Ent.ofA [] ?_ | refine Ent.ofC [] ?_) <;> (repeat' (first | exact trivial | refine kHd ?_ | refine kHm rfl (by simp) rfl (fun h => AObj.noConfusion h) ?_ ?_ | refine And.intro ?_ ?_ | exact cl9 | refine kVp ?_ | refine kVa ?_ | refine kVt ?_ | refine kVf ?_ ?_ | refine kVc ?_ ?_ | exact VLeL.nil | exact OLe.row _ _ | rfl | refine VLe.rsle rfl ?_ ?_ ?_ | refine kQw ?_ ?_ | refine kQm ?_ ?_ | refine kQj ?_ ?_ | refine kQc ?_ ?_ | refine kQs ?_ ?_ ?_ | exact OLe.mapS0 rfl)) <;> try exact kZ
  rintro ⟨i, hi⟩
  have hi : i ≤ l.length := hi
  cases hx : l[i]? with
  | none =>
    have hge : l.length ≤ i := List.getElem?_eq_none_iff.1 hx
    have hno : ¬ ((i : Int) < ((l.map eA).length : Int)) := by rw [List.length_map]; omega
    repeat' (first | exact cl1 | (refine stx ?_; first | exact exHM _ | refine exU8 ?_) | ((fail_if_success refine stp ?_); (conv => whnf) <;> (first | exact cl2 | refine kBn hno fun hc => ?_ | refine kX ?_ | refine kP ?_ | refine kBd (fun hc => ?_) (fun hc => ?_) | refine kT ?_ | refine kF ?_ | refine kN ?_ | refine kBm (fun hc => ?_) (fun hc => ?_) | refine kO ?_ | refine kS ?_ | refine kA ?_ | exact PV.leL_nil | refine kC ?_ ?_ | refine And.intro ?_ ?_ | refine ix_map (fun x hx => ?_) | refine exU8 ?_ | refine nilc (fun hn => ?_) ?_ | exact cl3 | refine imp0 (fun hpos => ?_) | refine kG ?_ ?_ | exact rfl | exact trivial | (first | refine stq ?_ | fail)))) <;> (try exact cl5)
  | some d =>
  have hlt := (List.getElem?_eq_some_iff.1 hx).1
  have hyes : ((i : Int) < ((l.map eA).length : Int)) := by rw [List.length_map]; omega
  have hsi : sg[i]? = some (sgF sg i) := by simp [sgF, List.getD, show i < sg.length by omega]
  have hsi2 : sg[(i : Int).toNat]? = some (sgF sg i) := by rw [Int.toNat_natCast]; exact hsi
  have qw := why_calls l sg d.no t h20 hd (by omega)
  rw [why_at hz hs ht hx] at qw
  have hlaw := why_law (t := t) hz hd hsz hx
  have hrng := stA_rng (P := finP l sg t) (t := t) hx
  have hft : d.frm < d.til := rightA_ft (hrr d (List.mem_of_getElem? hx))
  by_cases hu : 0 ≤ sgF sg i ∧ sgF sg i ≤ t
  rotate_left
  · have hub : upB sg t i = false := by
      unfold upB
      cases h : (decide (0 ≤ sgF sg i) && decide (sgF sg i ≤ t)) with
      | false => rfl
      | true =>
        simp only [Bool.and_eq_true, decide_eq_true_eq] at h
        exact absurd h hu
    rw [hlaw.op hub] at qw
    have qw : PCalls Try.prog 22 [eL l, eIs sg, eI d.no, eI t] (.tup [eI 1, eI (-1), eI 0]) := qw
    repeat' (first | exact cl1 | (refine stx ?_; first | exact exHM _ | refine exU8 ?_) | ((with_reducible show callX _ _ _ _ _); (first | refine call_p (qw) (by kernel_rfl) rfl ?_)) | ((fail_if_success refine stp ?_); (conv => whnf) <;> (first | exact cl2 | refine kBy hyes fun hc => ?_ | refine ix_at hx ?_ | refine ix_at hsi ?_ | refine kX ?_ | refine kP ?_ | refine kBd (fun hc => ?_) (fun hc => ?_) | refine kT ?_ | refine kF ?_ | refine kN ?_ | refine kBm (fun hc => ?_) (fun hc => ?_) | refine kO ?_ | refine kS ?_ | refine kA ?_ | exact PV.leL_nil | refine kC ?_ ?_ | refine And.intro ?_ ?_ | refine ix_map (fun x hx => ?_) | refine exU8 ?_ | refine nilc (fun hn => ?_) ?_ | exact cl3 | refine imp0 (fun hpos => ?_) | refine kG ?_ ?_ | exact rfl | exact trivial | (first | refine stq ?_ | fail)))) <;> (try exact cl5)
    all_goals first
    | (refine ⟨⟨i + 1, hlt⟩, by show l.length - (i + 1) < l.length - i; omega, ?_⟩
       (first | refine Ent.ofA [] ?_ | refine Ent.ofC [] ?_) <;> (repeat' (first | exact trivial | refine kHd ?_ | refine kHm rfl (by simp) rfl (fun h => AObj.noConfusion h) ?_ ?_ | refine And.intro ?_ ?_ | exact cl9 | refine kVp ?_ | refine kVa ?_ | refine kVt ?_ | refine kVf ?_ ?_ | refine kVc ?_ ?_ | exact VLeL.nil | exact OLe.row _ _ | rfl | refine VLe.rsle rfl ?_ ?_ ?_ | refine kQw ?_ ?_ | refine kQm ?_ ?_ | refine kQj ?_ ?_ | refine kQc ?_ ?_ | refine kQs ?_ ?_ ?_ | exact OLe.mapS0 rfl)) <;> try exact kZ
       done)
    | (exfalso; refine hc ?_; have hlt2 : t < sgF sg i := by omega
       show decide ((1 : Int) = 1) = decide (t < sgF sg i); rw [decide_eq_true hlt2]; rfl)
    | (exfalso; dsimp only at *; omega)
    | trace_state
  · have hub : upB sg t i = true := by unfold upB; rw [decide_eq_true hu.1, decide_eq_true hu.2]; rfl
    obtain ⟨hu1, hu2⟩ := hu
    have hn1 : ¬ sgF sg i < 0 := by omega
    have hn2 : ¬ t < sgF sg i := by omega
    have qb := before_calls sg i (by omega) (by omega)
    have qi := inForce_calls l (befL sg i) (sgF sg i) h20 hd (by rw [befL_len]; omega)
    have e3 : inA l (befL sg i) (sgF sg i) = (forL l (finP l (befL sg i) (sgF sg i)) (sgF sg i) l.length, 0) := by
      unfold inA; rw [if_pos hz, sgB_bef hs, sg_time hs (by omega) hu1]; rfl
    rw [e3] at qi
    have hln := hlaw.need hub
    have hlr := hlaw.rev hub
    have hle := hlaw.els hub
    have hne1 : (stA l (finP l sg t) i t).1 ≠ 1 := fun e => by
      rcases Int.lt_or_le (needF l (finP l (befL sg i) (sgF sg i)) (sgF sg i) d.need) 0 with h1 | h1
      · rcases Int.lt_or_le (revN l sg t d.no l.length) 0 with h2 | h2
        · rw [hle h1 h2] at e
          revert e; repeat' split
          all_goals (intro e; exact absurd e (by decide))
        · rw [hlr h1 h2] at e; exact absurd e (by show ¬ (5 : Int) = 1; decide)
      · rw [hln h1] at e; exact absurd e (by show ¬ (4 : Int) = 1; decide)
    have hnlb := (hd d (List.mem_of_getElem? hx)).2.2
    have hnb : thB l d.need = true := by have := hnm d (List.mem_of_getElem? hx); unfold namB at this; rw [Bool.and_eq_true] at this; exact this.2
    have hnn : ∀ n ∈ d.need, 0 ≤ n := fun n hn => ((rightA_f (hrr d (List.mem_of_getElem? hx))).ls d.need (by simp)).2 n hn |>.1
    have hRn : ∀ n, -1 ≤ revN l sg t d.no n := fun n => by
      rcases revN_cases (sg := sg) (t := t) (no := d.no) (fun x hx => rightA_no (hrr x hx)) n with ⟨h1, _⟩ | ⟨k, _, _, h3, _⟩
      · omega
      · rw [h3]; have := noF_nonneg (fun x hx => rightA_no (hrr x hx)) k; omega
    have hIl := forL_len l (finP l (befL sg i) (sgF sg i)) (sgF sg i) l.length
    have qh : ∀ no, no ∈ d.need → PCalls Try.prog 28 [eIs (forL l (finP l (befL sg i) (sgF sg i)) (sgF sg i) l.length), eI no] (.bool (forF l (finP l (befL sg i) (sgF sg i)) (sgF sg i) (ixF l no))) := fun no hno => by
      have := has_calls (forL l (finP l (befL sg i) (sgF sg i)) (sgF sg i) l.length) no (by omega)
      rwa [has_thB hsr (List.all_eq_true.1 hnb no hno)] at this
    generalize hP' : finP l (befL sg i) (sgF sg i) = P' at *
    generalize hN : needF l P' (sgF sg i) d.need = N at *
    generalize hS : stA l (finP l sg t) i t = S at *
    obtain ⟨s, b⟩ := S
    have qw : PCalls Try.prog 22 [eL l, eIs sg, eI d.no, eI t] (.tup [eI s, eI b, eI 0]) := qw
    have qi : PCalls Try.prog 20 [eL l, eIs (befL sg i), eI (sgF sg i)] (.tup [eIs (forL l P' (sgF sg i) l.length), eI 0]) := qi
    have hs0 : ¬ s < 0 := by have := hrng.1; dsimp only at this; omega
    have hs5 : ¬ 5 < s := by have := hrng.2; dsimp only at this; omega
    have hs1 : ¬ s = 1 := hne1
    repeat' (first | exact cl1 | (refine stx ?_; first | exact exHM _ | refine exU8 ?_) | ((with_reducible show callX _ _ _ _ _); (first | refine call_p (qw) (by kernel_rfl) rfl ?_ | refine call_p (qb) (by kernel_rfl) rfl ?_ | refine call_p (qi) (by kernel_rfl) rfl ?_)) | ((fail_if_success refine stp ?_); (conv => whnf) <;> (first | exact cl2 | refine kBn hn1 fun hc => ?_ | refine kBn hn2 fun hc => ?_ | refine kBn hs0 fun hc => ?_ | refine kBn hs5 fun hc => ?_ | refine kBn hs1 fun hc => ?_ | refine kBy hyes fun hc => ?_ | refine ix_at hx ?_ | refine ix_at hsi ?_ | refine ix_at hsi2 ?_ | refine kX ?_ | refine kP ?_ | refine kBd (fun hc => ?_) (fun hc => ?_) | refine kT ?_ | refine kF ?_ | refine kN ?_ | refine kBm (fun hc => ?_) (fun hc => ?_) | refine kO ?_ | refine kS ?_ | refine kA ?_ | exact PV.leL_nil | refine kC ?_ ?_ | refine And.intro ?_ ?_ | refine ix_map (fun x hx => ?_) | refine exU8 ?_ | refine nilc (fun hn => ?_) ?_ | exact cl3 | refine imp0 (fun hpos => ?_) | refine kG ?_ ?_ | exact rfl | exact trivial | (first | refine stq ?_ | fail)))) <;> (try exact cl5)
    all_goals first
    | (exfalso; refine hc ?_; show decide (s = 1) = decide (t < sgF sg i); rw [decide_eq_false hs1, decide_eq_false hn2]; done)
    | skip
    refine Wpc.loopB (α := {x : Nat × Int // x.1 ≤ d.need.length ∧ ((0 ≤ x.2 ∧ x.2 = N) ∨ (x.2 = -1 ∧ needF l P' (sgF sg i) (d.need.drop x.1) = N))}) mixed [0, 1, 2, 6, 7, 8, 9, 10, 11, 12, 13, 14, 15, 17, 18, 19, 20, 21, 23, 32, 33, 34, 35, 36, 77, 79, 93, 95, 96, 97, 98, 108, 111, 112, 113, 114, 142, 151, 152, 156, 165, 166, 175, 176] (fun x => [(14, .p (eI x.1.2)), (97, .p (eI x.1.1))]) (fun x => d.need.length - x.1.1) ⟨(0, -1), by simp, .inr ⟨rfl, hN⟩⟩ ?_ ?_
    · (first | refine Ent.ofA [] ?_ | refine Ent.ofC [] ?_) <;> (repeat' (first | exact trivial | refine kHd ?_ | refine kHm rfl (by simp) rfl (fun h => AObj.noConfusion h) ?_ ?_ | refine And.intro ?_ ?_ | exact cl9 | refine kVp ?_ | refine kVa ?_ | refine kVt ?_ | refine kVf ?_ ?_ | refine kVc ?_ ?_ | exact VLeL.nil | exact OLe.row _ _ | rfl | refine VLe.rsle rfl ?_ ?_ ?_ | refine kQw ?_ ?_ | refine kQm ?_ ?_ | refine kQj ?_ ?_ | refine kQc ?_ ?_ | refine kQs ?_ ?_ ?_ | exact OLe.mapS0 rfl)) <;> try exact kZ
    rintro ⟨⟨j, a⟩, hj, ha⟩
    have hj : j ≤ d.need.length := hj
    have ha : (0 ≤ a ∧ a = N) ∨ (a = -1 ∧ needF l P' (sgF sg i) (d.need.drop j) = N) := ha
    cases hy : d.need[j]? with
    | some no =>
      have hlt2 := (List.getElem?_eq_some_iff.1 hy).1
      have hyes2 : ((j : Int) < ((d.need.map eI).length : Int)) := by rw [List.length_map]; omega
      have hdr := needF_drop (l := l) (p := P') (t := sgF sg i) hy
      have q := qh no (List.mem_of_getElem? hy)
      have hno0 := hnn no (List.mem_of_getElem? hy)
      rcases ha with ⟨ha, haN⟩ | ⟨ha, haN⟩
      · have hna : ¬ a < 0 := by omega
        repeat' (first | exact cl1 | (refine stx ?_; first | exact exHM _ | refine exU8 ?_) | ((fail_if_success refine stp ?_); (conv => whnf) <;> (first | exact cl2 | refine kBn hna fun hc => ?_ | refine kBy hyes2 fun hc => ?_ | refine ix_at hy ?_ | refine kX ?_ | refine kP ?_ | refine kBd (fun hc => ?_) (fun hc => ?_) | refine kT ?_ | refine kF ?_ | refine kN ?_ | refine kBm (fun hc => ?_) (fun hc => ?_) | refine kO ?_ | refine kS ?_ | refine kA ?_ | exact PV.leL_nil | refine kC ?_ ?_ | refine And.intro ?_ ?_ | refine ix_map (fun x hx => ?_) | refine exU8 ?_ | refine nilc (fun hn => ?_) ?_ | exact cl3 | refine imp0 (fun hpos => ?_) | refine kG ?_ ?_ | exact rfl | exact trivial | (first | refine stq ?_ | fail)))) <;> (try exact cl5)
        refine ⟨⟨(j + 1, a), hlt2, .inl ⟨ha, haN⟩⟩, by show d.need.length - (j + 1) < d.need.length - j; omega, ?_⟩
        (first | refine Ent.ofA [] ?_ | refine Ent.ofC [] ?_) <;> (repeat' (first | exact trivial | refine kHd ?_ | refine kHm rfl (by simp) rfl (fun h => AObj.noConfusion h) ?_ ?_ | refine And.intro ?_ ?_ | exact cl9 | refine kVp ?_ | refine kVa ?_ | refine kVt ?_ | refine kVf ?_ ?_ | refine kVc ?_ ?_ | exact VLeL.nil | exact OLe.row _ _ | rfl | refine VLe.rsle rfl ?_ ?_ ?_ | refine kQw ?_ ?_ | refine kQm ?_ ?_ | refine kQj ?_ ?_ | refine kQc ?_ ?_ | refine kQs ?_ ?_ ?_ | exact OLe.mapS0 rfl)) <;> try exact kZ
      · subst ha
        have hneg : (-1 : Int) < 0 := by decide
        rw [haN] at hdr
        cases hf : forF l P' (sgF sg i) (ixF l no) with
        | false =>
          rw [hf] at q hdr
          have hdr : N = no := hdr
          repeat' (first | exact cl1 | (refine stx ?_; first | exact exHM _ | refine exU8 ?_) | ((with_reducible show callX _ _ _ _ _); (first | refine call_p (q) (by kernel_rfl) rfl ?_)) | ((fail_if_success refine stp ?_); (conv => whnf) <;> (first | exact cl2 | refine kBy hneg fun hc => ?_ | refine kBy hyes2 fun hc => ?_ | refine ix_at hy ?_ | refine kX ?_ | refine kP ?_ | refine kBd (fun hc => ?_) (fun hc => ?_) | refine kT ?_ | refine kF ?_ | refine kN ?_ | refine kBm (fun hc => ?_) (fun hc => ?_) | refine kO ?_ | refine kS ?_ | refine kA ?_ | exact PV.leL_nil | refine kC ?_ ?_ | refine And.intro ?_ ?_ | refine ix_map (fun x hx => ?_) | refine exU8 ?_ | refine nilc (fun hn => ?_) ?_ | exact cl3 | refine imp0 (fun hpos => ?_) | refine kG ?_ ?_ | exact rfl | exact trivial | (first | refine stq ?_ | fail)))) <;> (try exact cl5)
          refine ⟨⟨(j + 1, no), hlt2, .inl ⟨hno0, hdr.symm⟩⟩, by show d.need.length - (j + 1) < d.need.length - j; omega, ?_⟩
          (first | refine Ent.ofA [] ?_ | refine Ent.ofC [] ?_) <;> (repeat' (first | exact trivial | refine kHd ?_ | refine kHm rfl (by simp) rfl (fun h => AObj.noConfusion h) ?_ ?_ | refine And.intro ?_ ?_ | exact cl9 | refine kVp ?_ | refine kVa ?_ | refine kVt ?_ | refine kVf ?_ ?_ | refine kVc ?_ ?_ | exact VLeL.nil | exact OLe.row _ _ | rfl | refine VLe.rsle rfl ?_ ?_ ?_ | refine kQw ?_ ?_ | refine kQm ?_ ?_ | refine kQj ?_ ?_ | refine kQc ?_ ?_ | refine kQs ?_ ?_ ?_ | exact OLe.mapS0 rfl)) <;> try exact kZ
        | true =>
          rw [hf] at q hdr
          have hdr : N = needF l P' (sgF sg i) (d.need.drop (j + 1)) := hdr
          repeat' (first | exact cl1 | (refine stx ?_; first | exact exHM _ | refine exU8 ?_) | ((with_reducible show callX _ _ _ _ _); (first | refine call_p (q) (by kernel_rfl) rfl ?_)) | ((fail_if_success refine stp ?_); (conv => whnf) <;> (first | exact cl2 | refine kBy hneg fun hc => ?_ | refine kBy hyes2 fun hc => ?_ | refine ix_at hy ?_ | refine kX ?_ | refine kP ?_ | refine kBd (fun hc => ?_) (fun hc => ?_) | refine kT ?_ | refine kF ?_ | refine kN ?_ | refine kBm (fun hc => ?_) (fun hc => ?_) | refine kO ?_ | refine kS ?_ | refine kA ?_ | exact PV.leL_nil | refine kC ?_ ?_ | refine And.intro ?_ ?_ | refine ix_map (fun x hx => ?_) | refine exU8 ?_ | refine nilc (fun hn => ?_) ?_ | exact cl3 | refine imp0 (fun hpos => ?_) | refine kG ?_ ?_ | exact rfl | exact trivial | (first | refine stq ?_ | fail)))) <;> (try exact cl5)
          refine ⟨⟨(j + 1, -1), hlt2, .inr ⟨rfl, hdr.symm⟩⟩, by show d.need.length - (j + 1) < d.need.length - j; omega, ?_⟩
          (first | refine Ent.ofA [] ?_ | refine Ent.ofC [] ?_) <;> (repeat' (first | exact trivial | refine kHd ?_ | refine kHm rfl (by simp) rfl (fun h => AObj.noConfusion h) ?_ ?_ | refine And.intro ?_ ?_ | exact cl9 | refine kVp ?_ | refine kVa ?_ | refine kVt ?_ | refine kVf ?_ ?_ | refine kVc ?_ ?_ | exact VLeL.nil | exact OLe.row _ _ | rfl | refine VLe.rsle rfl ?_ ?_ ?_ | refine kQw ?_ ?_ | refine kQm ?_ ?_ | refine kQj ?_ ?_ | refine kQc ?_ ?_ | refine kQs ?_ ?_ ?_ | exact OLe.mapS0 rfl)) <;> try exact kZ
    | none =>
      have hge2 : d.need.length ≤ j := List.getElem?_eq_none_iff.1 hy
      have hno2 : ¬ ((j : Int) < ((d.need.map eI).length : Int)) := by rw [List.length_map]; omega
      have haN : a = N := by
        rcases ha with ⟨_, e⟩ | ⟨e1, e2⟩
        · exact e
        · rw [List.drop_eq_nil_of_le hge2] at e2; rw [e1, ← e2]; rfl
      subst haN
      repeat' (first | exact cl1 | (refine stx ?_; first | exact exHM _ | refine exU8 ?_) | ((fail_if_success refine stp ?_); (conv => whnf) <;> (first | exact cl2 | refine kBn hno2 fun hc => ?_ | refine kX ?_ | refine kP ?_ | refine kBd (fun hc => ?_) (fun hc => ?_) | refine kT ?_ | refine kF ?_ | refine kN ?_ | refine kBm (fun hc => ?_) (fun hc => ?_) | refine kO ?_ | refine kS ?_ | refine kA ?_ | exact PV.leL_nil | refine kC ?_ ?_ | refine And.intro ?_ ?_ | refine ix_map (fun x hx => ?_) | refine exU8 ?_ | refine nilc (fun hn => ?_) ?_ | exact cl3 | refine imp0 (fun hpos => ?_) | refine kG ?_ ?_ | exact rfl | exact trivial | (first | refine stq ?_ | fail)))) <;> (try exact cl5)
      refine Wpc.loopB (α := {x : Nat × Int // x.1 ≤ l.length ∧ x.2 = revN l sg t d.no x.1}) mixed [0, 1, 2, 6, 7, 8, 9, 10, 11, 12, 13, 14, 15, 17, 18, 19, 20, 21, 23, 32, 33, 34, 35, 36, 77, 79, 93, 95, 96, 97, 98, 108, 111, 112, 113, 114, 142, 151, 152, 156, 165, 166, 175, 176] (fun x => [(15, .p (eI x.1.2)), (113, .p (eI x.1.1))]) (fun x => l.length - x.1.1) ⟨(0, -1), by simp, rfl⟩ ?_ ?_
      · (first | refine Ent.ofA [] ?_ | refine Ent.ofC [] ?_) <;> (repeat' (first | exact trivial | refine kHd ?_ | refine kHm rfl (by simp) rfl (fun h => AObj.noConfusion h) ?_ ?_ | refine And.intro ?_ ?_ | exact cl9 | refine kVp ?_ | refine kVa ?_ | refine kVt ?_ | refine kVf ?_ ?_ | refine kVc ?_ ?_ | exact VLeL.nil | exact OLe.row _ _ | rfl | refine VLe.rsle rfl ?_ ?_ ?_ | refine kQw ?_ ?_ | refine kQm ?_ ?_ | refine kQj ?_ ?_ | refine kQc ?_ ?_ | refine kQs ?_ ?_ ?_ | exact OLe.mapS0 rfl)) <;> try exact kZ
      rintro ⟨⟨k, r⟩, hk, hrv⟩
      have hk : k ≤ l.length := hk
      have hrv : r = revN l sg t d.no k := hrv
      have hr1 := hRn k
      rw [← hrv] at hr1
      cases hw : l[k]? with
      | some y =>
        have hlt3 := (List.getElem?_eq_some_iff.1 hw).1
        have hyes3 : ((k : Int) < ((l.map eA).length : Int)) := by rw [List.length_map]; omega
        have hsk : sg[k]? = some (sgF sg k) := by simp [sgF, List.getD, show k < sg.length by omega]
        have hsuc := revN_succ l sg t d.no k
        rw [← hrv] at hsuc
        have hrb : revB l d.no k = hasB y.rev d.no := by unfold revB; rw [hw]
        have qv := has_calls y.rev d.no (by have := (hd y (List.mem_of_getElem? hw)).2.1; omega)
        by_cases hv : 0 ≤ sgF sg k ∧ sgF sg k ≤ t
        rotate_left
        · have hvb : upB sg t k = false := by
            unfold upB
            cases h : (decide (0 ≤ sgF sg k) && decide (sgF sg k ≤ t)) with
            | false => rfl
            | true =>
              simp only [Bool.and_eq_true, decide_eq_true_eq] at h
              exact absurd h hv
          have hnx : revN l sg t d.no (k + 1) = r := by
            rw [hsuc]; unfold revS hitB; rw [hvb]
            by_cases h0 : 0 ≤ r
            · rw [if_pos h0]
            · rw [if_neg h0]; show (-1 : Int) = r; omega
          repeat' (first | exact cl1 | (refine stx ?_; first | exact exHM _ | refine exU8 ?_) | ((with_reducible show callX _ _ _ _ _); (first | refine call_p (qv) (by kernel_rfl) rfl ?_)) | ((fail_if_success refine stp ?_); (conv => whnf) <;> (first | exact cl2 | refine kBy hyes3 fun hc => ?_ | refine ix_at hw ?_ | refine ix_at hsk ?_ | refine kX ?_ | refine kP ?_ | refine kBd (fun hc => ?_) (fun hc => ?_) | refine kT ?_ | refine kF ?_ | refine kN ?_ | refine kBm (fun hc => ?_) (fun hc => ?_) | refine kO ?_ | refine kS ?_ | refine kA ?_ | exact PV.leL_nil | refine kC ?_ ?_ | refine And.intro ?_ ?_ | refine ix_map (fun x hx => ?_) | refine exU8 ?_ | refine nilc (fun hn => ?_) ?_ | exact cl3 | refine imp0 (fun hpos => ?_) | refine kG ?_ ?_ | exact rfl | exact trivial | (first | refine stq ?_ | fail)))) <;> (try exact cl5)
          all_goals first
          | (exfalso; dsimp only at *; omega)
          | (refine ⟨⟨(k + 1, r), hlt3, hnx.symm⟩, by show l.length - (k + 1) < l.length - k; omega, ?_⟩
             (first | refine Ent.ofA [] ?_ | refine Ent.ofC [] ?_) <;> (repeat' (first | exact trivial | refine kHd ?_ | refine kHm rfl (by simp) rfl (fun h => AObj.noConfusion h) ?_ ?_ | refine And.intro ?_ ?_ | exact cl9 | refine kVp ?_ | refine kVa ?_ | refine kVt ?_ | refine kVf ?_ ?_ | refine kVc ?_ ?_ | exact VLeL.nil | exact OLe.row _ _ | rfl | refine VLe.rsle rfl ?_ ?_ ?_ | refine kQw ?_ ?_ | refine kQm ?_ ?_ | refine kQj ?_ ?_ | refine kQc ?_ ?_ | refine kQs ?_ ?_ ?_ | exact OLe.mapS0 rfl)) <;> try exact kZ
             done)
          | trace_state
        · have hvb : upB sg t k = true := by unfold upB; rw [decide_eq_true hv.1, decide_eq_true hv.2]; rfl
          obtain ⟨hv1, hv2⟩ := hv
          have hm1 : ¬ sgF sg k < 0 := by omega
          have hm2 : ¬ t < sgF sg k := by omega
          cases hb : hasB y.rev d.no with
          | false =>
            rw [hb] at qv
            have hnx : revN l sg t d.no (k + 1) = r := by
              rw [hsuc]; unfold revS hitB; rw [hvb, hrb, hb]
              by_cases h0 : 0 ≤ r
              · rw [if_pos h0]
              · rw [if_neg h0]; show (-1 : Int) = r; omega
            repeat' (first | exact cl1 | (refine stx ?_; first | exact exHM _ | refine exU8 ?_) | ((with_reducible show callX _ _ _ _ _); (first | refine call_p (qv) (by kernel_rfl) rfl ?_)) | ((fail_if_success refine stp ?_); (conv => whnf) <;> (first | exact cl2 | refine kBn hm1 fun hc => ?_ | refine kBn hm2 fun hc => ?_ | refine kBy hyes3 fun hc => ?_ | refine ix_at hw ?_ | refine ix_at hsk ?_ | refine kX ?_ | refine kP ?_ | refine kBd (fun hc => ?_) (fun hc => ?_) | refine kT ?_ | refine kF ?_ | refine kN ?_ | refine kBm (fun hc => ?_) (fun hc => ?_) | refine kO ?_ | refine kS ?_ | refine kA ?_ | exact PV.leL_nil | refine kC ?_ ?_ | refine And.intro ?_ ?_ | refine ix_map (fun x hx => ?_) | refine exU8 ?_ | refine nilc (fun hn => ?_) ?_ | exact cl3 | refine imp0 (fun hpos => ?_) | refine kG ?_ ?_ | exact rfl | exact trivial | (first | refine stq ?_ | fail)))) <;> (try exact cl5)
            refine ⟨⟨(k + 1, r), hlt3, hnx.symm⟩, by show l.length - (k + 1) < l.length - k; omega, ?_⟩
            (first | refine Ent.ofA [] ?_ | refine Ent.ofC [] ?_) <;> (repeat' (first | exact trivial | refine kHd ?_ | refine kHm rfl (by simp) rfl (fun h => AObj.noConfusion h) ?_ ?_ | refine And.intro ?_ ?_ | exact cl9 | refine kVp ?_ | refine kVa ?_ | refine kVt ?_ | refine kVf ?_ ?_ | refine kVc ?_ ?_ | exact VLeL.nil | exact OLe.row _ _ | rfl | refine VLe.rsle rfl ?_ ?_ ?_ | refine kQw ?_ ?_ | refine kQm ?_ ?_ | refine kQj ?_ ?_ | refine kQc ?_ ?_ | refine kQs ?_ ?_ ?_ | exact OLe.mapS0 rfl)) <;> try exact kZ
          | true =>
            rw [hb] at qv
            by_cases h0 : 0 ≤ r
            · have hnx : revN l sg t d.no (k + 1) = r := by rw [hsuc]; unfold revS; rw [if_pos h0]
              repeat' (first | exact cl1 | (refine stx ?_; first | exact exHM _ | refine exU8 ?_) | ((with_reducible show callX _ _ _ _ _); (first | refine call_p (qv) (by kernel_rfl) rfl ?_)) | ((fail_if_success refine stp ?_); (conv => whnf) <;> (first | exact cl2 | refine kBy h0 fun hc => ?_ | refine kBn hm1 fun hc => ?_ | refine kBn hm2 fun hc => ?_ | refine kBy hyes3 fun hc => ?_ | refine ix_at hw ?_ | refine ix_at hsk ?_ | refine kX ?_ | refine kP ?_ | refine kBd (fun hc => ?_) (fun hc => ?_) | refine kT ?_ | refine kF ?_ | refine kN ?_ | refine kBm (fun hc => ?_) (fun hc => ?_) | refine kO ?_ | refine kS ?_ | refine kA ?_ | exact PV.leL_nil | refine kC ?_ ?_ | refine And.intro ?_ ?_ | refine ix_map (fun x hx => ?_) | refine exU8 ?_ | refine nilc (fun hn => ?_) ?_ | exact cl3 | refine imp0 (fun hpos => ?_) | refine kG ?_ ?_ | exact rfl | exact trivial | (first | refine stq ?_ | fail)))) <;> (try exact cl5)
              refine ⟨⟨(k + 1, r), hlt3, hnx.symm⟩, by show l.length - (k + 1) < l.length - k; omega, ?_⟩
              (first | refine Ent.ofA [] ?_ | refine Ent.ofC [] ?_) <;> (repeat' (first | exact trivial | refine kHd ?_ | refine kHm rfl (by simp) rfl (fun h => AObj.noConfusion h) ?_ ?_ | refine And.intro ?_ ?_ | exact cl9 | refine kVp ?_ | refine kVa ?_ | refine kVt ?_ | refine kVf ?_ ?_ | refine kVc ?_ ?_ | exact VLeL.nil | exact OLe.row _ _ | rfl | refine VLe.rsle rfl ?_ ?_ ?_ | refine kQw ?_ ?_ | refine kQm ?_ ?_ | refine kQj ?_ ?_ | refine kQc ?_ ?_ | refine kQs ?_ ?_ ?_ | exact OLe.mapS0 rfl)) <;> try exact kZ
            · have hr2 : r = -1 := by omega
              subst hr2
              have qe := effective_calls l sg k y hw h20 hd hz hs hv1
              have hnx : revN l sg t d.no (k + 1) = if effI l sg k then y.no else -1 := by
                rw [hsuc]; unfold revS hitB; rw [hvb, hrb, hb, if_neg h0, noF_of hw]
                cases effI l sg k <;> rfl
              cases hE : effI l sg k with
              | true =>
                rw [hE] at qe hnx
                have hnx : revN l sg t d.no (k + 1) = y.no := hnx
                repeat' (first | exact cl1 | (refine stx ?_; first | exact exHM _ | refine exU8 ?_) | ((with_reducible show callX _ _ _ _ _); (first | refine call_p (qv) (by kernel_rfl) rfl ?_ | refine call_p (qe) (by kernel_rfl) rfl ?_)) | ((fail_if_success refine stp ?_); (conv => whnf) <;> (first | exact cl2 | refine kBn h0 fun hc => ?_ | refine kBn hm1 fun hc => ?_ | refine kBn hm2 fun hc => ?_ | refine kBy hyes3 fun hc => ?_ | refine ix_at hw ?_ | refine ix_at hsk ?_ | refine kX ?_ | refine kP ?_ | refine kBd (fun hc => ?_) (fun hc => ?_) | refine kT ?_ | refine kF ?_ | refine kN ?_ | refine kBm (fun hc => ?_) (fun hc => ?_) | refine kO ?_ | refine kS ?_ | refine kA ?_ | exact PV.leL_nil | refine kC ?_ ?_ | refine And.intro ?_ ?_ | refine ix_map (fun x hx => ?_) | refine exU8 ?_ | refine nilc (fun hn => ?_) ?_ | exact cl3 | refine imp0 (fun hpos => ?_) | refine kG ?_ ?_ | exact rfl | exact trivial | (first | refine stq ?_ | fail)))) <;> (try exact cl5)
                refine ⟨⟨(k + 1, y.no), hlt3, hnx.symm⟩, by show l.length - (k + 1) < l.length - k; omega, ?_⟩
                (first | refine Ent.ofA [] ?_ | refine Ent.ofC [] ?_) <;> (repeat' (first | exact trivial | refine kHd ?_ | refine kHm rfl (by simp) rfl (fun h => AObj.noConfusion h) ?_ ?_ | refine And.intro ?_ ?_ | exact cl9 | refine kVp ?_ | refine kVa ?_ | refine kVt ?_ | refine kVf ?_ ?_ | refine kVc ?_ ?_ | exact VLeL.nil | exact OLe.row _ _ | rfl | refine VLe.rsle rfl ?_ ?_ ?_ | refine kQw ?_ ?_ | refine kQm ?_ ?_ | refine kQj ?_ ?_ | refine kQc ?_ ?_ | refine kQs ?_ ?_ ?_ | exact OLe.mapS0 rfl)) <;> try exact kZ
              | false =>
                rw [hE] at qe hnx
                have hnx : revN l sg t d.no (k + 1) = -1 := hnx
                repeat' (first | exact cl1 | (refine stx ?_; first | exact exHM _ | refine exU8 ?_) | ((with_reducible show callX _ _ _ _ _); (first | refine call_p (qv) (by kernel_rfl) rfl ?_ | refine call_p (qe) (by kernel_rfl) rfl ?_)) | ((fail_if_success refine stp ?_); (conv => whnf) <;> (first | exact cl2 | refine kBn h0 fun hc => ?_ | refine kBn hm1 fun hc => ?_ | refine kBn hm2 fun hc => ?_ | refine kBy hyes3 fun hc => ?_ | refine ix_at hw ?_ | refine ix_at hsk ?_ | refine kX ?_ | refine kP ?_ | refine kBd (fun hc => ?_) (fun hc => ?_) | refine kT ?_ | refine kF ?_ | refine kN ?_ | refine kBm (fun hc => ?_) (fun hc => ?_) | refine kO ?_ | refine kS ?_ | refine kA ?_ | exact PV.leL_nil | refine kC ?_ ?_ | refine And.intro ?_ ?_ | refine ix_map (fun x hx => ?_) | refine exU8 ?_ | refine nilc (fun hn => ?_) ?_ | exact cl3 | refine imp0 (fun hpos => ?_) | refine kG ?_ ?_ | exact rfl | exact trivial | (first | refine stq ?_ | fail)))) <;> (try exact cl5)
                refine ⟨⟨(k + 1, -1), hlt3, hnx.symm⟩, by show l.length - (k + 1) < l.length - k; omega, ?_⟩
                (first | refine Ent.ofA [] ?_ | refine Ent.ofC [] ?_) <;> (repeat' (first | exact trivial | refine kHd ?_ | refine kHm rfl (by simp) rfl (fun h => AObj.noConfusion h) ?_ ?_ | refine And.intro ?_ ?_ | exact cl9 | refine kVp ?_ | refine kVa ?_ | refine kVt ?_ | refine kVf ?_ ?_ | refine kVc ?_ ?_ | exact VLeL.nil | exact OLe.row _ _ | rfl | refine VLe.rsle rfl ?_ ?_ ?_ | refine kQw ?_ ?_ | refine kQm ?_ ?_ | refine kQj ?_ ?_ | refine kQc ?_ ?_ | refine kQs ?_ ?_ ?_ | exact OLe.mapS0 rfl)) <;> try exact kZ
      | none =>
        have hge3 : l.length ≤ k := List.getElem?_eq_none_iff.1 hw
        have hno3 : ¬ ((k : Int) < ((l.map eA).length : Int)) := by rw [List.length_map]; omega
        have hkl : k = l.length := by omega
        rw [hkl] at hrv
        rw [← hrv] at hlr hle
        by_cases hN0 : 0 ≤ a
        · have e := hln hN0
          injection e with e1 e2
          subst e1 e2
          repeat' (first | exact cl1 | (refine stx ?_; first | exact exHM _ | refine exU8 ?_) | ((fail_if_success refine stp ?_); (conv => whnf) <;> (first | exact cl2 | refine kBn hno3 fun hc => ?_ | refine kBy hN0 fun hc => ?_ | refine kX ?_ | refine kP ?_ | refine kBd (fun hc => ?_) (fun hc => ?_) | refine kT ?_ | refine kF ?_ | refine kN ?_ | refine kBm (fun hc => ?_) (fun hc => ?_) | refine kO ?_ | refine kS ?_ | refine kA ?_ | exact PV.leL_nil | refine kC ?_ ?_ | refine And.intro ?_ ?_ | refine ix_map (fun x hx => ?_) | refine exU8 ?_ | refine nilc (fun hn => ?_) ?_ | exact cl3 | refine imp0 (fun hpos => ?_) | refine kG ?_ ?_ | exact rfl | exact trivial | (first | refine stq ?_ | fail)))) <;> (try exact cl5)
          all_goals first
          | (exfalso; dsimp only at *; omega)
          | (refine ⟨⟨i + 1, hlt⟩, by show l.length - (i + 1) < l.length - i; omega, ?_⟩
             (first | refine Ent.ofA [] ?_ | refine Ent.ofC [] ?_) <;> (repeat' (first | exact trivial | refine kHd ?_ | refine kHm rfl (by simp) rfl (fun h => AObj.noConfusion h) ?_ ?_ | refine And.intro ?_ ?_ | exact cl9 | refine kVp ?_ | refine kVa ?_ | refine kVt ?_ | refine kVf ?_ ?_ | refine kVc ?_ ?_ | exact VLeL.nil | exact OLe.row _ _ | rfl | refine VLe.rsle rfl ?_ ?_ ?_ | refine kQw ?_ ?_ | refine kQm ?_ ?_ | refine kQj ?_ ?_ | refine kQc ?_ ?_ | refine kQs ?_ ?_ ?_ | exact OLe.mapS0 rfl)) <;> try exact kZ
             done)
          | trace_state
        · by_cases hR0 : 0 ≤ r
          · have e := hlr (by omega) hR0
            injection e with e1 e2
            subst e1 e2
            repeat' (first | exact cl1 | (refine stx ?_; first | exact exHM _ | refine exU8 ?_) | ((fail_if_success refine stp ?_); (conv => whnf) <;> (first | exact cl2 | refine kBn hno3 fun hc => ?_ | refine kBn hN0 fun hc => ?_ | refine kBy hR0 fun hc => ?_ | refine kX ?_ | refine kP ?_ | refine kBd (fun hc => ?_) (fun hc => ?_) | refine kT ?_ | refine kF ?_ | refine kN ?_ | refine kBm (fun hc => ?_) (fun hc => ?_) | refine kO ?_ | refine kS ?_ | refine kA ?_ | exact PV.leL_nil | refine kC ?_ ?_ | refine And.intro ?_ ?_ | refine ix_map (fun x hx => ?_) | refine exU8 ?_ | refine nilc (fun hn => ?_) ?_ | exact cl3 | refine imp0 (fun hpos => ?_) | refine kG ?_ ?_ | exact rfl | exact trivial | (first | refine stq ?_ | fail)))) <;> (try exact cl5)
            all_goals first
            | (exfalso; dsimp only at *; omega)
            | (refine ⟨⟨i + 1, hlt⟩, by show l.length - (i + 1) < l.length - i; omega, ?_⟩
               (first | refine Ent.ofA [] ?_ | refine Ent.ofC [] ?_) <;> (repeat' (first | exact trivial | refine kHd ?_ | refine kHm rfl (by simp) rfl (fun h => AObj.noConfusion h) ?_ ?_ | refine And.intro ?_ ?_ | exact cl9 | refine kVp ?_ | refine kVa ?_ | refine kVt ?_ | refine kVf ?_ ?_ | refine kVc ?_ ?_ | exact VLeL.nil | exact OLe.row _ _ | rfl | refine VLe.rsle rfl ?_ ?_ ?_ | refine kQw ?_ ?_ | refine kQm ?_ ?_ | refine kQj ?_ ?_ | refine kQc ?_ ?_ | refine kQs ?_ ?_ ?_ | exact OLe.mapS0 rfl)) <;> try exact kZ
               done)
            | trace_state
          · have e := hle (by omega) (by omega)
            by_cases c1 : t < d.frm
            · have c2 : ¬ d.til ≤ t := by omega
              rw [if_pos c1] at e
              injection e with e1 e2
              subst e1 e2
              repeat' (first | exact cl1 | (refine stx ?_; first | exact exHM _ | refine exU8 ?_) | ((fail_if_success refine stp ?_); (conv => whnf) <;> (first | exact cl2 | refine kBn hno3 fun hc => ?_ | refine kBn hN0 fun hc => ?_ | refine kBn hR0 fun hc => ?_ | refine kX ?_ | refine kP ?_ | refine kBd (fun hc => ?_) (fun hc => ?_) | refine kT ?_ | refine kF ?_ | refine kN ?_ | refine kBm (fun hc => ?_) (fun hc => ?_) | refine kO ?_ | refine kS ?_ | refine kA ?_ | exact PV.leL_nil | refine kC ?_ ?_ | refine And.intro ?_ ?_ | refine ix_map (fun x hx => ?_) | refine exU8 ?_ | refine nilc (fun hn => ?_) ?_ | exact cl3 | refine imp0 (fun hpos => ?_) | refine kG ?_ ?_ | exact rfl | exact trivial | (first | refine stq ?_ | fail)))) <;> (try exact cl5)
              all_goals first
              | (refine ⟨⟨i + 1, hlt⟩, by show l.length - (i + 1) < l.length - i; omega, ?_⟩
                 (first | refine Ent.ofA [] ?_ | refine Ent.ofC [] ?_) <;> (repeat' (first | exact trivial | refine kHd ?_ | refine kHm rfl (by simp) rfl (fun h => AObj.noConfusion h) ?_ ?_ | refine And.intro ?_ ?_ | exact cl9 | refine kVp ?_ | refine kVa ?_ | refine kVt ?_ | refine kVf ?_ ?_ | refine kVc ?_ ?_ | exact VLeL.nil | exact OLe.row _ _ | rfl | refine VLe.rsle rfl ?_ ?_ ?_ | refine kQw ?_ ?_ | refine kQm ?_ ?_ | refine kQj ?_ ?_ | refine kQc ?_ ?_ | refine kQs ?_ ?_ ?_ | exact OLe.mapS0 rfl)) <;> try exact kZ
                 done)
              | (exfalso; refine hc ?_; show decide ((2 : Int) = 2) = decide (t < d.frm); rw [decide_eq_true c1]; rfl)
              | (exfalso; refine hc ?_; show decide ((2 : Int) = 3) = decide (d.til ≤ t); rw [decide_eq_false c2]; rfl)
              | trace_state
            · rw [if_neg c1] at e
              by_cases c2 : d.til ≤ t
              · rw [if_pos c2] at e
                injection e with e1 e2
                subst e1 e2
                repeat' (first | exact cl1 | (refine stx ?_; first | exact exHM _ | refine exU8 ?_) | ((fail_if_success refine stp ?_); (conv => whnf) <;> (first | exact cl2 | refine kBn hno3 fun hc => ?_ | refine kBn hN0 fun hc => ?_ | refine kBn hR0 fun hc => ?_ | refine kX ?_ | refine kP ?_ | refine kBd (fun hc => ?_) (fun hc => ?_) | refine kT ?_ | refine kF ?_ | refine kN ?_ | refine kBm (fun hc => ?_) (fun hc => ?_) | refine kO ?_ | refine kS ?_ | refine kA ?_ | exact PV.leL_nil | refine kC ?_ ?_ | refine And.intro ?_ ?_ | refine ix_map (fun x hx => ?_) | refine exU8 ?_ | refine nilc (fun hn => ?_) ?_ | exact cl3 | refine imp0 (fun hpos => ?_) | refine kG ?_ ?_ | exact rfl | exact trivial | (first | refine stq ?_ | fail)))) <;> (try exact cl5)
                all_goals first
                | (refine ⟨⟨i + 1, hlt⟩, by show l.length - (i + 1) < l.length - i; omega, ?_⟩
                   (first | refine Ent.ofA [] ?_ | refine Ent.ofC [] ?_) <;> (repeat' (first | exact trivial | refine kHd ?_ | refine kHm rfl (by simp) rfl (fun h => AObj.noConfusion h) ?_ ?_ | refine And.intro ?_ ?_ | exact cl9 | refine kVp ?_ | refine kVa ?_ | refine kVt ?_ | refine kVf ?_ ?_ | refine kVc ?_ ?_ | exact VLeL.nil | exact OLe.row _ _ | rfl | refine VLe.rsle rfl ?_ ?_ ?_ | refine kQw ?_ ?_ | refine kQm ?_ ?_ | refine kQj ?_ ?_ | refine kQc ?_ ?_ | refine kQs ?_ ?_ ?_ | exact OLe.mapS0 rfl)) <;> try exact kZ
                   done)
                | (exfalso; refine hc ?_; show decide ((3 : Int) = 2) = decide (t < d.frm); rw [decide_eq_false c1]; rfl)
                | (exfalso; refine hc ?_; show decide ((3 : Int) = 3) = decide (d.til ≤ t); rw [decide_eq_true c2]; rfl)
                | trace_state
              · rw [if_neg c2] at e
                injection e with e1 e2
                subst e1 e2
                repeat' (first | exact cl1 | (refine stx ?_; first | exact exHM _ | refine exU8 ?_) | ((fail_if_success refine stp ?_); (conv => whnf) <;> (first | exact cl2 | refine kBn hno3 fun hc => ?_ | refine kBn hN0 fun hc => ?_ | refine kBn hR0 fun hc => ?_ | refine kX ?_ | refine kP ?_ | refine kBd (fun hc => ?_) (fun hc => ?_) | refine kT ?_ | refine kF ?_ | refine kN ?_ | refine kBm (fun hc => ?_) (fun hc => ?_) | refine kO ?_ | refine kS ?_ | refine kA ?_ | exact PV.leL_nil | refine kC ?_ ?_ | refine And.intro ?_ ?_ | refine ix_map (fun x hx => ?_) | refine exU8 ?_ | refine nilc (fun hn => ?_) ?_ | exact cl3 | refine imp0 (fun hpos => ?_) | refine kG ?_ ?_ | exact rfl | exact trivial | (first | refine stq ?_ | fail)))) <;> (try exact cl5)
                all_goals first
                | (refine ⟨⟨i + 1, hlt⟩, by show l.length - (i + 1) < l.length - i; omega, ?_⟩
                   (first | refine Ent.ofA [] ?_ | refine Ent.ofC [] ?_) <;> (repeat' (first | exact trivial | refine kHd ?_ | refine kHm rfl (by simp) rfl (fun h => AObj.noConfusion h) ?_ ?_ | refine And.intro ?_ ?_ | exact cl9 | refine kVp ?_ | refine kVa ?_ | refine kVt ?_ | refine kVf ?_ ?_ | refine kVc ?_ ?_ | exact VLeL.nil | exact OLe.row _ _ | rfl | refine VLe.rsle rfl ?_ ?_ ?_ | refine kQw ?_ ?_ | refine kQm ?_ ?_ | refine kQj ?_ ?_ | refine kQc ?_ ?_ | refine kQs ?_ ?_ ?_ | exact OLe.mapS0 rfl)) <;> try exact kZ
                   done)
                | (exfalso; refine hc ?_; show decide ((0 : Int) = 2) = decide (t < d.frm); rw [decide_eq_false c1]; rfl)
                | (exfalso; refine hc ?_; show decide ((0 : Int) = 3) = decide (d.til ≤ t); rw [decide_eq_false c2]; rfl)
                | trace_state
end Go.Proofs.Ytgclicahmbgfiaa

namespace Go.Proofs.Ytgclicahmbgfiaa
open Go Go.Sg
set_option maxRecDepth 100000
set_option maxHeartbeats 8000000
theorem rI : Rdc Try.prog 3 Int (fun n => [eI n]) (fun n => (Lit.int .i64 n).wf = true) := Rdc.int (by kernel_rfl) (by kernel_rfl)
def okIs (l : List Int) : Prop := l.length ≤ reachBytes ∧ ∀ b ∈ l, (Lit.int .i64 b).wf = true
theorem rIs : Rdc Try.prog 23 (List Int) (fun b => [eIs b]) okIs :=
  Rdc.slice (e := 3) (sz := 1) (by kernel_rfl) (by kernel_rfl) rI (by kernel_rfl) (by decide) (of_decide_eq_true (by kernel_rfl)) (fun _ _ => rfl)
theorem rU8 : Rdc Try.prog 5 Int (fun n => [.int .u8 n]) (fun n => (Lit.int .u8 n).wf = true) := Rdc.int (by kernel_rfl) (by kernel_rfl)
theorem wf_u8 {n : Int} (h : (Lit.int .u8 n).wf = true) : 0 ≤ n ∧ n ≤ 255 := by
  simp [Lit.wf, IntKind.min, IntKind.max, IntKind.signed, IntKind.bits] at h; omega
theorem rTx : Rdc Try.prog 25 (List Int) (fun l => l.flatMap fun n => [.int .u8 n]) (fun l => l.length = 32 ∧ ∀ x ∈ l, (Lit.int .u8 x).wf = true) :=
  Rdc.array (e := 5) (n := 32) (sz := 1) (by kernel_rfl) rU8 (by kernel_rfl) (by kernel_rfl) (by decide)
structure okDc (x : Dc) : Prop where
  par : okIs x.par
  rev : okIs x.rev
  need : okIs x.need
  tx : ∀ i, i < 32 → 0 ≤ x.tx i ∧ x.tx i ≤ 255
abbrev RT := Int × Int × Int × Int × Int × Int × List Int × List Int × List Int × List Int × Unit
def toD (x : RT) : Dc := ⟨x.1, x.2.1, x.2.2.1, x.2.2.2.1, x.2.2.2.2.1, x.2.2.2.2.2.1, x.2.2.2.2.2.2.1, x.2.2.2.2.2.2.2.1, x.2.2.2.2.2.2.2.2.1, fun i => x.2.2.2.2.2.2.2.2.2.1.getD i 0⟩
theorem tx32 (L : List Int) (h : L.length = 32) : (L.flatMap fun n => [PV.int .u8 n]) = [u8 (L.getD 0 0), u8 (L.getD 1 0), u8 (L.getD 2 0), u8 (L.getD 3 0), u8 (L.getD 4 0), u8 (L.getD 5 0), u8 (L.getD 6 0), u8 (L.getD 7 0), u8 (L.getD 8 0), u8 (L.getD 9 0), u8 (L.getD 10 0), u8 (L.getD 11 0), u8 (L.getD 12 0), u8 (L.getD 13 0), u8 (L.getD 14 0), u8 (L.getD 15 0), u8 (L.getD 16 0), u8 (L.getD 17 0), u8 (L.getD 18 0), u8 (L.getD 19 0), u8 (L.getD 20 0), u8 (L.getD 21 0), u8 (L.getD 22 0), u8 (L.getD 23 0), u8 (L.getD 24 0), u8 (L.getD 25 0), u8 (L.getD 26 0), u8 (L.getD 27 0), u8 (L.getD 28 0), u8 (L.getD 29 0), u8 (L.getD 30 0), u8 (L.getD 31 0)] := by
  match L, h with
  | [a0, a1, a2, a3, a4, a5, a6, a7, a8, a9, a10, a11, a12, a13, a14, a15, a16, a17, a18, a19, a20, a21, a22, a23, a24, a25, a26, a27, a28, a29, a30, a31], _ => rfl
theorem okA_one (x : Dc) : ∀ c ∈ (eA x).cells, c.one = true := fun c hc => by
  have h : (eA x).cells.all (fun c => c.one) = true := rfl
  exact List.all_eq_true.1 h c hc
theorem rDc : Rdc Try.prog 27 Dc (fun x => (eA x).cells) okDc := by
  have h := Rdc.struct (P := Try.prog) (t := 27) Try.underlying27 (Rdf.cons rI (Rdf.cons rI (Rdf.cons rI (Rdf.cons rI (Rdf.cons rI (Rdf.cons rI (Rdf.cons rIs (Rdf.cons rIs (Rdf.cons rIs (Rdf.cons rTx Rdf.nil (by kernel_rfl) rfl) (by kernel_rfl) rfl) (by kernel_rfl) rfl) (by kernel_rfl) rfl) (by kernel_rfl) rfl) (by kernel_rfl) rfl) (by kernel_rfl) rfl) (by kernel_rfl) rfl) (by kernel_rfl) rfl) (by kernel_rfl) rfl) (by kernel_rfl)
  exact {
    sz := fun x _ => by
      have e : Try.prog.cellsOf 27 = 41 := by kernel_rfl
      rw [e]; rfl
    one := fun x _ => okA_one x
    rd := by
      intro H enc w n cs y hr hw
      obtain ⟨x, h1, h2, h3⟩ := h.rd hr hw
      obtain ⟨b1, b2, b3, b4, b5, b6, b7, b8, b9, b10, _⟩ := x
      obtain ⟨_, _, _, _, _, _, c7, c8, c9, c10, _⟩ := h1
      refine ⟨toD (b1, b2, b3, b4, b5, b6, b7, b8, b9, b10, ()), ⟨c7, c8, c9, fun i hi => ?_⟩, h2, fun i p hp => h3 i p ?_⟩
      · have hl : i < b10.length := by have := c10.1; simp only at this; omega
        have e : (toD (b1, b2, b3, b4, b5, b6, b7, b8, b9, b10, ())).tx i = b10[i] := by
          show b10.getD i 0 = b10[i]
          simp [List.getD, hl]
        rw [e]
        exact wf_u8 (c10.2 _ (List.getElem_mem hl))
      · show ([eI b1] ++ ([eI b2] ++ ([eI b3] ++ ([eI b4] ++ ([eI b5] ++ ([eI b6] ++ ([eIs b7] ++ ([eIs b8] ++ ([eIs b9] ++ ((b10.flatMap fun n => [PV.int .u8 n]) ++ []))))))))))[i]? = some p
        rw [tx32 b10 c10.1]
        exact hp }
def okL (l : List Dc) : Prop := l.length ≤ reachBytes ∧ ∀ b ∈ l, okDc b
theorem rL : Rdc Try.prog 22 (List Dc) (fun b => [eL b]) okL :=
  Rdc.slice (e := 27) (sz := 41) (ep := eA) (by kernel_rfl) (by kernel_rfl) rDc (by kernel_rfl) (by decide) (of_decide_eq_true (by kernel_rfl)) (fun _ _ => rfl)
theorem aI : Rda Try.prog 3 Int eI (fun n => (Lit.int .i64 n).wf = true) := Rda.one rI (by kernel_rfl)
theorem aDc : Rda Try.prog 27 Dc eA okDc := Rda.agg rDc (by kernel_rfl)
theorem aL : Rda Try.prog 22 (List Dc) eL okL := Rda.one rL (by kernel_rfl)
theorem aIs : Rda Try.prog 23 (List Int) eIs okIs := Rda.one rIs (by kernel_rfl)
theorem okL.len {l : List Dc} (h : okL l) : l.length < 140737488355328 := Nat.lt_of_le_of_lt h.1 reachBytes_lt
theorem okIs.len {l : List Int} (h : okIs l) : l.length < 140737488355328 := Nat.lt_of_le_of_lt h.1 reachBytes_lt
theorem okDc.d {x : Dc} (h : okDc x) : x.par.length < 140737488355328 ∧ x.rev.length < 140737488355328 ∧ x.need.length < 140737488355328 := ⟨h.par.len, h.rev.len, h.need.len⟩
theorem own : ownKnob Try.prog.godebug = none := by kernel_rfl
end Go.Proofs.Ytgclicahmbgfiaa
