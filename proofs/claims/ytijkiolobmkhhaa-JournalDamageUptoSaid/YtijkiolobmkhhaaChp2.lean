/- A part of the proof: contracts of the functions that the statement reaches. -/
import Derived.Test.YtijkiolobmkhhaaChp1
import Derived.Test.YtijkiolobmkhhaaRows
set_option linter.unusedSimpArgs false
set_option linter.unusedVariables false
set_option linter.unnecessarySimpa false
namespace Go.Proofs.Ytijkiolobmkhhaa
open Go Go.Sg
set_option maxRecDepth 100000
set_option maxHeartbeats 40000000
theorem shr32a {a : Nat} (h : a < 4294967296) : ((a : Nat) : Int).fdiv (2 ^ min (Int.toNat 32) IntKind.u64.bits) = 0 := shr32 (by omega) (by omega)
theorem genI_take {l : List Bs} {i : Nat} {s : Bs} (h : l[i]? = some s) : mxI (mxI ((genL (l.take i) + 1 : Nat) : Int) (((numB (s.take 4) : Nat) : Int) + 1)) (((numB (s.drop 124) : Nat) : Int) + 1) = ((genL (l.take (i + 1)) + 1 : Nat) : Int) := by
  rw [genL_take h, mxI_eq, mxI_eq]; unfold genM; omega
def mnI (a : Int) : Int := if false = true then (if 112 > a then 112 else a) else (if 112 < a then 112 else a)
theorem mnI_eq (a : Int) : mnI a = min a 112 := by
  unfold mnI; rw [if_neg Bool.false_ne_true]; split <;> omega
theorem mn_take (r : Bs) : eB (r.take 112) = .sl 1 false (List.drop (Int.toNat 0) (List.take (mnI ((r.map (PV.int .u8)).length : Int)).toNat (r.map (PV.int .u8)))) := by
  show PV.sl 1 false _ = PV.sl 1 false _
  rw [show Int.toNat 0 = 0 from rfl, List.drop_zero, mnI_eq, List.length_map, ← List.map_take]
  by_cases h : r.length ≤ 112
  · rw [List.take_of_length_le h, List.take_of_length_le (by omega)]
  · rw [show (min (r.length : Int) 112).toNat = 112 by omega]
theorem mn_drop (r : Bs) : PV.sl 1 false (List.drop (mnI ((r.map (PV.int .u8)).length : Int)).toNat (List.take (Int.toNat ((r.map (PV.int .u8)).length : Int)) (r.map (PV.int .u8)))) = eB (r.drop 112) := by
  show PV.sl 1 false _ = PV.sl 1 false _
  rw [Int.toNat_natCast, List.take_length, mnI_eq, List.length_map, ← List.map_drop]
  by_cases h : r.length ≤ 112
  · rw [List.drop_eq_nil_of_le h, List.drop_eq_nil_of_le (by omega)]
  · rw [show (min (r.length : Int) 112).toNat = 112 by omega]
theorem usedN_ge (l : List Bs) : l.length ≤ usedN l := by
  induction l with
  | nil => exact Nat.le_refl _
  | cons b r ih =>
    have := secN_pos b.length
    simp only [usedN, List.map_cons, List.sum_cons, List.length_cons] at ih ⊢; omega
theorem ix_q {l : List PV} {n : Nat} {x : PV} {K : PV → Prop} (hx : l[n]? = some x) (k : K x) : ∀ p, l[n]? = some p → K p := fun p hp => by
  rw [hx] at hp; injection hp with hp; subst hp; exact k
theorem kdW_le (first : Bool) (m : Nat) : kdW first m ≤ 3 := by
  unfold kdW
  by_cases h : m = 0
  · rw [if_pos h]; cases first <;> decide
  · rw [if_neg h]; cases first <;> decide
theorem kd_or (first : Bool) : eC (kdW first 0) = .int .u8 (bitsI .or .u8 (((if first then 1 else 0 : Nat)) : Int) 2) := by
  cases first
  · exact congrArg (PV.int .u8) (by decide)
  · exact congrArg (PV.int .u8) (by decide)
theorem kd_no (first : Bool) {m : Nat} (h : m ≠ 0) : eC (kdW first m) = eC (if first then 1 else 0) := by unfold kdW; rw [if_neg h]; rfl
theorem scanR_B8 : ∀ (ss : List Bs) (n : Nat) (first : Bool) (g : Nat) (y : Bs × Nat), (∀ s ∈ ss, B8 s) → scanR ss n first g = some y → B8 y.1
  | [], _, _, _, _, _, h => by simp [scanR] at h
  | s :: r, n, first, g, y, hB, h => by
    have hs : B8 (pieceS s) := ((hB s (by simp)).drop 12).take _
    rw [scanR] at h
    split at h
    · split at h
      · injection h with h; subst h; exact hs
      · rw [Option.map_eq_some_iff] at h
        obtain ⟨x, hx, rfl⟩ := h
        have := scanR_B8 r (n + 1) false g x (fun t ht => hB t (by simp [ht])) hx
        intro c hc
        rcases List.mem_append.1 hc with hc | hc
        · exact hs c hc
        · exact this c hc
    · cases h
theorem recsA_B8 (l : List Bs) (hB : ∀ s ∈ l, B8 s) : ∀ (f i last : Nat), ∀ x ∈ recsA l f i last, B8 x.2
  | 0, _, _, x, h => by rw [recsA] at h; cases h
  | f + 1, i, last, x, h => by
    rw [recsA] at h
    cases hr : recAt l i with
    | none => rw [hr] at h; cases h
    | some y =>
      rw [hr] at h
      obtain ⟨b, m⟩ := y
      dsimp only at h
      split at h
      · cases h
      · rcases List.mem_cons.1 h with e | e
        · subst e
          exact scanR_B8 _ _ _ _ (b, m) (fun s hs => hB s (List.mem_of_mem_drop hs)) hr
        · exact recsA_B8 l hB f _ _ x e
theorem recB_B8 {l : List Bs} (hB : ∀ s ∈ l, B8 s) : ∀ b ∈ recB l, B8 b := fun b hb => by
  unfold recB at hb
  obtain ⟨x, hx, rfl⟩ := List.mem_map.1 hb
  exact recsA_B8 l hB _ _ _ x hx
theorem jsync_calls (j : Jn) (d : Dk) (hz : szL j.recs ≤ 50000000) (hb : ∀ b ∈ j.recs, B8 b) (h1 : d.secs.length < 1000000) (h2 : d.pend.length < 1000000) (hB : ∀ s ∈ d.secs, B8 s) : PCalls Try.prog 21 [eJ j, eD d] (eJD (syncJ j d)) := by
  have p := check5_calls j hz
  have q := check_calls d h1 h2
  have o := open_calls d h1 h2 hB
  have hms : (d.secs.map eB).length = d.secs.length := List.length_map _
  have hmp : (d.pend.map eW).length = d.pend.length := List.length_map _
  have hmr : (j.recs.map eB).length = j.recs.length := List.length_map _
  unfold syncJ
  cases hc : chkJ j with
  | false =>
    rw [hc, if_neg Bool.false_ne_true] at p
    rw [if_pos rfl]
    refine PCalls.of (N := 167) (res := [.cell 4 29, .cell 5 25, .tmp 6]) mixed Try.func21 rfl rfl rfl (by kernel_rfl) (by simp) [0, 1, 2, 3, 4, 5, 6, 7, 8, 9, 10, 12, 13, 15, 16, 17, 18, 22, 29, 43, 52, 57, 58, 59, 60, 87, 95, 108, 109, 110, 111, 117, 121, 141, 157] ?_
    repeat' (first | exact cl1 | ((with_reducible show Exists _); refine exU8 ?_) | ((with_reducible show callX _ _ _ _ _); (first | refine call_p (p) (by kernel_rfl) rfl ?_)) | ((fail_if_success with_reducible first | show LeG _ _ | show Lp _ _ _ _ | show Exists _ | show callX _ _ _ _ _ | show (_ : Int) ≤ _ | show (_ : Int) < _ | show (_ : Nat) ≤ _ | show (_ : Nat) < _); (conv => whnf) <;> (first | exact cl2 | refine XAlt.l ?_ | refine Sq.pr ?_ | refine Br.dec (fun hc => ?_) (fun hc => ?_) | refine Br.tt ?_ | refine Br.ff ?_ | refine Br.not ?_ | refine Br.mk (fun hc => ?_) (fun hc => ?_) | refine Opt.nn ?_ | refine Opt.ss ?_ | refine AltA.l ?_ | exact PV.leL_nil | refine PV.leL_cons ?_ ?_ | refine And.intro ?_ ?_ | refine ix_map (fun x hx => ?_) | refine exU8 ?_ | refine nilc (fun hn => ?_) ?_ | exact cl3 | refine imp0 (fun hpos => ?_) | refine fits_i64 ?_ ?_ | exact rfl | (with_reducible first | show LeG _ _ | show Lp _ _ _ _ | show Exists _ | show callX _ _ _ _ _)))) <;> (try exact cl5)
    all_goals ((all_goals (try refine LeG.mk ?_)); (repeat' (first | exact PV.le_refl _ | exact PV.le_nil _ _ _ | exact PV.le_clip _ _ _ | exact PV.le_nilF _ _ _ | refine PV.le_agg ?_ | refine PV.le_tup ?_ | exact PV.leL_nil | refine PV.leL_cons ?_ ?_ | refine PV.le_of ?_ | rfl)))
  | true =>
  rw [hc, if_pos rfl] at p
  rw [if_neg (fun h => Bool.noConfusion h)]
  obtain ⟨c1, c2, c3, c4, c5⟩ := chkJ_iff.1 hc
  cases hd : okD d with
  | false =>
    rw [hd, if_neg Bool.false_ne_true] at q
    rw [if_pos rfl]
    refine PCalls.of (N := 167) (res := [.cell 4 29, .cell 5 25, .tmp 6]) mixed Try.func21 rfl rfl rfl (by kernel_rfl) (by simp) [0, 1, 2, 3, 4, 5, 6, 7, 8, 9, 10, 12, 13, 15, 16, 17, 18, 22, 29, 43, 52, 57, 58, 59, 60, 87, 95, 108, 109, 110, 111, 117, 121, 141, 157] ?_
    repeat' (first | exact cl1 | ((with_reducible show Exists _); refine exU8 ?_) | ((with_reducible show callX _ _ _ _ _); (first | refine call_p (p) (by kernel_rfl) rfl ?_ | refine call_p (q) (by kernel_rfl) rfl ?_)) | ((fail_if_success with_reducible first | show LeG _ _ | show Lp _ _ _ _ | show Exists _ | show callX _ _ _ _ _ | show (_ : Int) ≤ _ | show (_ : Int) < _ | show (_ : Nat) ≤ _ | show (_ : Nat) < _); (conv => whnf) <;> (first | exact cl2 | refine XAlt.l ?_ | refine Sq.pr ?_ | refine Br.dec (fun hc => ?_) (fun hc => ?_) | refine Br.tt ?_ | refine Br.ff ?_ | refine Br.not ?_ | refine Br.mk (fun hc => ?_) (fun hc => ?_) | refine Opt.nn ?_ | refine Opt.ss ?_ | refine AltA.l ?_ | exact PV.leL_nil | refine PV.leL_cons ?_ ?_ | refine And.intro ?_ ?_ | refine ix_map (fun x hx => ?_) | refine exU8 ?_ | refine nilc (fun hn => ?_) ?_ | exact cl3 | refine imp0 (fun hpos => ?_) | refine fits_i64 ?_ ?_ | exact rfl | (with_reducible first | show LeG _ _ | show Lp _ _ _ _ | show Exists _ | show callX _ _ _ _ _)))) <;> (try exact cl5)
    all_goals ((all_goals (try refine LeG.mk ?_)); (repeat' (first | exact PV.le_refl _ | exact PV.le_nil _ _ _ | exact PV.le_clip _ _ _ | exact PV.le_nilF _ _ _ | refine PV.le_agg ?_ | refine PV.le_tup ?_ | exact PV.leL_nil | refine PV.leL_cons ?_ ?_ | refine PV.le_of ?_ | rfl)))
  | true =>
  rw [hd, if_pos rfl] at q
  rw [if_neg (fun h => Bool.noConfusion h)]
  obtain ⟨⟨k1, k2⟩, k3, k4, k5, k6⟩ := okD_spec hd
  unfold openJ at o
  rw [hd, if_pos rfl] at o
  cases hst : d.stop with
  | true =>
    rw [hst, if_pos rfl] at o
    rw [if_pos rfl]
    have hS : ¬ d.stop = false := fun h => by rw [hst] at h; cases h
    refine PCalls.of (N := 167) (res := [.cell 4 29, .cell 5 25, .tmp 6]) mixed Try.func21 rfl rfl rfl (by kernel_rfl) (by simp) [0, 1, 2, 3, 4, 5, 6, 7, 8, 9, 10, 12, 13, 15, 16, 17, 18, 22, 29, 43, 52, 57, 58, 59, 60, 87, 95, 108, 109, 110, 111, 117, 121, 141, 157] ?_
    repeat' (first | exact cl1 | ((with_reducible show Exists _); refine exU8 ?_) | ((with_reducible show callX _ _ _ _ _); (first | refine call_p (p) (by kernel_rfl) rfl ?_ | refine call_p (q) (by kernel_rfl) rfl ?_ | refine call_p (o) (by kernel_rfl) rfl ?_)) | ((fail_if_success with_reducible first | show LeG _ _ | show Lp _ _ _ _ | show Exists _ | show callX _ _ _ _ _ | show (_ : Int) ≤ _ | show (_ : Int) < _ | show (_ : Nat) ≤ _ | show (_ : Nat) < _); (conv => whnf) <;> (first | exact cl2 | refine Br.mk (fun hc => ?_) (fun hc => (hS hc).elim) | refine XAlt.l ?_ | refine Sq.pr ?_ | refine Br.dec (fun hc => ?_) (fun hc => ?_) | refine Br.tt ?_ | refine Br.ff ?_ | refine Br.not ?_ | refine Br.mk (fun hc => ?_) (fun hc => ?_) | refine Opt.nn ?_ | refine Opt.ss ?_ | refine AltA.l ?_ | exact PV.leL_nil | refine PV.leL_cons ?_ ?_ | refine And.intro ?_ ?_ | refine ix_map (fun x hx => ?_) | refine exU8 ?_ | refine nilc (fun hn => ?_) ?_ | exact cl3 | refine imp0 (fun hpos => ?_) | refine fits_i64 ?_ ?_ | exact rfl | (with_reducible first | show LeG _ _ | show Lp _ _ _ _ | show Exists _ | show callX _ _ _ _ _)))) <;> (try exact cl5)
    all_goals ((all_goals (try refine LeG.mk ?_)); (repeat' (first | exact PV.le_refl _ | exact PV.le_nil _ _ _ | exact PV.le_clip _ _ _ | exact PV.le_nilF _ _ _ | refine PV.le_agg ?_ | refine PV.le_tup ?_ | exact PV.leL_nil | refine PV.leL_cons ?_ ?_ | refine PV.le_of ?_ | rfl)))
    all_goals trace_state
  | false =>
  rw [hst, if_neg Bool.false_ne_true] at o
  have hS : ¬ d.stop = true := fun h => by rw [hst] at h; cases h
  rw [if_neg (fun h => Bool.noConfusion h)]
  by_cases hmny : j.many ≠ (d.secs.length : Int)
  · rw [if_pos hmny]
    have hx : j.many ≠ ((d.secs.map eB).length : Int) := by rw [hms]; exact hmny
    refine PCalls.of (N := 167) (res := [.cell 4 29, .cell 5 25, .tmp 6]) mixed Try.func21 rfl rfl rfl (by kernel_rfl) (by simp) [0, 1, 2, 3, 4, 5, 6, 7, 8, 9, 10, 12, 13, 15, 16, 17, 18, 22, 29, 43, 52, 57, 58, 59, 60, 87, 95, 108, 109, 110, 111, 117, 121, 141, 157] ?_
    repeat' (first | exact cl1 | ((with_reducible show Exists _); refine exU8 ?_) | ((with_reducible show callX _ _ _ _ _); (first | refine call_p (p) (by kernel_rfl) rfl ?_ | refine call_p (q) (by kernel_rfl) rfl ?_ | refine call_p (o) (by kernel_rfl) rfl ?_)) | ((fail_if_success with_reducible first | show LeG _ _ | show Lp _ _ _ _ | show Exists _ | show callX _ _ _ _ _ | show (_ : Int) ≤ _ | show (_ : Int) < _ | show (_ : Nat) ≤ _ | show (_ : Nat) < _); (conv => whnf) <;> (first | exact cl2 | refine Br.dec (fun hc => ?_) (fun hc => absurd hx hc) | refine Br.mk (fun hc => (hS hc).elim) (fun hc => ?_) | refine XAlt.l ?_ | refine Sq.pr ?_ | refine Br.dec (fun hc => ?_) (fun hc => ?_) | refine Br.tt ?_ | refine Br.ff ?_ | refine Br.not ?_ | refine Br.mk (fun hc => ?_) (fun hc => ?_) | refine Opt.nn ?_ | refine Opt.ss ?_ | refine AltA.l ?_ | exact PV.leL_nil | refine PV.leL_cons ?_ ?_ | refine And.intro ?_ ?_ | refine ix_map (fun x hx => ?_) | refine exU8 ?_ | refine nilc (fun hn => ?_) ?_ | exact cl3 | refine imp0 (fun hpos => ?_) | refine fits_i64 ?_ ?_ | exact rfl | (with_reducible first | show LeG _ _ | show Lp _ _ _ _ | show Exists _ | show callX _ _ _ _ _)))) <;> (try exact cl5)
    all_goals ((all_goals (try refine LeG.mk ?_)); (repeat' (first | exact PV.le_refl _ | exact PV.le_nil _ _ _ | exact PV.le_clip _ _ _ | exact PV.le_nilF _ _ _ | refine PV.le_agg ?_ | refine PV.le_tup ?_ | exact PV.leL_nil | refine PV.leL_cons ?_ ?_ | refine PV.le_of ?_ | rfl)))
    all_goals trace_state
  rw [if_neg hmny]
  have hx : ¬ j.many ≠ ((d.secs.map eB).length : Int) := by rw [hms]; exact hmny
  by_cases hpd : 0 < d.pend.length
  · rw [if_pos (by omega)] at o
    rw [if_pos hpd]
    refine PCalls.of (N := 167) (res := [.cell 4 29, .cell 5 25, .tmp 6]) mixed Try.func21 rfl rfl rfl (by kernel_rfl) (by simp) [0, 1, 2, 3, 4, 5, 6, 7, 8, 9, 10, 12, 13, 15, 16, 17, 18, 22, 29, 43, 52, 57, 58, 59, 60, 87, 95, 108, 109, 110, 111, 117, 121, 141, 157] ?_
    repeat' (first | exact cl1 | ((with_reducible show Exists _); refine exU8 ?_) | ((with_reducible show callX _ _ _ _ _); (first | refine call_p (p) (by kernel_rfl) rfl ?_ | refine call_p (q) (by kernel_rfl) rfl ?_ | refine call_p (o) (by kernel_rfl) rfl ?_)) | ((fail_if_success with_reducible first | show LeG _ _ | show Lp _ _ _ _ | show Exists _ | show callX _ _ _ _ _ | show (_ : Int) ≤ _ | show (_ : Int) < _ | show (_ : Nat) ≤ _ | show (_ : Nat) < _); (conv => whnf) <;> (first | exact cl2 | refine Br.dec (fun hc => absurd hc hx) (fun hc => ?_) | refine Br.mk (fun hc => (hS hc).elim) (fun hc => ?_) | refine XAlt.l ?_ | refine Sq.pr ?_ | refine Br.dec (fun hc => ?_) (fun hc => ?_) | refine Br.tt ?_ | refine Br.ff ?_ | refine Br.not ?_ | refine Br.mk (fun hc => ?_) (fun hc => ?_) | refine Opt.nn ?_ | refine Opt.ss ?_ | refine AltA.l ?_ | exact PV.leL_nil | refine PV.leL_cons ?_ ?_ | refine And.intro ?_ ?_ | refine ix_map (fun x hx => ?_) | refine exU8 ?_ | refine nilc (fun hn => ?_) ?_ | exact cl3 | refine imp0 (fun hpos => ?_) | refine fits_i64 ?_ ?_ | exact rfl | (with_reducible first | show LeG _ _ | show Lp _ _ _ _ | show Exists _ | show callX _ _ _ _ _)))) <;> (try exact cl5)
    all_goals ((all_goals (try refine LeG.mk ?_)); (repeat' (first | exact PV.le_refl _ | exact PV.le_nil _ _ _ | exact PV.le_clip _ _ _ | exact PV.le_nilF _ _ _ | refine PV.le_agg ?_ | refine PV.le_tup ?_ | exact PV.leL_nil | refine PV.leL_cons ?_ ?_ | refine PV.le_of ?_ | rfl)))
    all_goals trace_state
  rw [if_neg (by omega)] at o
  rw [if_neg hpd]
  have hsB : ∀ s ∈ d.secs, s.length = 128 ∧ B8 s := fun s hs => ⟨k6 s hs, hB s hs⟩
  have hrl := recB_len d.secs
  have hol : (oldR j).length = j.sync.toNat := by unfold oldR; rw [List.length_take]; omega
  have hrB := recB_B8 hB
  have hoB : ∀ b ∈ oldR j, B8 b := fun b h => hb b (List.mem_of_mem_take h)
  have f := equalF_calls (recB d.secs) (oldR j) (by omega) hrB hoB
  have e1 : eS (oldR j) = .sl 1 false (List.drop (Int.toNat 0) (List.take (Int.toNat j.sync) (j.recs.map eB))) := by
    show PV.sl 1 false _ = PV.sl 1 false _
    rw [show Int.toNat 0 = 0 from rfl, List.drop_zero, ← List.map_take]; rfl
  rw [e1] at f
  refine PCalls.of (N := 167) (res := [.cell 4 29, .cell 5 25, .tmp 6]) mixed Try.func21 rfl rfl rfl (by kernel_rfl) (by simp) [0, 1, 2, 3, 4, 5, 6, 7, 8, 9, 10, 12, 13, 15, 16, 17, 18, 22, 29, 43, 52, 57, 58, 59, 60, 87, 95, 108, 109, 110, 111, 117, 121, 141, 157] ?_
  repeat' (first | exact cl1 | ((with_reducible show Exists _); refine exU8 ?_) | ((with_reducible show callX _ _ _ _ _); (first | refine call_p (p) (by kernel_rfl) rfl ?_ | refine call_p (q) (by kernel_rfl) rfl ?_ | refine call_p (o) (by kernel_rfl) rfl ?_ | refine call_p (f) (by kernel_rfl) rfl ?_)) | ((fail_if_success with_reducible first | show LeG _ _ | show Lp _ _ _ _ | show Exists _ | show callX _ _ _ _ _ | show (_ : Int) ≤ _ | show (_ : Int) < _ | show (_ : Nat) ≤ _ | show (_ : Nat) < _); (conv => whnf) <;> (first | exact cl2 | refine Br.dec (fun hc => absurd hc hx) (fun hc => ?_) | refine Br.mk (fun hc => (hS hc).elim) (fun hc => ?_) | refine XAlt.l ?_ | refine Sq.pr ?_ | refine Br.dec (fun hc => ?_) (fun hc => ?_) | refine Br.tt ?_ | refine Br.ff ?_ | refine Br.not ?_ | refine Br.mk (fun hc => ?_) (fun hc => ?_) | refine Opt.nn ?_ | refine Opt.ss ?_ | refine AltA.l ?_ | exact PV.leL_nil | refine PV.leL_cons ?_ ?_ | refine And.intro ?_ ?_ | refine ix_map (fun x hx => ?_) | refine exU8 ?_ | refine nilc (fun hn => ?_) ?_ | exact cl3 | refine imp0 (fun hpos => ?_) | refine fits_i64 ?_ ?_ | exact rfl | (with_reducible first | show LeG _ _ | show Lp _ _ _ _ | show Exists _ | show callX _ _ _ _ _)))) <;> (try exact cl5)
  have hgd := genL_lt d.secs 0 (by decide) hsB
  have hgd : genL d.secs < 4294967296 := hgd
  refine Wpc.loopB (α := {i : Nat // i ≤ d.secs.length}) mixed [0, 1, 2, 3, 4, 5, 6, 7, 8, 9, 10, 12, 13, 15, 16, 17, 18, 22, 29, 43, 52, 57, 58, 59, 60, 87, 95, 108, 109, 110, 111, 117, 121, 141, 157] (fun i => [(10, .p (eU (genL (d.secs.take i.1) + 1))), (59, .p (eI i.1))]) (fun i => d.secs.length - i.1) ⟨0, Nat.zero_le _⟩ ?_ ?_
  · (first | refine Ent.ofA [] ?_ | refine Ent.ofC [] ?_) <;> (repeat' (first | exact trivial | refine HpLe.dd ?_ | refine HpLe.mk rfl (by simp) rfl (fun h => AObj.noConfusion h) ?_ ?_ | refine And.intro ?_ ?_ | exact cl9 | refine VLe.pe ?_ | refine VLe.agg ?_ | refine VLe.tup ?_ | refine VLe.fn ?_ ?_ | refine VLeL.cons ?_ ?_ | exact VLeL.nil | exact OLe.row _ _ | rfl | refine VLe.rsle rfl ?_ ?_ ?_ | refine OLe.rowe2 ?_ ?_ | refine OLe.mape ?_ ?_ | refine OLe.iter0 ?_ | refine OLe.itere ?_ ?_)) <;> try (first | (simp; done) | (congr 1; omega) | (congr 1; (first | (simp; done) | (simp; omega))))
  rintro ⟨i, hi⟩
  have hi : i ≤ d.secs.length := hi
  have hg := genL_lt (d.secs.take i) 0 (by decide) (fun s hs => hsB s (List.mem_of_mem_take hs))
  have hg : genL (d.secs.take i) < 4294967296 := hg
  cases hxi : d.secs[i]? with
  | some s =>
    have hlt : i < d.secs.length := (List.getElem?_eq_some_iff.1 hxi).1
    have hyes : ((i : Int) < ((d.secs.map eB).length : Int)) := by omega
    obtain ⟨t1, t2⟩ := hsB s (List.mem_of_getElem? hxi)
    have hmss : (s.map (PV.int .u8)).length = 128 := by rw [List.length_map, t1]
    have p1 := get_calls (s.take 4) (t2.take 4) (by rw [List.length_take]; omega)
    have p2 := get_calls (s.drop 124) (t2.drop 124) (by rw [List.length_drop]; omega)
    have g1 : numB (s.take 4) < 4294967296 := numB_lt 4 (s.take 4) (by rw [List.length_take]; omega) (t2.take 4)
    have g2 : numB (s.drop 124) < 4294967296 := numB_lt 4 (s.drop 124) (by rw [List.length_drop]; omega) (t2.drop 124)
    rw [show eB (s.take 4) = .sl 1 false (List.drop (Int.toNat 0) (List.take (Int.toNat 4) (s.map (PV.int .u8)))) from eB_sl s 0 4] at p1
    have e2 : eB (s.drop 124) = .sl 1 false (List.drop (Int.toNat 124) (List.take ((s.map (PV.int .u8)).length : Int).toNat (s.map (PV.int .u8)))) := by
      show PV.sl 1 false _ = PV.sl 1 false _
      rw [List.map_drop, Int.toNat_natCast, List.take_length]; rfl
    rw [e2] at p2
    repeat' (first | exact cl1 | ((with_reducible show Exists _); refine exU8 ?_) | ((with_reducible show callX _ _ _ _ _); (first | refine call_p (p1) (by kernel_rfl) rfl ?_ | refine call_p (p2) (by kernel_rfl) rfl ?_)) | ((fail_if_success with_reducible first | show LeG _ _ | show Lp _ _ _ _ | show Exists _ | show callX _ _ _ _ _ | show (_ : Int) ≤ _ | show (_ : Int) < _ | show (_ : Nat) ≤ _ | show (_ : Nat) < _); (conv => whnf) <;> (first | exact cl2 | refine Br.dec (fun hc => ?_) (fun hc => absurd hyes hc) | refine ix_b hxi ?_ | refine XAlt.l ?_ | refine Sq.pr ?_ | refine Br.dec (fun hc => ?_) (fun hc => ?_) | refine Br.tt ?_ | refine Br.ff ?_ | refine Br.not ?_ | refine Br.mk (fun hc => ?_) (fun hc => ?_) | refine Opt.nn ?_ | refine Opt.ss ?_ | refine AltA.l ?_ | exact PV.leL_nil | refine PV.leL_cons ?_ ?_ | refine And.intro ?_ ?_ | refine ix_map (fun x hx => ?_) | refine exU8 ?_ | refine nilc (fun hn => ?_) ?_ | exact cl3 | refine imp0 (fun hpos => ?_) | refine fits_i64 ?_ ?_ | exact rfl | (with_reducible first | show LeG _ _ | show Lp _ _ _ _ | show Exists _ | show callX _ _ _ _ _)))) <;> (try exact cl5)
    any_goals exact fits_u64 (by omega) (by omega)
    refine ⟨⟨i + 1, hlt⟩, by show d.secs.length - (i + 1) < d.secs.length - i; omega, ?_⟩
    (first | refine Ent.ofA [] ?_ | refine Ent.ofC [] ?_) <;> (repeat' (first | exact trivial | refine HpLe.dd ?_ | refine HpLe.mk rfl (by simp) rfl (fun h => AObj.noConfusion h) ?_ ?_ | refine And.intro ?_ ?_ | exact cl9 | refine VLe.pe ?_ | refine VLe.agg ?_ | refine VLe.tup ?_ | refine VLe.fn ?_ ?_ | refine VLeL.cons ?_ ?_ | exact VLeL.nil | exact OLe.row _ _ | rfl | refine VLe.rsle rfl ?_ ?_ ?_ | refine OLe.rowe2 ?_ ?_ | refine OLe.mape ?_ ?_ | refine OLe.iter0 ?_ | refine OLe.itere ?_ ?_)) <;> try (first | (simp; done) | (congr 1; omega) | (congr 1; (first | (simp; done) | (simp; omega))))
    all_goals exact congrArg (PV.int .u64) (genI_take hxi)
  | none =>
  have hge : d.secs.length ≤ i := List.getElem?_eq_none_iff.1 hxi
  have hno : ¬ ((i : Int) < ((d.secs.map eB).length : Int)) := by omega
  have e : i = d.secs.length := by omega
  subst e
  by_cases hr : recB d.secs = oldR j
  · rw [decide_eq_true hr] at f
    by_cases hgo : genL d.secs + 1 < 4294967296
    · have hsh : ¬ ((genL (d.secs.take d.secs.length) + 1 : Nat) : Int).fdiv (2 ^ min (Int.toNat 32) IntKind.u64.bits) ≠ 0 := by rw [List.take_length]; exact fun h => h (shr32a hgo)
      rw [if_neg (fun h => h ⟨hr, hgo⟩)]
      by_cases hy : j.sync = j.recs.length
      · rw [if_pos hy]
        have hy' : j.sync = ((j.recs.map eB).length : Int) := by rw [hmr]; exact hy
        repeat' (first | exact cl1 | ((with_reducible show Exists _); refine exU8 ?_) | ((with_reducible show callX _ _ _ _ _); (first | refine call_p (f) (by kernel_rfl) rfl ?_)) | ((fail_if_success with_reducible first | show LeG _ _ | show Lp _ _ _ _ | show Exists _ | show callX _ _ _ _ _ | show (_ : Int) ≤ _ | show (_ : Int) < _ | show (_ : Nat) ≤ _ | show (_ : Nat) < _); (conv => whnf) <;> (first | exact cl2 | refine Br.dec (fun hc => absurd hc hno) (fun hc => ?_) | refine Br.dec (fun hc => absurd hc hsh) (fun hc => ?_) | refine Br.dec (fun hc => ?_) (fun hc => absurd hy' hc) | refine XAlt.l ?_ | refine Sq.pr ?_ | refine Br.dec (fun hc => ?_) (fun hc => ?_) | refine Br.tt ?_ | refine Br.ff ?_ | refine Br.not ?_ | refine Br.mk (fun hc => ?_) (fun hc => ?_) | refine Opt.nn ?_ | refine Opt.ss ?_ | refine AltA.l ?_ | exact PV.leL_nil | refine PV.leL_cons ?_ ?_ | refine And.intro ?_ ?_ | refine ix_map (fun x hx => ?_) | refine exU8 ?_ | refine nilc (fun hn => ?_) ?_ | exact cl3 | refine imp0 (fun hpos => ?_) | refine fits_i64 ?_ ?_ | exact rfl | (with_reducible first | show LeG _ _ | show Lp _ _ _ _ | show Exists _ | show callX _ _ _ _ _)))) <;> (try exact cl5)
        all_goals ((all_goals (try refine LeG.mk ?_)); (repeat' (first | exact PV.le_refl _ | exact PV.le_nil _ _ _ | exact PV.le_clip _ _ _ | exact PV.le_nilF _ _ _ | refine PV.le_agg ?_ | refine PV.le_tup ?_ | exact PV.leL_nil | refine PV.leL_cons ?_ ?_ | refine PV.le_of ?_ | rfl)))
      · rw [if_neg hy]
        have hy' : ¬ j.sync = ((j.recs.map eB).length : Int) := by rw [hmr]; exact hy
        have hou := usedN_takeLe j.recs j.sync.toNat
        have hze := szL_takeLe j.recs j.sync.toNat
        have u := used_calls (oldR j) (by unfold oldR; omega)
        rw [e1] at u
        repeat' (first | exact cl1 | ((with_reducible show Exists _); refine exU8 ?_) | ((with_reducible show callX _ _ _ _ _); (first | refine call_p (f) (by kernel_rfl) rfl ?_ | refine call_p (u) (by kernel_rfl) rfl ?_)) | ((fail_if_success with_reducible first | show LeG _ _ | show Lp _ _ _ _ | show Exists _ | show callX _ _ _ _ _ | show (_ : Int) ≤ _ | show (_ : Int) < _ | show (_ : Nat) ≤ _ | show (_ : Nat) < _); (conv => whnf) <;> (first | exact cl2 | refine Br.dec (fun hc => absurd hc hno) (fun hc => ?_) | refine Br.dec (fun hc => absurd hc hsh) (fun hc => ?_) | refine Br.dec (fun hc => absurd hc hy') (fun hc => ?_) | refine XAlt.l ?_ | refine Sq.pr ?_ | refine Br.dec (fun hc => ?_) (fun hc => ?_) | refine Br.tt ?_ | refine Br.ff ?_ | refine Br.not ?_ | refine Br.mk (fun hc => ?_) (fun hc => ?_) | refine Opt.nn ?_ | refine Opt.ss ?_ | refine AltA.l ?_ | exact PV.leL_nil | refine PV.leL_cons ?_ ?_ | refine And.intro ?_ ?_ | refine ix_map (fun x hx => ?_) | refine exU8 ?_ | refine nilc (fun hn => ?_) ?_ | exact cl3 | refine imp0 (fun hpos => ?_) | refine fits_i64 ?_ ?_ | exact rfl | (with_reducible first | show LeG _ _ | show Lp _ _ _ _ | show Exists _ | show callX _ _ _ _ _)))) <;> (try exact cl5)
        generalize hgg : genL (d.secs.take d.secs.length) + 1 = g
        rw [List.take_length] at hgg
        have hg32 : g < 4294967296 := by omega
        have hFl : (newR j).length = j.recs.length - j.sync.toNat := by unfold newR; rw [List.length_drop]
        have hul : usedN j.recs = usedN (oldR j) + usedN (newR j) := by
          conv => lhs; rw [← List.take_append_drop j.sync.toNat j.recs]
          unfold usedN oldR newR; rw [List.map_append, List.sum_append]
        have hget : ∀ i b, (newR j)[i]? = some b → (List.drop (Int.toNat j.sync) (List.take (Int.toNat ((j.recs.map eB).length : Int)) (j.recs.map eB)))[i]? = some (eB b) := fun i b h => by
          rw [Int.toNat_natCast, List.take_length, ← List.map_drop, List.getElem?_map]
          show ((newR j)[i]?).map eB = _
          rw [h]; rfl
        have hlen : (List.drop (Int.toNat j.sync) (List.take (Int.toNat ((j.recs.map eB).length : Int)) (j.recs.map eB))).length = (newR j).length := by
          rw [List.length_drop, Int.toNat_natCast, List.take_length, hmr, hFl]
        have hFb : ∀ b ∈ newR j, B8 b := fun b h => hb b (List.mem_of_mem_drop h)
        have hFz : ∀ b ∈ newR j, b.length + 1 ≤ 50000000 := fun b h => Nat.le_trans (szL_mem (List.mem_of_mem_drop h)) hz
        have hpe : d.pend = [] := List.eq_nil_of_length_eq_zero (by omega)
        generalize hu0 : usedN (oldR j) = u0 at *
        generalize hF : newR j = F at *
        have hF4 : F.length ≤ 4096 := by have := usedN_ge F; omega
        have hwj : wrJ j d = wrs g u0 F := by unfold wrJ; rw [hu0, hF, hgg]
        rw [hwj]
        have hTok : ∀ i, ∀ w ∈ wrs g u0 (F.take i), (0 ≤ w.pos ∧ w.pos < d.secs.length) ∧ w.data.length = 128 := fun i w hw => by
          have h1 := wrs_ok g _ _ w hw
          have h2 := usedN_takeLe F i
          omega
        have hTl : ∀ i, (wrs g u0 (F.take i)).length ≤ 4096 := fun i => by
          rw [wrs_len]; have h2 := usedN_takeLe F i; omega
        refine Wpc.loopA (α := {i : Nat // i ≤ F.length}) mixed [0, 1, 2, 3, 4, 5, 6, 7, 8, 9, 10, 12, 13, 15, 16, 17, 18, 22, 29, 43, 52, 57, 58, 59, 60, 87, 95, 108, 109, 110, 111, 117, 121, 141, 157] (fun i => [(13, .p (eI (u0 + usedN (F.take i.1) : Nat))), (110, .p (eI i.1)), (6, .p (eE 0))]) (fun i => [(64, .cells [.p (eS d.secs), .p (eP (wrs g u0 (F.take i.1))), .p (eI d.left), .p (.bool false)])]) (fun _ => 0) (fun i => F.length - i.1) ⟨0, Nat.zero_le _⟩ ?_ ?_
        · (first | refine Ent.ofA [] ?_ | refine Ent.ofC [] ?_) <;> (repeat' (first | exact trivial | refine HpLe.dd ?_ | refine HpLe.mk rfl (by simp) rfl (fun h => AObj.noConfusion h) ?_ ?_ | refine And.intro ?_ ?_ | exact cl9 | refine VLe.pe ?_ | refine VLe.agg ?_ | refine VLe.tup ?_ | refine VLe.fn ?_ ?_ | refine VLeL.cons ?_ ?_ | exact VLeL.nil | exact OLe.row _ _ | rfl | refine VLe.rsle rfl ?_ ?_ ?_ | refine OLe.rowe2 ?_ ?_ | refine OLe.mape ?_ ?_ | refine OLe.iter0 ?_ | refine OLe.itere ?_ ?_)) <;> try (first | (simp; done) | (congr 1; omega) | (congr 1; (first | (simp; done) | (simp; omega))))
          all_goals first
          | (rw [hst]; done)
          | (rw [hpe]; rfl)
          | trace_state
        rintro ⟨i, hi⟩
        have hi : i ≤ F.length := hi
        cases hxi : F[i]? with
        | none =>
          have hge : F.length ≤ i := List.getElem?_eq_none_iff.1 hxi
          have hno : ¬ ((i : Int) < ((List.drop (Int.toNat j.sync) (List.take (Int.toNat ((j.recs.map eB).length : Int)) (j.recs.map eB))).length : Int)) := by omega
          have ef : F.take i = F := List.take_of_length_le hge
          have sy := sync_calls (dW d (wrs g u0 (F.take i))) h1 (by show (wrs g u0 (F.take i)).length < 1000000; have := hTl i; omega)
          rw [ef] at sy
          have ef' : eP (wrs g u0 (F.take i)) = eP (wrs g u0 F) := by rw [ef]
          have sy : PCalls Try.prog 27 [.agg [eS d.secs, eP (wrs g u0 (F.take i)), eI d.left, .bool false]] (eR (syncD (dW d (wrs g u0 F)))) := by rw [ef']; exact sy
          repeat' (first | exact cl1 | ((with_reducible show Exists _); refine exU8 ?_) | ((with_reducible show callX _ _ _ _ _); (first | refine call_p (sy) (by kernel_rfl) rfl ?_)) | ((fail_if_success with_reducible first | show LeG _ _ | show Lp _ _ _ _ | show Exists _ | show callX _ _ _ _ _ | show (_ : Int) ≤ _ | show (_ : Int) < _ | show (_ : Nat) ≤ _ | show (_ : Nat) < _); (conv => whnf) <;> (first | exact cl2 | refine Br.dec (fun hc => absurd hc hno) (fun hc => ?_) | refine XAlt.l ?_ | refine Sq.pr ?_ | refine Br.dec (fun hc => ?_) (fun hc => ?_) | refine Br.tt ?_ | refine Br.ff ?_ | refine Br.not ?_ | refine Br.mk (fun hc => ?_) (fun hc => ?_) | refine Opt.nn ?_ | refine Opt.ss ?_ | refine AltA.l ?_ | exact PV.leL_nil | refine PV.leL_cons ?_ ?_ | refine And.intro ?_ ?_ | refine ix_map (fun x hx => ?_) | refine exU8 ?_ | refine nilc (fun hn => ?_) ?_ | exact cl3 | refine imp0 (fun hpos => ?_) | refine fits_i64 ?_ ?_ | exact rfl | (with_reducible first | show LeG _ _ | show Lp _ _ _ _ | show Exists _ | show callX _ _ _ _ _)))) <;> (try exact cl5)
          · show LeG _ (eJD (if (syncD (dW d (wrs g u0 F))).2 ≠ 0 then _ else _))
            rw [if_pos hc]
            ((all_goals (try refine LeG.mk ?_)); (repeat' (first | exact PV.le_refl _ | exact PV.le_nil _ _ _ | exact PV.le_clip _ _ _ | exact PV.le_nilF _ _ _ | refine PV.le_agg ?_ | refine PV.le_tup ?_ | exact PV.leL_nil | refine PV.leL_cons ?_ ?_ | refine PV.le_of ?_ | rfl)))
          · show LeG _ (eJD (if (syncD (dW d (wrs g u0 F))).2 ≠ 0 then _ else _))
            rw [if_neg hc]
            rw [hmr]
            ((all_goals (try refine LeG.mk ?_)); (repeat' (first | exact PV.le_refl _ | exact PV.le_nil _ _ _ | exact PV.le_clip _ _ _ | exact PV.le_nilF _ _ _ | refine PV.le_agg ?_ | refine PV.le_tup ?_ | exact PV.leL_nil | refine PV.leL_cons ?_ ?_ | refine PV.le_of ?_ | rfl)))
        | some b =>
          have hlt : i < F.length := (List.getElem?_eq_some_iff.1 hxi).1
          have hyes : ((i : Int) < ((List.drop (Int.toNat j.sync) (List.take (Int.toNat ((j.recs.map eB).length : Int)) (j.recs.map eB))).length : Int)) := by omega
          have hbB := hFb b (List.mem_of_getElem? hxi)
          have hbz := hFz b (List.mem_of_getElem? hxi)
          have se := sectors_calls b (by omega)
          have hut := usedN_take hxi
          have hsn : secN b.length ≤ b.length + 1 := secN_le _
          have hT : wrs g u0 (F.take (i + 1)) = wrs g u0 (F.take i) ++ wrR g (u0 + usedN (F.take i)) true (secN b.length) b := by
            rw [List.take_add_one, hxi]
            show wrs g u0 (F.take i ++ [b]) = _
            rw [wrs_append]
            show _ ++ (wrR g _ true _ b ++ []) = _
            rw [List.append_nil]
          have hTo := hTok (i + 1)
          have hTn : (wrs g u0 (F.take (i + 1))).length = usedN (F.take (i + 1)) := wrs_len g _ _
          have hP0 : (wrs g u0 (F.take i)).length = usedN (F.take i) := wrs_len g _ _
          have hul1 := usedN_takeLe F (i + 1)
          have hgetb := hget i b hxi
          repeat' (first | exact cl1 | ((with_reducible show Exists _); refine exU8 ?_) | ((with_reducible show callX _ _ _ _ _); (first | refine call_p (se) (by kernel_rfl) rfl ?_)) | ((fail_if_success with_reducible first | show LeG _ _ | show Lp _ _ _ _ | show Exists _ | show callX _ _ _ _ _ | show (_ : Int) ≤ _ | show (_ : Int) < _ | show (_ : Nat) ≤ _ | show (_ : Nat) < _); (conv => whnf) <;> (first | exact cl2 | refine Br.dec (fun hc => ?_) (fun hc => absurd hyes hc) | refine ix_q hgetb ?_ | refine XAlt.l ?_ | refine Sq.pr ?_ | refine Br.dec (fun hc => ?_) (fun hc => ?_) | refine Br.tt ?_ | refine Br.ff ?_ | refine Br.not ?_ | refine Br.mk (fun hc => ?_) (fun hc => ?_) | refine Opt.nn ?_ | refine Opt.ss ?_ | refine AltA.l ?_ | exact PV.leL_nil | refine PV.leL_cons ?_ ?_ | refine And.intro ?_ ?_ | refine ix_map (fun x hx => ?_) | refine exU8 ?_ | refine nilc (fun hn => ?_) ?_ | exact cl3 | refine imp0 (fun hpos => ?_) | refine fits_i64 ?_ ?_ | exact rfl | (with_reducible first | show LeG _ _ | show Lp _ _ _ _ | show Exists _ | show callX _ _ _ _ _)))) <;> (try exact cl5)
          refine Wpc.loopA (α := {x : Nat × Bs × Bool × List Wr // x.1 ≤ secN b.length ∧ x.2.1.length ≤ 112 * x.1 ∧ B8 x.2.1 ∧ x.2.2.2 ++ wrR g (u0 + usedN (F.take i) + (secN b.length - x.1)) x.2.2.1 x.1 x.2.1 = wrs g u0 (F.take (i + 1))}) mixed [0, 1, 2, 3, 4, 5, 6, 7, 8, 9, 10, 12, 13, 15, 16, 17, 18, 22, 29, 43, 52, 57, 58, 59, 60, 87, 95, 108, 109, 110, 111, 117, 121, 141, 157] (fun x => [(13, .p (eI (u0 + usedN (F.take i) + (secN b.length - x.1.1) : Nat))), (15, .p (eB x.1.2.1)), (16, .p (eC (if x.1.2.2.1 then 1 else 0))), (17, .p (eI x.1.1)), (6, .p (eE 0))]) (fun x => [(64, .cells [.p (eS d.secs), .p (eP x.1.2.2.2), .p (eI d.left), .p (.bool false)])]) (fun _ => 0) (fun x => x.1.1) ⟨(secN b.length, b, true, wrs g u0 (F.take i)), Nat.le_refl _, by show b.length ≤ 112 * secN b.length; unfold secN; omega, hbB, by rw [hT, Nat.sub_self]; rfl⟩ ?_ ?_
          · (first | refine Ent.ofA [] ?_ | refine Ent.ofC [] ?_) <;> (repeat' (first | exact trivial | refine HpLe.dd ?_ | refine HpLe.mk rfl (by simp) rfl (fun h => AObj.noConfusion h) ?_ ?_ | refine And.intro ?_ ?_ | exact cl9 | refine VLe.pe ?_ | refine VLe.agg ?_ | refine VLe.tup ?_ | refine VLe.fn ?_ ?_ | refine VLeL.cons ?_ ?_ | exact VLeL.nil | exact OLe.row _ _ | rfl | refine VLe.rsle rfl ?_ ?_ ?_ | refine OLe.rowe2 ?_ ?_ | refine OLe.mape ?_ ?_ | refine OLe.iter0 ?_ | refine OLe.itere ?_ ?_)) <;> try (first | (simp; done) | (congr 1; omega) | (congr 1; (first | (simp; done) | (simp; omega))))
            all_goals trace_state
          rintro ⟨⟨m, r, first, P⟩, hm, hrl, hrB8, hPT⟩
          have hm : m ≤ secN b.length := hm
          have hrl : r.length ≤ 112 * m := hrl
          have hrB8 : B8 r := hrB8
          have hPT : P ++ wrR g (u0 + usedN (F.take i) + (secN b.length - m)) first m r = wrs g u0 (F.take (i + 1)) := hPT
          have hPl : P.length + m = usedN (F.take (i + 1)) := by
            have := congrArg List.length hPT
            rw [List.length_append, wrR_len, hTn] at this; exact this
          have hPok : ∀ w ∈ P, (0 ≤ w.pos ∧ w.pos < d.secs.length) ∧ w.data.length = 128 := fun w hw => hTo w (by rw [← hPT]; exact List.mem_append_left _ hw)
          cases m with
          | zero =>
            have hno : ¬ ((0 : Nat) : Int) > 0 := by omega
            have hPT : P = wrs g u0 (F.take (i + 1)) := by rw [← hPT]; show P = P ++ []; rw [List.append_nil]
            repeat' (first | exact cl1 | ((with_reducible show Exists _); refine exU8 ?_) | ((fail_if_success with_reducible first | show LeG _ _ | show Lp _ _ _ _ | show Exists _ | show callX _ _ _ _ _ | show (_ : Int) ≤ _ | show (_ : Int) < _ | show (_ : Nat) ≤ _ | show (_ : Nat) < _); (conv => whnf) <;> (first | exact cl2 | refine Br.dec (fun hc => absurd hc hno) (fun hc => ?_) | refine XAlt.l ?_ | refine Sq.pr ?_ | refine Br.dec (fun hc => ?_) (fun hc => ?_) | refine Br.tt ?_ | refine Br.ff ?_ | refine Br.not ?_ | refine Br.mk (fun hc => ?_) (fun hc => ?_) | refine Opt.nn ?_ | refine Opt.ss ?_ | refine AltA.l ?_ | exact PV.leL_nil | refine PV.leL_cons ?_ ?_ | refine And.intro ?_ ?_ | refine ix_map (fun x hx => ?_) | refine exU8 ?_ | refine nilc (fun hn => ?_) ?_ | exact cl3 | refine imp0 (fun hpos => ?_) | refine fits_i64 ?_ ?_ | exact rfl | (with_reducible first | show LeG _ _ | show Lp _ _ _ _ | show Exists _ | show callX _ _ _ _ _)))) <;> (try exact cl5)
            refine ⟨⟨i + 1, hlt⟩, by show F.length - (i + 1) < F.length - i; omega, ?_⟩
            (first | refine Ent.ofA [] ?_ | refine Ent.ofC [] ?_) <;> (repeat' (first | exact trivial | refine HpLe.dd ?_ | refine HpLe.mk rfl (by simp) rfl (fun h => AObj.noConfusion h) ?_ ?_ | refine And.intro ?_ ?_ | exact cl9 | refine VLe.pe ?_ | refine VLe.agg ?_ | refine VLe.tup ?_ | refine VLe.fn ?_ ?_ | refine VLeL.cons ?_ ?_ | exact VLeL.nil | exact OLe.row _ _ | rfl | refine VLe.rsle rfl ?_ ?_ ?_ | refine OLe.rowe2 ?_ ?_ | refine OLe.mape ?_ ?_ | refine OLe.iter0 ?_ | refine OLe.itere ?_ ?_)) <;> try (first | (simp; done) | (congr 1; omega) | (congr 1; (first | (simp; done) | (simp; omega))))
            all_goals first
            | (show PV.int .i64 ((u0 + usedN (F.take i) + (secN b.length - 0) : Nat) : Int) = eI (u0 + usedN (F.take (i + 1)) : Nat); rw [hut, Nat.sub_zero, Nat.add_assoc]; rfl)
            | (show eP P = eP (wrs g u0 (F.take (i + 1))); rw [hPT]; done)
            | trace_state
          | succ m =>
            have hyes2 : ((m + 1 : Nat) : Int) > 0 := by omega
            have hr : r.length ≤ 50000000 := by omega
            have ek : ∀ kd, kd ≤ 3 → PCalls Try.prog 44 [eU g, eI (u0 + usedN (F.take i) + (secN b.length - (m + 1)) : Nat), eC kd, eB (r.take 112)] (eB (secS g (u0 + usedN (F.take i) + (secN b.length - (m + 1))) kd (r.take 112))) := fun kd hkd => encode_calls g _ kd (r.take 112) hg32 (by omega) hkd (by rw [List.length_take]; omega) (hrB8.take 112)
            have hw := fun kd => dW_write (p := u0 + usedN (F.take i) + (secN b.length - (m + 1))) (b := secS g (u0 + usedN (F.take i) + (secN b.length - (m + 1))) kd (r.take 112)) hd (P := P) (by omega) hPok (by omega) (secS_len (by rw [List.length_take]; omega))
            have wk := fun kd => write_calls (dW d P) (u0 + usedN (F.take i) + (secN b.length - (m + 1)) : Nat) (secS g (u0 + usedN (F.take i) + (secN b.length - (m + 1))) kd (r.take 112)) h1 (by show P.length < 1000000; omega) (by rw [secS_len (by rw [List.length_take]; omega)]; decide)
            have ek := ek (kdW first m) (kdW_le first m)
            have wk := wk (kdW first m)
            rw [hw (kdW first m)] at wk
            have hmn : mnI ((r.map (PV.int .u8)).length : Int) ≤ ((r.map (PV.int .u8)).length : Int) := by rw [mnI_eq]; omega
            have hmn0 : 0 ≤ mnI ((r.map (PV.int .u8)).length : Int) := by rw [mnI_eq]; omega
            have hPT2 : (P ++ [⟨((u0 + usedN (F.take i) + (secN b.length - (m + 1)) : Nat) : Int), secS g (u0 + usedN (F.take i) + (secN b.length - (m + 1))) (kdW first m) (r.take 112)⟩]) ++ wrR g (u0 + usedN (F.take i) + (secN b.length - m)) false m (r.drop 112) = wrs g u0 (F.take (i + 1)) := by
              rw [← hPT, List.append_assoc, show secN b.length - m = secN b.length - (m + 1) + 1 by omega]; rfl
            rw [mn_take] at ek
            by_cases h1m : m = 0
            · subst h1m
              rw [kd_or] at ek
              have h1yes : ((0 + 1 : Nat) : Int) = 1 := rfl
              repeat' (first | exact cl1 | ((with_reducible show Exists _); refine exU8 ?_) | ((with_reducible show callX _ _ _ _ _); (first | refine call_p (ek) (by kernel_rfl) rfl ?_ | refine call_p (wk) (by kernel_rfl) rfl ?_)) | ((fail_if_success with_reducible first | show LeG _ _ | show Lp _ _ _ _ | show Exists _ | show callX _ _ _ _ _ | show (_ : Int) ≤ _ | show (_ : Int) < _ | show (_ : Nat) ≤ _ | show (_ : Nat) < _); (conv => whnf) <;> (first | exact cl2 | refine Br.dec (fun hc => ?_) (fun hc => absurd hyes2 hc) | refine Br.dec (fun hc => ?_) (fun hc => absurd h1yes hc) | refine XAlt.l ?_ | refine Sq.pr ?_ | refine Br.dec (fun hc => ?_) (fun hc => ?_) | refine Br.tt ?_ | refine Br.ff ?_ | refine Br.not ?_ | refine Br.mk (fun hc => ?_) (fun hc => ?_) | refine Opt.nn ?_ | refine Opt.ss ?_ | refine AltA.l ?_ | exact PV.leL_nil | refine PV.leL_cons ?_ ?_ | refine And.intro ?_ ?_ | refine ix_map (fun x hx => ?_) | refine exU8 ?_ | refine nilc (fun hn => ?_) ?_ | exact cl3 | refine imp0 (fun hpos => ?_) | refine fits_i64 ?_ ?_ | exact rfl | (with_reducible first | show LeG _ _ | show Lp _ _ _ _ | show Exists _ | show callX _ _ _ _ _)))) <;> (try exact cl5)
              all_goals first
              | exact hmn
              | exact hmn0
              | skip
              refine ⟨⟨(0, r.drop 112, false, P ++ [⟨((u0 + usedN (F.take i) + (secN b.length - (0 + 1)) : Nat) : Int), secS g (u0 + usedN (F.take i) + (secN b.length - (0 + 1))) (kdW first 0) (r.take 112)⟩]), by show 0 ≤ secN b.length; omega, by show (r.drop 112).length ≤ 112 * 0; rw [List.length_drop]; omega, hrB8.drop 112, hPT2⟩, by show 0 < 0 + 1; omega, ?_⟩
              (first | refine Ent.ofA [] ?_ | refine Ent.ofC [] ?_) <;> (repeat' (first | exact trivial | refine HpLe.dd ?_ | refine HpLe.mk rfl (by simp) rfl (fun h => AObj.noConfusion h) ?_ ?_ | refine And.intro ?_ ?_ | exact cl9 | refine VLe.pe ?_ | refine VLe.agg ?_ | refine VLe.tup ?_ | refine VLe.fn ?_ ?_ | refine VLeL.cons ?_ ?_ | exact VLeL.nil | exact OLe.row _ _ | rfl | refine VLe.rsle rfl ?_ ?_ ?_ | refine OLe.rowe2 ?_ ?_ | refine OLe.mape ?_ ?_ | refine OLe.iter0 ?_ | refine OLe.itere ?_ ?_)) <;> try (first | (simp; done) | (congr 1; omega) | (congr 1; (first | (simp; done) | (simp; omega))))
              all_goals first
              | (show PV.int .i64 (((u0 + usedN (F.take i) + (secN b.length - (0 + 1)) : Nat) : Int) + 1) = eI (u0 + usedN (F.take i) + (secN b.length - 0) : Nat); refine congrArg (PV.int .i64) ?_; omega)
              | exact mn_drop r
              | (show PV.int .i64 (((0 + 1 : Nat) : Int) - 1) = eI (0 : Nat); refine congrArg (PV.int .i64) ?_; omega)
              | trace_state
            · rw [kd_no first h1m] at ek
              have h1m' : ¬ ((m + 1 : Nat) : Int) = 1 := by omega
              repeat' (first | exact cl1 | ((with_reducible show Exists _); refine exU8 ?_) | ((with_reducible show callX _ _ _ _ _); (first | refine call_p (ek) (by kernel_rfl) rfl ?_ | refine call_p (wk) (by kernel_rfl) rfl ?_)) | ((fail_if_success with_reducible first | show LeG _ _ | show Lp _ _ _ _ | show Exists _ | show callX _ _ _ _ _ | show (_ : Int) ≤ _ | show (_ : Int) < _ | show (_ : Nat) ≤ _ | show (_ : Nat) < _); (conv => whnf) <;> (first | exact cl2 | refine Br.dec (fun hc => ?_) (fun hc => absurd hyes2 hc) | refine Br.dec (fun hc => absurd hc h1m') (fun hc => ?_) | refine XAlt.l ?_ | refine Sq.pr ?_ | refine Br.dec (fun hc => ?_) (fun hc => ?_) | refine Br.tt ?_ | refine Br.ff ?_ | refine Br.not ?_ | refine Br.mk (fun hc => ?_) (fun hc => ?_) | refine Opt.nn ?_ | refine Opt.ss ?_ | refine AltA.l ?_ | exact PV.leL_nil | refine PV.leL_cons ?_ ?_ | refine And.intro ?_ ?_ | refine ix_map (fun x hx => ?_) | refine exU8 ?_ | refine nilc (fun hn => ?_) ?_ | exact cl3 | refine imp0 (fun hpos => ?_) | refine fits_i64 ?_ ?_ | exact rfl | (with_reducible first | show LeG _ _ | show Lp _ _ _ _ | show Exists _ | show callX _ _ _ _ _)))) <;> (try exact cl5)
              all_goals first
              | exact hmn
              | exact hmn0
              | skip
              refine ⟨⟨(m, r.drop 112, false, P ++ [⟨((u0 + usedN (F.take i) + (secN b.length - (m + 1)) : Nat) : Int), secS g (u0 + usedN (F.take i) + (secN b.length - (m + 1))) (kdW first m) (r.take 112)⟩]), by show m ≤ secN b.length; omega, by show (r.drop 112).length ≤ 112 * m; rw [List.length_drop]; omega, hrB8.drop 112, hPT2⟩, by show m < m + 1; omega, ?_⟩
              (first | refine Ent.ofA [] ?_ | refine Ent.ofC [] ?_) <;> (repeat' (first | exact trivial | refine HpLe.dd ?_ | refine HpLe.mk rfl (by simp) rfl (fun h => AObj.noConfusion h) ?_ ?_ | refine And.intro ?_ ?_ | exact cl9 | refine VLe.pe ?_ | refine VLe.agg ?_ | refine VLe.tup ?_ | refine VLe.fn ?_ ?_ | refine VLeL.cons ?_ ?_ | exact VLeL.nil | exact OLe.row _ _ | rfl | refine VLe.rsle rfl ?_ ?_ ?_ | refine OLe.rowe2 ?_ ?_ | refine OLe.mape ?_ ?_ | refine OLe.iter0 ?_ | refine OLe.itere ?_ ?_)) <;> try (first | (simp; done) | (congr 1; omega) | (congr 1; (first | (simp; done) | (simp; omega))))
              all_goals first
              | (show PV.int .i64 (((u0 + usedN (F.take i) + (secN b.length - (m + 1)) : Nat) : Int) + 1) = eI (u0 + usedN (F.take i) + (secN b.length - m) : Nat); refine congrArg (PV.int .i64) ?_; omega)
              | exact mn_drop r
              | (show PV.int .i64 (((m + 1 : Nat) : Int) - 1) = eI (m : Nat); refine congrArg (PV.int .i64) ?_; omega)
              | trace_state
    · have hsh : ((genL (d.secs.take d.secs.length) + 1 : Nat) : Int).fdiv (2 ^ min (Int.toNat 32) IntKind.u64.bits) ≠ 0 := by
        rw [List.take_length, show genL d.secs + 1 = 4294967296 by omega]; decide
      rw [if_pos (fun h => hgo h.2)]
      repeat' (first | exact cl1 | ((with_reducible show Exists _); refine exU8 ?_) | ((with_reducible show callX _ _ _ _ _); (first | refine call_p (f) (by kernel_rfl) rfl ?_)) | ((fail_if_success with_reducible first | show LeG _ _ | show Lp _ _ _ _ | show Exists _ | show callX _ _ _ _ _ | show (_ : Int) ≤ _ | show (_ : Int) < _ | show (_ : Nat) ≤ _ | show (_ : Nat) < _); (conv => whnf) <;> (first | exact cl2 | refine Br.dec (fun hc => absurd hc hno) (fun hc => ?_) | refine Br.dec (fun hc => ?_) (fun hc => absurd hsh hc) | refine XAlt.l ?_ | refine Sq.pr ?_ | refine Br.dec (fun hc => ?_) (fun hc => ?_) | refine Br.tt ?_ | refine Br.ff ?_ | refine Br.not ?_ | refine Br.mk (fun hc => ?_) (fun hc => ?_) | refine Opt.nn ?_ | refine Opt.ss ?_ | refine AltA.l ?_ | exact PV.leL_nil | refine PV.leL_cons ?_ ?_ | refine And.intro ?_ ?_ | refine ix_map (fun x hx => ?_) | refine exU8 ?_ | refine nilc (fun hn => ?_) ?_ | exact cl3 | refine imp0 (fun hpos => ?_) | refine fits_i64 ?_ ?_ | exact rfl | (with_reducible first | show LeG _ _ | show Lp _ _ _ _ | show Exists _ | show callX _ _ _ _ _)))) <;> (try exact cl5)
      all_goals ((all_goals (try refine LeG.mk ?_)); (repeat' (first | exact PV.le_refl _ | exact PV.le_nil _ _ _ | exact PV.le_clip _ _ _ | exact PV.le_nilF _ _ _ | refine PV.le_agg ?_ | refine PV.le_tup ?_ | exact PV.leL_nil | refine PV.leL_cons ?_ ?_ | refine PV.le_of ?_ | rfl)))
  · rw [decide_eq_false hr] at f
    rw [if_pos (fun h => hr h.1)]
    repeat' (first | exact cl1 | ((with_reducible show Exists _); refine exU8 ?_) | ((with_reducible show callX _ _ _ _ _); (first | refine call_p (f) (by kernel_rfl) rfl ?_)) | ((fail_if_success with_reducible first | show LeG _ _ | show Lp _ _ _ _ | show Exists _ | show callX _ _ _ _ _ | show (_ : Int) ≤ _ | show (_ : Int) < _ | show (_ : Nat) ≤ _ | show (_ : Nat) < _); (conv => whnf) <;> (first | exact cl2 | refine Br.dec (fun hc => absurd hc hno) (fun hc => ?_) | refine XAlt.l ?_ | refine Sq.pr ?_ | refine Br.dec (fun hc => ?_) (fun hc => ?_) | refine Br.tt ?_ | refine Br.ff ?_ | refine Br.not ?_ | refine Br.mk (fun hc => ?_) (fun hc => ?_) | refine Opt.nn ?_ | refine Opt.ss ?_ | refine AltA.l ?_ | exact PV.leL_nil | refine PV.leL_cons ?_ ?_ | refine And.intro ?_ ?_ | refine ix_map (fun x hx => ?_) | refine exU8 ?_ | refine nilc (fun hn => ?_) ?_ | exact cl3 | refine imp0 (fun hpos => ?_) | refine fits_i64 ?_ ?_ | exact rfl | (with_reducible first | show LeG _ _ | show Lp _ _ _ _ | show Exists _ | show callX _ _ _ _ _)))) <;> (try exact cl5)
    all_goals ((all_goals (try refine LeG.mk ?_)); (repeat' (first | exact PV.le_refl _ | exact PV.le_nil _ _ _ | exact PV.le_clip _ _ _ | exact PV.le_nilF _ _ _ | refine PV.le_agg ?_ | refine PV.le_tup ?_ | exact PV.leL_nil | refine PV.leL_cons ?_ ?_ | refine PV.le_of ?_ | rfl)))
end Go.Proofs.Ytijkiolobmkhhaa

namespace Go.Proofs.Ytijkiolobmkhhaa
open Go Go.Sg
set_option maxRecDepth 100000
set_option maxHeartbeats 40000000
def sD1 : Dk := ⟨[zB], [], -1, false⟩
def sJ1 : Jn := ⟨[], 1, 0⟩
def sJ2 : Jn := ⟨[[97, 98]], 1, 0⟩
def sJ3 : Jn := ⟨[[97, 98]], 1, 1⟩
def sD2 : Dk := ⟨[secS 1 0 3 [97, 98]], [], -1, false⟩
theorem sn1 : newD 1 = (sD1, 0) := by kernel_rfl
theorem sn2 : openJ sD1 = (sJ1, 0) := by kernel_rfl
theorem sn3 : appJ sJ1 (List.replicate 113 0) = (j0, 2) := by kernel_rfl
theorem sn4 : appJ sJ1 [97, 98] = (sJ2, 0) := by kernel_rfl
theorem sn5 : syncJ sJ2 sD1 = (sJ3, sD2, 0) := by kernel_rfl
theorem sn6 : openJ sD2 = (sJ3, 0) := by kernel_rfl
theorem sn7 : syncJ sJ2 sD2 = (j0, d0, 50) := by kernel_rfl
theorem sn8 : roomJ sJ1 = 112 := by kernel_rfl
theorem sn9 : chkJ j0 = false := by kernel_rfl
theorem sane_calls : PCalls Try.prog 10 [] (.bool true) := by
  have b1 : ∀ s ∈ sD1.secs, B8 s := by
    intro s hs
    have : s = zB := by simpa [sD1] using hs
    subst this; intro c hc; have := List.eq_of_mem_replicate hc; omega
  have b2 : ∀ s ∈ sD2.secs, B8 s := by
    intro s hs
    have : s = secS 1 0 3 [97, 98] := by simpa [sD2] using hs
    subst this; exact secS_B8 (by decide) (by decide) (fun c hc => by simp at hc; omega)
  have bj : ∀ b ∈ sJ2.recs, B8 b := by
    intro b hb
    have : b = [97, 98] := by simpa [sJ2] using hb
    subst this; intro c hc; simp at hc; omega
  have z2 : szL sJ2.recs ≤ 50000000 := by decide
  have z1 : szL sJ1.recs ≤ 50000000 := by decide
  have c1 := new_calls 1
  rw [sn1] at c1
  have c2 := open_calls sD1 (by decide) (by decide) b1
  rw [sn2] at c2
  have c3 := append_calls sJ1 (List.replicate 113 0) z1 (by decide)
  rw [sn3] at c3
  have c4 := append_calls sJ1 [97, 98] z1 (by decide)
  rw [sn4] at c4
  have c5 := jsync_calls sJ2 sD1 z2 bj (by decide) (by decide) b1
  rw [sn5] at c5
  have c6 := open_calls sD2 (by decide) (by decide) b2
  rw [sn6] at c6
  have c7 := jsync_calls sJ2 sD2 z2 bj (by decide) (by decide) b2
  rw [sn7] at c7
  have c8 := room_calls sJ1 z1
  rw [sn8] at c8
  have c9 := check5_calls j0 (by decide)
  rw [sn9, if_neg Bool.false_ne_true] at c9
  refine PCalls.of (N := 119) (res := [.tmp 0]) mixed Try.func10 rfl rfl rfl (by kernel_rfl) (by simp) [0, 1, 2, 3, 4, 6, 7, 8, 9, 10, 11, 12, 13, 16] ?_
  repeat' (first | exact cl1 | ((with_reducible show Exists _); refine exU8 ?_) | ((with_reducible show callX _ _ _ _ _); (first | refine call_p (c1) (by kernel_rfl) rfl ?_ | refine call_p (c2) (by kernel_rfl) rfl ?_ | (refine call_z (c3) (by kernel_rfl) rfl ?_; (repeat' (first | exact PV.leL_nil | refine PV.leL_cons ?_ ?_ | refine And.intro ?_ ?_ | exact Nat.zero_lt_succ _ | exact Nat.le_of_ble_eq_true rfl | exact PV.le_refl _ | exact PV.le_nil _ _ _ | exact PV.le_clip _ _ _ | refine PV.le_agg ?_ | refine PV.le_tup ?_ | rfl)); fail_if_success (any_goals (refine PV.le_of ?_))) | (refine call_z (c4) (by kernel_rfl) rfl ?_; (repeat' (first | exact PV.leL_nil | refine PV.leL_cons ?_ ?_ | refine And.intro ?_ ?_ | exact Nat.zero_lt_succ _ | exact Nat.le_of_ble_eq_true rfl | exact PV.le_refl _ | exact PV.le_nil _ _ _ | exact PV.le_clip _ _ _ | refine PV.le_agg ?_ | refine PV.le_tup ?_ | rfl)); fail_if_success (any_goals (refine PV.le_of ?_))) | refine call_p (c5) (by kernel_rfl) rfl ?_ | refine call_p (c6) (by kernel_rfl) rfl ?_ | refine call_p (c7) (by kernel_rfl) rfl ?_ | refine call_p (c8) (by kernel_rfl) rfl ?_ | (refine call_z (c9) (by kernel_rfl) rfl ?_; (repeat' (first | exact PV.leL_nil | refine PV.leL_cons ?_ ?_ | refine And.intro ?_ ?_ | exact Nat.zero_lt_succ _ | exact Nat.le_of_ble_eq_true rfl | exact PV.le_refl _ | exact PV.le_nil _ _ _ | exact PV.le_clip _ _ _ | refine PV.le_agg ?_ | refine PV.le_tup ?_ | rfl)); fail_if_success (any_goals (refine PV.le_of ?_))))) | ((fail_if_success with_reducible first | show LeG _ _ | show Lp _ _ _ _ | show Exists _ | show callX _ _ _ _ _ | show (_ : Int) ≤ _ | show (_ : Int) < _ | show (_ : Nat) ≤ _ | show (_ : Nat) < _); (conv => whnf) <;> (first | exact cl2 | refine XAlt.l ?_ | refine Sq.pr ?_ | refine Br.dec (fun hc => ?_) (fun hc => ?_) | refine Br.tt ?_ | refine Br.ff ?_ | refine Br.not ?_ | refine Br.mk (fun hc => ?_) (fun hc => ?_) | refine Opt.nn ?_ | refine Opt.ss ?_ | refine AltA.l ?_ | exact PV.leL_nil | refine PV.leL_cons ?_ ?_ | refine And.intro ?_ ?_ | refine ix_map (fun x hx => ?_) | refine exU8 ?_ | refine nilc (fun hn => ?_) ?_ | exact cl3 | refine imp0 (fun hpos => ?_) | refine fits_i64 ?_ ?_ | exact rfl | (with_reducible first | show LeG _ _ | show Lp _ _ _ _ | show Exists _ | show callX _ _ _ _ _)))) <;> (try exact cl5)
  refine ⟨[97, 98], rfl, ?_⟩
  repeat' (first | exact cl1 | ((with_reducible show Exists _); refine exU8 ?_) | ((with_reducible show callX _ _ _ _ _); (first | refine call_p (c1) (by kernel_rfl) rfl ?_ | refine call_p (c2) (by kernel_rfl) rfl ?_ | (refine call_z (c3) (by kernel_rfl) rfl ?_; (repeat' (first | exact PV.leL_nil | refine PV.leL_cons ?_ ?_ | refine And.intro ?_ ?_ | exact Nat.zero_lt_succ _ | exact Nat.le_of_ble_eq_true rfl | exact PV.le_refl _ | exact PV.le_nil _ _ _ | exact PV.le_clip _ _ _ | refine PV.le_agg ?_ | refine PV.le_tup ?_ | rfl)); fail_if_success (any_goals (refine PV.le_of ?_))) | refine call_p (c4) (by kernel_rfl) rfl ?_ | refine call_p (c5) (by kernel_rfl) rfl ?_ | refine call_p (c6) (by kernel_rfl) rfl ?_ | refine call_p (c7) (by kernel_rfl) rfl ?_ | refine call_p (c8) (by kernel_rfl) rfl ?_ | (refine call_z (c9) (by kernel_rfl) rfl ?_; (repeat' (first | exact PV.leL_nil | refine PV.leL_cons ?_ ?_ | refine And.intro ?_ ?_ | exact Nat.zero_lt_succ _ | exact Nat.le_of_ble_eq_true rfl | exact PV.le_refl _ | exact PV.le_nil _ _ _ | exact PV.le_clip _ _ _ | refine PV.le_agg ?_ | refine PV.le_tup ?_ | rfl)); fail_if_success (any_goals (refine PV.le_of ?_))))) | ((fail_if_success with_reducible first | show LeG _ _ | show Lp _ _ _ _ | show Exists _ | show callX _ _ _ _ _ | show (_ : Int) ≤ _ | show (_ : Int) < _ | show (_ : Nat) ≤ _ | show (_ : Nat) < _); (conv => whnf) <;> (first | exact cl2 | refine XAlt.l ?_ | refine Sq.pr ?_ | refine Br.dec (fun hc => ?_) (fun hc => ?_) | refine Br.tt ?_ | refine Br.ff ?_ | refine Br.not ?_ | refine Br.mk (fun hc => ?_) (fun hc => ?_) | refine Opt.nn ?_ | refine Opt.ss ?_ | refine AltA.l ?_ | exact PV.leL_nil | refine PV.leL_cons ?_ ?_ | refine And.intro ?_ ?_ | refine ix_map (fun x hx => ?_) | refine exU8 ?_ | refine nilc (fun hn => ?_) ?_ | exact cl3 | refine imp0 (fun hpos => ?_) | refine fits_i64 ?_ ?_ | exact rfl | (with_reducible first | show LeG _ _ | show Lp _ _ _ _ | show Exists _ | show callX _ _ _ _ _)))) <;> (try exact cl5)
  all_goals first
  | (exfalso; exact hc rfl)
  | (exfalso
     have e : some [97, 98] = some x := hx
     injection e with e
     subst e
     exact hc (by decide))
  | trace_state
end Go.Proofs.Ytijkiolobmkhhaa

namespace Go.Proofs.Ytijkiolobmkhhaa
open Go Go.Sg
set_option maxRecDepth 100000
set_option maxHeartbeats 8000000
/-! ### Records, plainly -/
abbrev SS (l : List Bs) : Prop := ∀ s ∈ l, s.length = 128 ∧ B8 s
theorem goodB_pre {s : Bs} {n : Nat} (h : goodB s n = true) : at8 s 11 ≤ 112 ∧ at8 s 10 ≤ 3 ∧ (at8 s 10 < 2 → at8 s 11 = 112) ∧ (at8 s 10 % 2 = 0 → at8 s 11 ≠ 0) := by
  unfold goodB at h
  simp only [Bool.and_eq_true] at h
  exact of_decide_eq_true h.1.1
theorem pieceS_len {s : Bs} (hs : s.length = 128) (h : at8 s 11 ≤ 112) : (pieceS s).length = (at8 s 11).toNat := by
  unfold pieceS; rw [List.length_take, List.length_drop]; omega
theorem scan_len : ∀ (ss : List Bs) (n : Nat) (first : Bool) (g : Nat) (b : Bs) (m : Nat), SS ss → scanR ss n first g = some (b, m) →
    1 ≤ m ∧ b.length ≤ 112 * m ∧ (first = false ∨ 2 ≤ m → 112 * (m - 1) < b.length)
  | [], _, _, _, _, _, _, h => by simp [scanR] at h
  | s :: r, n, first, g, b, m, hB, h => by
    obtain ⟨s1, s2⟩ := hB s (by simp)
    rw [scanR] at h
    by_cases hc : goodB s n = true ∧ begS s = first ∧ genS s = g
    · rw [if_pos hc] at h
      obtain ⟨q1, q2, q3, q4⟩ := goodB_pre hc.1
      have hp := pieceS_len s1 q1
      have h0 := at8_B8 s2 11
      by_cases he : endS s = true
      · rw [if_pos he] at h
        injection h with h; injection h with h1 h2
        subst h1; subst h2
        refine ⟨Nat.le_refl _, by omega, fun hf => ?_⟩
        rcases hf with hf | hf
        · have : ¬ at8 s 10 % 2 = 1 := of_decide_eq_false (hc.2.1.trans hf)
          have := q4 (by omega)
          omega
        · omega
      · rw [if_neg he] at h
        have he : ¬ 2 ≤ at8 s 10 := of_decide_eq_false (Bool.eq_false_iff.2 he)
        rw [Option.map_eq_some_iff] at h
        obtain ⟨x, hx, hxe⟩ := h
        injection hxe with h1 h2
        obtain ⟨i1, i2, i3⟩ := scan_len r (n + 1) false g x.1 x.2 (fun t ht => hB t (by simp [ht])) hx
        have i3 := i3 (.inl rfl)
        have h112 := q3 (by omega)
        subst h1; subst h2
        rw [List.length_append]
        refine ⟨by omega, by omega, fun _ => by omega⟩
    · rw [if_neg hc] at h; cases h
theorem recAt_secN {l : List Bs} {i m : Nat} {b : Bs} (hB : SS l) (h : recAt l i = some (b, m)) : m = secN b.length := by
  obtain ⟨h1, h2, h3⟩ := scan_len _ _ _ _ _ _ (fun s hs => hB s (List.mem_of_mem_drop hs)) h
  unfold secN
  by_cases hm : 2 ≤ m
  · have := h3 (.inr hm); omega
  · omega
/-- From sector i on, after a record of generation 'last', lie these records, up to sector e; the last one is of generation le. -/
def Holds (l : List Bs) : Nat → Nat → List Bs → Nat → Nat → Prop
  | i, last, [], e, le => e = i ∧ le = last
  | i, last, b :: r, e, le => recAt l i = some (b, secN b.length) ∧ last ≤ gAt l i ∧ Holds l (i + secN b.length) (gAt l i) r e le
def StopsAt (l : List Bs) (e le : Nat) : Prop := recAt l e = none ∨ gAt l e < le
theorem holds_end {l : List Bs} : ∀ {R : List Bs} {i last e le : Nat}, Holds l i last R e le → e = i + usedN R
  | [], i, last, e, le, h => by rw [h.1]; rfl
  | b :: r, i, last, e, le, h => by rw [holds_end h.2.2, usedN_cons, Nat.add_assoc]
theorem holds_app {l : List Bs} : ∀ {R S : List Bs} {i a k b e le : Nat}, Holds l i a R k b → Holds l k b S e le → Holds l i a (R ++ S) e le
  | [], S, i, a, k, b, e, le, h1, h2 => by obtain ⟨rfl, rfl⟩ := h1; exact h2
  | c :: r, S, i, a, k, b, e, le, h1, h2 => ⟨h1.1, h1.2.1, holds_app h1.2.2 h2⟩
theorem recsA_holds {l : List Bs} (hB : SS l) : ∀ (f i last : Nat), l.length < f + i → i ≤ l.length → ∃ e le, Holds l i last ((recsA l f i last).map (·.2)) e le ∧ StopsAt l e le ∧ e ≤ l.length
  | 0, i, last, hf, hi => by omega
  | f + 1, i, last, hf, hi => by
    rw [recsA]
    cases hr : recAt l i with
    | none => exact ⟨i, last, ⟨rfl, rfl⟩, .inl hr, hi⟩
    | some y =>
      obtain ⟨b, m⟩ := y
      obtain ⟨m1, m2⟩ := recAt_m hr
      have hm := recAt_secN hB hr
      dsimp only
      by_cases hg : gAt l i < last
      · rw [if_pos hg]; exact ⟨i, last, ⟨rfl, rfl⟩, .inr hg, hi⟩
      · rw [if_neg hg]
        obtain ⟨e, le, h1, h2, h3⟩ := recsA_holds hB f (i + m) (gAt l i) (by omega) m2
        exact ⟨e, le, ⟨by rw [← hm]; exact hr, by omega, by rw [← hm]; exact h1⟩, h2, h3⟩
theorem recB_holds {l : List Bs} (hB : SS l) : ∃ e le, Holds l 0 0 (recB l) e le ∧ StopsAt l e le ∧ e ≤ l.length := recsA_holds hB _ 0 0 (by omega) (Nat.zero_le _)
theorem holds_recsA {l : List Bs} : ∀ {R : List Bs} {i last e le : Nat}, Holds l i last R e le → i ≤ l.length → (recsA l (l.length + 1) i last).map (·.2) = R ++ (recsA l (l.length + 1) e le).map (·.2)
  | [], i, last, e, le, h, hi => by obtain ⟨rfl, rfl⟩ := h; rfl
  | b :: r, i, last, e, le, h, hi => by
    obtain ⟨h1, h2, h3⟩ := h
    obtain ⟨m1, m2⟩ := recAt_m h1
    rw [recsA_step (by omega) hi, h1]
    dsimp only
    rw [if_neg (by omega), List.map_cons, holds_recsA h3 m2]
    rfl
theorem recB_of {l : List Bs} {R : List Bs} {e le : Nat} (h : Holds l 0 0 R e le) (hs : StopsAt l e le) (he : e ≤ l.length) : recB l = R := by
  have h1 := holds_recsA h (Nat.zero_le _)
  have h2 : recsA l (l.length + 1) e le = [] := by
    rw [recsA_step (by omega) he]
    rcases hs with hs | hs
    · rw [hs]
    · cases hr : recAt l e with
      | none => rfl
      | some y => exact if_pos hs
  rw [h2, List.map_nil, List.append_nil] at h1
  exact h1
/-! ### What agrees holds the same -/
theorem scan_agree {l l' : List Bs} : ∀ (m n : Nat) (first : Bool) (g : Nat) (b : Bs), scanR (l.drop n) n first g = some (b, m) → (∀ k, n ≤ k → k < n + m → l'[k]? = l[k]?) → scanR (l'.drop n) n first g = some (b, m)
  | 0, n, first, g, b, h, _ => by have := (scanR_m _ _ _ _ _ _ h).1; omega
  | m + 1, n, first, g, b, h, ha => by
    cases hx : l[n]? with
    | none => rw [scanR_end (List.getElem?_eq_none_iff.1 hx)] at h; cases h
    | some s =>
      have hx' : l'[n]? = some s := by rw [ha n (Nat.le_refl _) (by omega), hx]
      rw [scanR_cons hx] at h
      rw [scanR_cons hx']
      by_cases hc : goodB s n = true ∧ begS s = first ∧ genS s = g
      · rw [if_pos hc] at h ⊢
        by_cases he : endS s = true
        · rw [if_pos he] at h ⊢; exact h
        · rw [if_neg he] at h ⊢
          rw [Option.map_eq_some_iff] at h
          obtain ⟨x, hx2, hxe⟩ := h
          injection hxe with h1 h2
          have hm : x.2 = m := by omega
          rw [scan_agree m (n + 1) false g x.1 (by rw [hx2, ← hm]) (fun k k1 k2 => ha k (by omega) (by omega)), Option.map_some]
          rw [← h1]
      · rw [if_neg hc] at h; cases h
theorem gAt_agree {l l' : List Bs} {i : Nat} (h : l'[i]? = l[i]?) : gAt l' i = gAt l i := by unfold gAt; rw [List.getD, List.getD, h]
theorem rec_agree {l l' : List Bs} {i m : Nat} {b : Bs} (h : recAt l i = some (b, m)) (ha : ∀ k, i ≤ k → k < i + m → l'[k]? = l[k]?) : recAt l' i = some (b, m) := by
  have h1 := (recAt_m h).1
  unfold recAt at h ⊢
  rw [gAt_agree (ha i (Nat.le_refl _) (by omega))]
  exact scan_agree m i true _ b h ha
theorem holds_agree {l l' : List Bs} : ∀ {R : List Bs} {i last e le : Nat}, Holds l i last R e le → (∀ k, i ≤ k → k < e → l'[k]? = l[k]?) → Holds l' i last R e le
  | [], _, _, _, _, h, _ => h
  | b :: r, i, last, e, le, h, ha => by
    obtain ⟨h1, h2, h3⟩ := h
    have he := holds_end h3
    have hp := secN_pos b.length
    have hg := gAt_agree (ha i (Nat.le_refl _) (by omega))
    refine ⟨rec_agree h1 fun k k1 k2 => ha k k1 (by omega), by rw [hg]; exact h2, ?_⟩
    rw [hg]
    exact holds_agree h3 fun k k1 k2 => ha k (by omega) k2
end Go.Proofs.Ytijkiolobmkhhaa

namespace Go.Proofs.Ytijkiolobmkhhaa
open Go Go.Sg
set_option maxRecDepth 100000
set_option maxHeartbeats 8000000
/-! ### Sectors that were written -/
theorem sec_10 (g p kd : Nat) (b : Bs) : at8 (secS g p kd b) 10 = (kd : Int) := rfl
theorem sec_11 (g p kd : Nat) (b : Bs) : at8 (secS g p kd b) 11 = (b.length : Int) := rfl
theorem sec_4 (g p kd : Nat) (b : Bs) : (secS g p kd b).take 4 = nrl g 4 := rfl
theorem sec_gen {g p kd : Nat} {b : Bs} (hg : g < 4294967296) : genS (secS g p kd b) = g := by
  show numB ((secS g p kd b).take 4) = g
  rw [sec_4, numB_nrl]; exact Nat.mod_eq_of_lt hg
theorem sec_piece (g p kd : Nat) (b : Bs) : pieceS (secS g p kd b) = b := by
  unfold pieceS
  rw [sec_11, Int.toNat_natCast]
  show ((b ++ List.replicate (112 - b.length) 0) ++ nrl g 4).take b.length = b
  rw [List.append_assoc, List.take_left']
  rfl
theorem good_sec {g p kd : Nat} {b : Bs} (h0 : 0 < g) (hg : g < 4294967296) (hkd : kd ≤ 3) (hb : b.length ≤ 112) (h1 : kd < 2 → b.length = 112) (h2 : kd % 2 = 0 → b.length ≠ 0) : goodB (secS g p kd b) p = true := by
  have hgn : numB ((secS g p kd b).take 4) = g := sec_gen hg
  unfold goodB preG
  rw [hgn, sec_piece, sec_11, sec_10, Int.toNat_natCast, decide_eq_true rfl, decide_eq_true h0, Bool.and_true, Bool.and_true]
  exact decide_eq_true ⟨by omega, by omega, fun h => by have := h1 (by omega); omega, fun h => by have := h2 (by omega); omega⟩
/-- The sectors from p on hold what is to be written, so many of them. -/
def OnDisk (l : List Bs) (ws : List Wr) (p j : Nat) : Prop := ∀ (k : Nat) w, k < j → ws[k]? = some w → l[p + k]? = some w.data
theorem onDisk_cons {l : List Bs} {w : Wr} {ws : List Wr} {p j : Nat} (h : OnDisk l (w :: ws) p (j + 1)) : l[p]? = some w.data ∧ OnDisk l ws (p + 1) j :=
  ⟨h 0 w (by omega) rfl, fun k x hk hx => by rw [Nat.add_assoc, Nat.add_comm 1 k]; exact h (k + 1) x (by omega) (by simpa using hx)⟩
theorem kd_mod (first : Bool) (m : Nat) : decide (((kdW first m : Nat) : Int) % 2 = 1) = first := by
  unfold kdW
  cases first <;> by_cases h : m = 0 <;> simp [h]
theorem kd_end (first : Bool) (m : Nat) : decide (2 ≤ ((kdW first m : Nat) : Int)) = decide (m = 0) := by
  unfold kdW
  cases first <;> by_cases h : m = 0 <;> simp [h]
theorem kdW_lt {first : Bool} {m : Nat} (h : kdW first m < 2) : m ≠ 0 := fun e => by
  subst e; unfold kdW at h; rw [if_pos rfl] at h; omega
theorem kdW_even {first : Bool} {m : Nat} (h : kdW first m % 2 = 0) : first = false := by
  have := kd_mod first m
  cases first with
  | false => rfl
  | true => exact absurd (of_decide_eq_true this) (by omega)
theorem kdW_le3 (first : Bool) (m : Nat) : kdW first m ≤ 3 := by
  unfold kdW
  by_cases h : m = 0
  · rw [if_pos h]; cases first <;> decide
  · rw [if_neg h]; cases first <;> decide
/-- So long a record takes so many sectors. -/
def Fit (first : Bool) (m : Nat) (r : Bs) : Prop := r.length ≤ 112 * m ∧ (112 * (m - 1) < r.length ∨ (first = true ∧ m = 1))
theorem fit_sec (b : Bs) : Fit true (secN b.length) b := by
  unfold Fit secN
  by_cases h : b.length = 0
  · exact ⟨by omega, .inr ⟨rfl, by omega⟩⟩
  · exact ⟨by omega, .inl (by omega)⟩
theorem fit_next {first : Bool} {m : Nat} {r : Bs} (h : Fit first (m + 2) r) : (r.take 112).length = 112 ∧ Fit false (m + 1) (r.drop 112) := by
  unfold Fit at h ⊢
  rw [List.length_take, List.length_drop]
  rcases h with ⟨h1, h2 | h2⟩
  · exact ⟨by omega, by omega, .inl (by omega)⟩
  · omega
theorem good_pc {g p : Nat} {first : Bool} {m : Nat} {r : Bs} (h0 : 0 < g) (hg : g < 4294967296) (hf : Fit first (m + 1) r) : goodB (secS g p (kdW first m) (r.take 112)) p = true := by
  obtain ⟨f1, f2⟩ := hf
  refine good_sec h0 hg (kdW_le3 _ _) (by rw [List.length_take]; omega) (fun h => ?_) (fun h => ?_)
  · have := kdW_lt h
    rw [List.length_take]; omega
  · have := kdW_even h
    subst this
    rw [List.length_take]
    rcases f2 with f2 | f2
    · omega
    · exact absurd f2.1 Bool.false_ne_true
/-- A record that was written is read. -/
theorem scan_wr {l : List Bs} {g : Nat} (h0 : 0 < g) (hg : g < 4294967296) : ∀ (m p : Nat) (first : Bool) (r : Bs), Fit first (m + 1) r → OnDisk l (wrR g p first (m + 1) r) p (m + 1) → scanR (l.drop p) p first g = some (r, m + 1)
  | 0, p, first, r, hf, hd => by
    obtain ⟨h1, _⟩ := onDisk_cons hd
    have h1 : l[p]? = some (secS g p (kdW first 0) (r.take 112)) := h1
    rw [scanR_cons h1, if_pos ⟨good_pc h0 hg hf, by unfold begS; rw [sec_10]; exact kd_mod first 0, sec_gen hg⟩, if_pos (by unfold endS; rw [sec_10, kd_end]; rfl), sec_piece, List.take_of_length_le (by have := hf.1; omega)]
  | m + 1, p, first, r, hf, hd => by
    obtain ⟨h1, h2⟩ := onDisk_cons hd
    have h1 : l[p]? = some (secS g p (kdW first (m + 1)) (r.take 112)) := h1
    obtain ⟨f1, f2⟩ := fit_next hf
    rw [scanR_cons h1, if_pos ⟨good_pc h0 hg hf, by unfold begS; rw [sec_10]; exact kd_mod first _, sec_gen hg⟩, if_neg (by unfold endS; rw [sec_10, kd_end]; simp), sec_piece, scan_wr h0 hg m (p + 1) false (r.drop 112) f2 h2, Option.map_some, List.take_append_drop]
theorem gAt_wr {l : List Bs} {g p : Nat} {first : Bool} {m : Nat} {r : Bs} (hg : g < 4294967296) (hd : OnDisk l (wrR g p first (m + 1) r) p (m + 1)) : gAt l p = g := by
  obtain ⟨h1, _⟩ := onDisk_cons hd
  have h1 : l[p]? = some (secS g p (kdW first m) (r.take 112)) := h1
  unfold gAt
  rw [List.getD, h1]; exact sec_gen hg
theorem rec_wr {l : List Bs} {g p : Nat} {b : Bs} (h0 : 0 < g) (hg : g < 4294967296) (hd : OnDisk l (wrR g p true (secN b.length) b) p (secN b.length)) : recAt l p = some (b, secN b.length) ∧ gAt l p = g := by
  have hp := secN_pos b.length
  obtain ⟨m, hm⟩ : ∃ m, secN b.length = m + 1 := ⟨secN b.length - 1, by omega⟩
  have hf := fit_sec b
  rw [hm] at hd hf ⊢
  have hgg := gAt_wr hg hd
  refine ⟨?_, hgg⟩
  unfold recAt
  rw [hgg]
  exact scan_wr h0 hg m p true b hf hd
/-- A record, of which a sector is bad, is not read. -/
theorem scan_bad {l : List Bs} {g : Nat} {G : Nat} (hg : g < 4294967296) : ∀ (j m p : Nat) (first : Bool) (r : Bs), Fit first (m + 1) r → j ≤ m → OnDisk l (wrR g p first (m + 1) r) p j → (∀ s, l[p + j]? = some s → goodB s (p + j) = false) → scanR (l.drop p) p first G = none
  | 0, m, p, first, r, hf, hj, hd, hb => by
    cases hx : l[p]? with
    | none => exact scanR_end (List.getElem?_eq_none_iff.1 hx) _ _
    | some s =>
      have h2 : goodB s p = false := hb s hx
      rw [scanR_cons hx, h2, if_neg (fun h => Bool.noConfusion h.1)]
  | j + 1, 0, p, first, r, hf, hj, hd, hb => by omega
  | j + 1, m + 1, p, first, r, hf, hj, hd, hb => by
    obtain ⟨h1, h2⟩ := onDisk_cons hd
    have h1 : l[p]? = some (secS g p (kdW first (m + 1)) (r.take 112)) := h1
    obtain ⟨f1, f2⟩ := fit_next hf
    have ih := scan_bad (G := G) hg j m (p + 1) false (r.drop 112) f2 (by omega) h2 (fun s hs => by rw [Nat.add_assoc, Nat.add_comm 1 j] at hs ⊢; exact hb s hs)
    rw [scanR_cons h1]
    split
    · rw [if_neg (by unfold endS; rw [sec_10, kd_end]; simp), ih]; rfl
    · rfl
/-! ### Writes in a row -/
theorem wrR_pos (g : Nat) : ∀ (m p : Nat) (first : Bool) (b : Bs) (k : Nat) w, (wrR g p first m b)[k]? = some w → w.pos = ((p + k : Nat) : Int)
  | 0, _, _, _, _, w, h => by simp [wrR] at h
  | m + 1, p, first, b, 0, w, h => by rw [wrR] at h; simp at h; subst h; rfl
  | m + 1, p, first, b, k + 1, w, h => by
    rw [wrR] at h
    have := wrR_pos g m (p + 1) false _ k w (by simpa using h)
    rw [this]; congr 1; omega
theorem wrs_pos (g : Nat) : ∀ (l : List Bs) (p k : Nat) w, (wrs g p l)[k]? = some w → w.pos = ((p + k : Nat) : Int)
  | [], _, _, w, h => by simp [wrs] at h
  | b :: r, p, k, w, h => by
    rw [wrs] at h
    by_cases hk : k < (wrR g p true (secN b.length) b).length
    · rw [List.getElem?_append_left hk] at h
      exact wrR_pos g _ p true b k w h
    · rw [List.getElem?_append_right (by omega)] at h
      rw [wrR_len] at h hk
      have := wrs_pos g r _ _ w h
      rw [this]; congr 1; omega
theorem perf_seq : ∀ (ws : List Wr) (u : Nat) (L : List Bs), (∀ (i : Nat) w, ws[i]? = some w → w.pos = ((u + i : Nat) : Int)) → u + ws.length ≤ L.length →
    OnDisk (perf L ws) ws u ws.length ∧ ∀ k, (k < u ∨ u + ws.length ≤ k) → (perf L ws)[k]? = L[k]?
  | [], u, L, _, _ => ⟨fun k w hk => absurd hk (Nat.not_lt_zero _), fun k _ => rfl⟩
  | w :: ws, u, L, hp, hl => by
    rw [List.length_cons] at hl
    have h0 : w.pos = ((u : Nat) : Int) := hp 0 w rfl
    obtain ⟨i1, i2⟩ := perf_seq ws (u + 1) (L.set u w.data) (fun i x hx => by rw [hp (i + 1) x (by simpa using hx)]; congr 1; omega) (by rw [List.length_set]; omega)
    have e : perf L (w :: ws) = perf (L.set u w.data) ws := by show perf (L.set w.pos.toNat w.data) ws = _; rw [h0, Int.toNat_natCast]
    rw [e]
    refine ⟨fun k x hk hx => ?_, fun k hk => ?_⟩
    · cases k with
      | zero =>
        simp at hx; subst hx
        rw [Nat.add_zero, i2 u (.inl (by omega)), List.getElem?_set_self (by omega)]
      | succ k =>
        rw [show u + (k + 1) = u + 1 + k by omega]
        exact i1 k x (by rw [List.length_cons] at hk; omega) (by simpa using hx)
    · rw [List.length_cons] at hk
      rw [i2 k (by omega), List.getElem?_set_ne (by omega)]
end Go.Proofs.Ytijkiolobmkhhaa

namespace Go.Proofs.Ytijkiolobmkhhaa
open Go Go.Sg
set_option maxRecDepth 100000
set_option maxHeartbeats 8000000
/-! ### What a sync leaves -/
theorem genM_ge (n : Nat) (s : Bs) : n ≤ genM n s ∧ numB (s.take 4) ≤ genM n s ∧ numB (s.drop 124) ≤ genM n s := by unfold genM; omega
theorem genF_mono : ∀ (l : List Bs) (n : Nat), n ≤ l.foldl genM n
  | [], n => Nat.le_refl _
  | s :: r, n => Nat.le_trans (genM_ge n s).1 (genF_mono r _)
theorem genF_ge : ∀ (l : List Bs) (n : Nat), ∀ s ∈ l, numB (s.take 4) ≤ l.foldl genM n ∧ numB (s.drop 124) ≤ l.foldl genM n
  | [], _, s, h => by cases h
  | t :: r, n, s, h => by
    rcases List.mem_cons.1 h with e | e
    · subst e
      have h1 := genM_ge n s
      have h2 := genF_mono r (genM n s)
      exact ⟨Nat.le_trans h1.2.1 h2, Nat.le_trans h1.2.2 h2⟩
    · exact genF_ge r _ s e
theorem genL_ge {l : List Bs} {k : Nat} {s : Bs} (h : l[k]? = some s) : numB (s.take 4) ≤ genL l ∧ numB (s.drop 124) ≤ genL l := genF_ge l 0 s (List.mem_of_getElem? h)
theorem genF_le : ∀ (l : List Bs) (n G : Nat), n ≤ G → (∀ s ∈ l, numB (s.take 4) ≤ G ∧ numB (s.drop 124) ≤ G) → l.foldl genM n ≤ G
  | [], _, _, h, _ => h
  | s :: r, n, G, h, hs => genF_le r _ G (by have := hs s (by simp); unfold genM; omega) (fun t ht => hs t (by simp [ht]))
theorem genL_le {l : List Bs} {G : Nat} (hs : ∀ s ∈ l, numB (s.take 4) ≤ G ∧ numB (s.drop 124) ≤ G) : genL l ≤ G := genF_le l 0 G (Nat.zero_le _) hs
theorem gAt_le {l : List Bs} (i : Nat) : gAt l i ≤ genL l := by
  unfold gAt
  cases h : l[i]? with
  | none => rw [List.getD, h]; exact Nat.zero_le _
  | some s => rw [List.getD, h]; exact (genL_ge h).1
/-- The last generation of what lies there is one of the sectors'. -/
theorem holds_gen {l : List Bs} : ∀ {R : List Bs} {i last e le : Nat}, Holds l i last R e le → last ≤ genL l → le ≤ genL l
  | [], _, _, _, _, h, hl => by obtain ⟨_, rfl⟩ := h; exact hl
  | b :: r, i, last, e, le, h, _ => holds_gen h.2.2 (gAt_le i)
/-- Records that are on the disk, behind those that were. -/
theorem holds_wrs {l : List Bs} {g : Nat} (h0 : 0 < g) (hg : g < 4294967296) : ∀ (N : List Bs) (u last : Nat), last ≤ g → OnDisk l (wrs g u N) u (usedN N) → Holds l u last N (u + usedN N) (if N = [] then last else g)
  | [], u, last, hl, hd => ⟨by simp [usedN], by rw [if_pos rfl]⟩
  | b :: r, u, last, hl, hd => by
    rw [usedN_cons] at hd
    have h1 : OnDisk l (wrR g u true (secN b.length) b) u (secN b.length) := fun k w hk hw => hd k w (by omega) (by
      rw [wrs, List.getElem?_append_left (by rw [wrR_len]; exact hk)]; exact hw)
    have h2 : OnDisk l (wrs g (u + secN b.length) r) (u + secN b.length) (usedN r) := fun k w hk hw => by
      rw [Nat.add_assoc]
      exact hd (secN b.length + k) w (by omega) (by
        rw [wrs, List.getElem?_append_right (by rw [wrR_len]; omega), wrR_len, Nat.add_sub_cancel_left]; exact hw)
    obtain ⟨r1, r2⟩ := rec_wr h0 hg h1
    have ih := holds_wrs h0 hg r (u + secN b.length) g (Nat.le_refl _) h2
    refine ⟨r1, by rw [r2]; exact hl, ?_⟩
    rw [r2, usedN_cons, ← Nat.add_assoc, if_neg (List.cons_ne_nil _ _)]
    have e : (if r = [] then g else g) = g := by split <;> rfl
    rw [e] at ih; exact ih
/-- A full sync. -/
theorem sync_full {L : List Bs} {R N : List Bs} {g : Nat} (hB : SS L) (hR : recB L = R) (hg : g = genL L + 1) (hg32 : g < 4294967296) (hu : usedN R + usedN N ≤ L.length) : recB (perf L (wrs g (usedN R) N)) = R ++ N := by
  obtain ⟨e, le, h1, h2, h3⟩ := recB_holds hB
  rw [hR] at h1
  have he := holds_end h1
  rw [Nat.zero_add] at he
  subst he
  have hle := holds_gen h1 (Nat.zero_le _)
  obtain ⟨p1, p2⟩ := perf_seq (wrs g (usedN R) N) (usedN R) L (wrs_pos g N (usedN R)) (by rw [wrs_len]; exact hu)
  rw [wrs_len] at p1 p2
  have a1 : Holds (perf L (wrs g (usedN R) N)) 0 0 R (usedN R) le := holds_agree h1 fun k _ k2 => p2 k (.inl k2)
  have a2 := holds_wrs (by omega) hg32 N (usedN R) le (by omega) p1
  refine recB_of (holds_app a1 a2) ?_ (by rw [perf_len]; exact hu)
  by_cases hN : N = []
  · subst hN
    exact h2
  · rw [if_neg hN]
    right
    rw [gAt_agree (p2 _ (.inr (Nat.le_refl _)))]
    have := gAt_le (l := L) (usedN R + usedN N)
    omega
theorem usedN_app (l m : List Bs) : usedN (l ++ m) = usedN l + usedN m := by unfold usedN; rw [List.map_append, List.sum_append]
/-- The records that end by a sector; the one that holds it. -/
theorem cut_recs : ∀ (N : List Bs) (j : Nat), j < usedN N → ∃ A b C, N = A ++ b :: C ∧ usedN A ≤ j ∧ j < usedN A + secN b.length
  | [], j, h => absurd h (Nat.not_lt_zero _)
  | b :: r, j, h => by
    rw [usedN_cons] at h
    by_cases hj : j < secN b.length
    · exact ⟨[], b, r, rfl, Nat.zero_le _, by show j < 0 + secN b.length; omega⟩
    · obtain ⟨A, c, C, h1, h2, h3⟩ := cut_recs r (j - secN b.length) (by omega)
      exact ⟨b :: A, c, C, by rw [h1]; rfl, by rw [usedN_cons]; omega, by rw [usedN_cons]; omega⟩
/-- A sync of which so many sectors are there, and the next one is bad. -/
theorem sync_bad {L X : List Bs} {R N : List Bs} {g j : Nat} (hB : SS L) (hR : recB L = R) (hg : g = genL L + 1) (hg32 : g < 4294967296) (hu : usedN R + usedN N ≤ L.length) (hX : X.length = L.length) (hj : j < usedN N)
    (h1 : ∀ k, k < usedN R → X[k]? = L[k]?) (h2 : OnDisk X (wrs g (usedN R) N) (usedN R) j) (h3 : ∀ s, X[usedN R + j]? = some s → goodB s (usedN R + j) = false) : ∃ A b C, N = A ++ b :: C ∧ usedN A ≤ j ∧ j < usedN A + secN b.length ∧ recB X = R ++ A := by
  obtain ⟨A, b, C, e, k1, k2⟩ := cut_recs N j hj
  refine ⟨A, b, C, e, k1, k2, ?_⟩
  obtain ⟨en, le, q1, q2, q3⟩ := recB_holds hB
  rw [hR] at q1
  have he := holds_end q1
  rw [Nat.zero_add] at he
  subst he
  have hle := holds_gen q1 (Nat.zero_le _)
  have a1 : Holds X 0 0 R (usedN R) le := holds_agree q1 fun k _ k2 => h1 k k2
  have hw : wrs g (usedN R) N = wrs g (usedN R) A ++ (wrR g (usedN R + usedN A) true (secN b.length) b ++ wrs g (usedN R + usedN A + secN b.length) C) := by rw [e, wrs_append]; rfl
  have hA : OnDisk X (wrs g (usedN R) A) (usedN R) (usedN A) := fun k w hk hx => h2 k w (by omega) (by
    rw [hw, List.getElem?_append_left (by rw [wrs_len]; exact hk)]; exact hx)
  have a2 := holds_wrs (by omega) hg32 A (usedN R) le (by omega) hA
  obtain ⟨m, hm⟩ : ∃ m, secN b.length = m + 1 := ⟨secN b.length - 1, by have := secN_pos b.length; omega⟩
  have hf := fit_sec b
  rw [hm] at hf hw k2
  have hb : OnDisk X (wrR g (usedN R + usedN A) true (m + 1) b) (usedN R + usedN A) (j - usedN A) := fun k w hk hx => by
    rw [Nat.add_assoc]
    exact h2 (usedN A + k) w (by omega) (by
      rw [hw, List.getElem?_append_right (by rw [wrs_len]; omega), wrs_len, Nat.add_sub_cancel_left, List.getElem?_append_left (by rw [wrR_len]; omega)]; exact hx)
  have hn : recAt X (usedN R + usedN A) = none := scan_bad hg32 (j - usedN A) m (usedN R + usedN A) true b hf (by omega) hb (fun s hs => by
    rw [show usedN R + usedN A + (j - usedN A) = usedN R + j by omega] at hs ⊢
    exact h3 s hs)
  have hNu : usedN N = usedN A + (secN b.length + usedN C) := by rw [e, usedN_app, usedN_cons]
  exact recB_of (holds_app a1 a2) (.inl hn) (by rw [hX]; omega)
/-- A torn sector is bad. -/
theorem torn_bad {L : List Bs} {q kd p g : Nat} {pc x : Bs} (hg : g = genL L + 1) (hg32 : g < 4294967296) (hx : L[q]? = some x) (hxl : x.length = 128 ∧ B8 x) (hpl : pc.length ≤ 112) (hkd : kd ≤ 3) (hpB : B8 pc) (hq : q ≤ 4096) : goodB ((secS g p kd pc).take 64 ++ x.drop 64) q = false := by
  have hsl := secS_len (g := g) (k := p) (kd := kd) hpl
  have hlen : ((secS g p kd pc).take 64 ++ x.drop 64).length = 128 := by rw [List.length_append, List.length_take, List.length_drop]; omega
  have hB : B8 ((secS g p kd pc).take 64 ++ x.drop 64) := fun c hc => by
    rcases List.mem_append.1 hc with h | h
    · exact secS_B8 hpl hkd hpB c (List.mem_of_mem_take h)
    · exact hxl.2 c (List.mem_of_mem_drop h)
  refine Bool.eq_false_iff.2 fun hgd => ?_
  obtain ⟨_, h2, _⟩ := (goodB_iff _ q hlen hB hq).1 hgd
  have e1 : ((secS g p kd pc).take 64 ++ x.drop 64).take 4 = (secS g p kd pc).take 4 := by
    rw [List.take_append_of_le_length (by rw [List.length_take]; omega), List.take_take]; rfl
  have e2 : ((secS g p kd pc).take 64 ++ x.drop 64).drop 124 = x.drop 124 := by
    rw [List.drop_append, List.drop_eq_nil_of_le (by rw [List.length_take]; omega), List.nil_append, List.length_take, hsl, List.drop_drop]; rfl
  rw [e1, e2] at h2
  have h3 : numB ((secS g p kd pc).take 4) = g := sec_gen hg32
  have h4 := (genL_ge hx).2
  omega
end Go.Proofs.Ytijkiolobmkhhaa

namespace Go.Proofs.Ytijkiolobmkhhaa
open Go Go.Sg
set_option maxRecDepth 100000
set_option maxHeartbeats 40000000
/-- One record more, if there is room for it. -/
def addS (j : Jn) (b : Bs) : Jn := if (appJ j b).2 = 0 then (appJ j b).1 else j
def addA (j : Jn) (l : List Bs) : Jn := l.foldl addS j
theorem addA_take {j : Jn} {l : List Bs} {i : Nat} {b : Bs} (h : l[i]? = some b) : addA j (l.take (i + 1)) = addS (addA j (l.take i)) b := by
  unfold addA; rw [List.take_add_one, h]; simp [List.foldl_append]
theorem szL_app (l m : List Bs) : szL (l ++ m) = szL l + szL m := by unfold szL; rw [List.map_append, List.sum_append]
theorem appJ_cases (j : Jn) (b : Bs) : (chkJ j = true ∧ (usedN (j.recs ++ [b]) : Int) ≤ j.many ∧ appJ j b = ({ j with recs := j.recs ++ [b] }, 0)) ∨ ((appJ j b).2 ≠ 0 ∧ (appJ j b).1 = j0 ∧ addS j b = j) := by
  unfold addS appJ
  by_cases h1 : chkJ j = true
  · rw [if_pos h1]
    by_cases h2 : j.many - ((usedN j.recs : Nat) : Int) < ((secN b.length : Nat) : Int)
    · rw [if_pos h2]; exact .inr ⟨by show (2 : Int) ≠ 0; decide, rfl, if_neg (by show ¬ (2 : Int) = 0; decide)⟩
    · rw [if_neg h2]
      refine .inl ⟨h1, ?_, rfl⟩
      have : usedN (j.recs ++ [b]) = usedN j.recs + secN b.length := by rw [usedN_app]; rfl
      omega
  · rw [if_neg h1]; exact .inr ⟨by show (1 : Int) ≠ 0; decide, rfl, if_neg (by show ¬ (1 : Int) = 0; decide)⟩
theorem addS_sz {j : Jn} {b : Bs} : szL (addS j b).recs ≤ szL j.recs + (b.length + 1) := by
  rcases appJ_cases j b with ⟨_, _, h⟩ | ⟨_, _, h⟩
  · unfold addS; rw [h, if_pos rfl]; show szL (j.recs ++ [b]) ≤ _; rw [szL_app]; exact Nat.le_refl _
  · rw [h]; omega
theorem addS_B8 {j : Jn} {b : Bs} (hj : ∀ c ∈ j.recs, B8 c) (hb : B8 b) : ∀ c ∈ (addS j b).recs, B8 c := by
  rcases appJ_cases j b with ⟨_, _, h⟩ | ⟨_, _, h⟩
  · unfold addS; rw [h, if_pos rfl]
    intro c hc
    rcases List.mem_append.1 hc with e | e
    · exact hj c e
    · rw [List.mem_singleton.1 e]; exact hb
  · rw [h]; exact hj
theorem addA_sz : ∀ (l : List Bs) (j : Jn), szL (addA j l).recs ≤ szL j.recs + szL l
  | [], j => by show szL j.recs ≤ szL j.recs + 0; omega
  | b :: r, j => by
    have h1 := addA_sz r (addS j b)
    have h2 := addS_sz (j := j) (b := b)
    show szL (addA (addS j b) r).recs ≤ _
    simp only [szL, List.map_cons, List.sum_cons] at h1 h2 ⊢; omega
theorem addA_B8 : ∀ (l : List Bs) (j : Jn), (∀ c ∈ j.recs, B8 c) → (∀ c ∈ l, B8 c) → ∀ c ∈ (addA j l).recs, B8 c
  | [], j, hj, _ => hj
  | b :: r, j, hj, hl => addA_B8 r (addS j b) (addS_B8 hj (hl b (by simp))) (fun c hc => hl c (by simp [hc]))
/-- Appending keeps a journal right; only the records grow. -/
theorem addA_ok : ∀ (l : List Bs) (j : Jn), chkJ j = true → chkJ (addA j l) = true ∧ (addA j l).many = j.many ∧ (addA j l).sync = j.sync ∧ ∃ N, (addA j l).recs = j.recs ++ N
  | [], j, h => ⟨h, rfl, rfl, [], (List.append_nil _).symm⟩
  | b :: r, j, h => by
    rcases appJ_cases j b with ⟨_, hu, e⟩ | ⟨_, _, e⟩
    · have e2 : addS j b = { j with recs := j.recs ++ [b] } := by unfold addS; rw [e, if_pos rfl]
      obtain ⟨c1, c2, c3, c4, c5⟩ := chkJ_iff.1 h
      have hc : chkJ (addS j b) = true := by
        rw [e2]
        exact chkJ_iff.2 ⟨c1, c2, c3, by show j.sync ≤ ((j.recs ++ [b]).length : Int); rw [List.length_append]; omega, hu⟩
      obtain ⟨k1, k2, k3, N, k4⟩ := addA_ok r (addS j b) hc
      refine ⟨k1, ?_, ?_, [b] ++ N, ?_⟩
      · show (addA (addS j b) r).many = _; rw [k2, e2]
      · show (addA (addS j b) r).sync = _; rw [k3, e2]
      · show (addA (addS j b) r).recs = _; rw [k4, e2]; show j.recs ++ [b] ++ N = _; rw [List.append_assoc]
    · have := addA_ok r j h
      show chkJ (addA (addS j b) r) = true ∧ (addA (addS j b) r).many = _ ∧ (addA (addS j b) r).sync = _ ∧ ∃ N, (addA (addS j b) r).recs = _
      rw [e]; exact this
/-- How far a journal is synced does not matter to what is appended. -/
theorem addA_sync : ∀ (l : List Bs) (j : Jn) (n : Nat), chkJ j = true → n ≤ j.recs.length → addA { j with sync := n } l = { addA j l with sync := n }
  | [], _, _, _, _ => rfl
  | b :: r, j, n, h, hn => by
    obtain ⟨c1, c2, c3, c4, c5⟩ := chkJ_iff.1 h
    have h' : chkJ { j with sync := (n : Int) } = true := chkJ_iff.2 ⟨c1, c2, by show (0 : Int) ≤ n; omega, by show (n : Int) ≤ j.recs.length; omega, c5⟩
    have e : addS { j with sync := (n : Int) } b = { addS j b with sync := (n : Int) } := by
      unfold addS appJ
      rw [h, h', if_pos rfl, if_pos rfl]
      by_cases h2 : j.many - ((usedN j.recs : Nat) : Int) < ((secN b.length : Nat) : Int)
      · rw [if_pos h2, if_pos h2]; rfl
      · rw [if_neg h2, if_neg h2]; rfl
    show addA (addS { j with sync := (n : Int) } b) r = { addA (addS j b) r with sync := (n : Int) }
    rw [e]
    have hk := addA_ok [b] j h
    have hk1 : chkJ (addS j b) = true := hk.1
    obtain ⟨N, hN⟩ := hk.2.2.2
    have hN : (addS j b).recs = j.recs ++ N := hN
    exact addA_sync r (addS j b) n hk1 (by rw [hN, List.length_append]; omega)
theorem add_calls (j : Jn) (l : List Bs) (hz : szL j.recs + szL l ≤ 4000000) (hB : ∀ c ∈ l, c.length < 1000000) : PCalls Try.prog 28 [eJ j, eS l] (eJ (addA j l)) := by
  have hlm : (l.map eB).length = l.length := List.length_map _
  have hll := szL_len l
  refine PCalls.of (N := 26) (res := [.cell 4 29]) mixed Try.func28 rfl rfl rfl (by kernel_rfl) (by simp) [0, 1, 2, 4, 6, 7, 8, 9, 10, 11, 12, 22] ?_
  repeat' (first | exact cl1 | ((with_reducible show Exists _); refine exU8 ?_) | ((fail_if_success with_reducible first | show LeG _ _ | show Lp _ _ _ _ | show Exists _ | show callX _ _ _ _ _ | show (_ : Int) ≤ _ | show (_ : Int) < _ | show (_ : Nat) ≤ _ | show (_ : Nat) < _); (conv => whnf) <;> (first | exact cl2 | refine XAlt.l ?_ | refine Sq.pr ?_ | refine Br.dec (fun hc => ?_) (fun hc => ?_) | refine Br.tt ?_ | refine Br.ff ?_ | refine Br.not ?_ | refine Br.mk (fun hc => ?_) (fun hc => ?_) | refine Opt.nn ?_ | refine Opt.ss ?_ | refine AltA.l ?_ | exact PV.leL_nil | refine PV.leL_cons ?_ ?_ | refine And.intro ?_ ?_ | refine ix_map (fun x hx => ?_) | refine exU8 ?_ | refine nilc (fun hn => ?_) ?_ | exact cl3 | refine imp0 (fun hpos => ?_) | refine fits_i64 ?_ ?_ | exact rfl | (with_reducible first | show LeG _ _ | show Lp _ _ _ _ | show Exists _ | show callX _ _ _ _ _)))) <;> (try exact cl5)
  refine Wpc.loopA (α := {i : Nat // i ≤ l.length}) mixed [0, 1, 2, 4, 6, 7, 8, 9, 10, 11, 12, 22] (fun i => [(11, .p (eI i.1))]) (fun i => [(0, .cells [.p (eS (addA j (l.take i.1)).recs), .p (eI (addA j (l.take i.1)).many), .p (eI (addA j (l.take i.1)).sync)])]) (fun _ => 0) (fun i => l.length - i.1) ⟨0, Nat.zero_le _⟩ ?_ ?_
  · (first | refine Ent.ofA [] ?_ | refine Ent.ofC [] ?_) <;> (repeat' (first | exact trivial | refine HpLe.dd ?_ | refine HpLe.mk rfl (by simp) rfl (fun h => AObj.noConfusion h) ?_ ?_ | refine And.intro ?_ ?_ | exact cl9 | refine VLe.pe ?_ | refine VLe.agg ?_ | refine VLe.tup ?_ | refine VLe.fn ?_ ?_ | refine VLeL.cons ?_ ?_ | exact VLeL.nil | exact OLe.row _ _ | rfl | refine VLe.rsle rfl ?_ ?_ ?_ | refine OLe.rowe2 ?_ ?_ | refine OLe.mape ?_ ?_ | refine OLe.iter0 ?_ | refine OLe.itere ?_ ?_)) <;> try (first | (simp; done) | (congr 1; omega) | (congr 1; (first | (simp; done) | (simp; omega))))
  rintro ⟨i, hi⟩
  have hi : i ≤ l.length := hi
  have hzi := addA_sz (l.take i) j
  have hzt := szL_takeLe l i
  cases hxi : l[i]? with
  | none =>
    have hge : l.length ≤ i := List.getElem?_eq_none_iff.1 hxi
    have hno : ¬ ((i : Int) < ((l.map eB).length : Int)) := by omega
    have ef : l.take i = l := List.take_of_length_le hge
    have efr : ∀ X : PV, X = eJ (addA j (l.take i)) → LeG X (eJ (addA j l)) := fun X h => by rw [ef] at h; rw [h]; exact LeG.refl _
    repeat' (first | exact cl1 | ((with_reducible show Exists _); refine exU8 ?_) | ((fail_if_success with_reducible first | show LeG _ _ | show Lp _ _ _ _ | show Exists _ | show callX _ _ _ _ _ | show (_ : Int) ≤ _ | show (_ : Int) < _ | show (_ : Nat) ≤ _ | show (_ : Nat) < _); (conv => whnf) <;> (first | exact cl2 | refine Br.dec (fun hc => absurd hc hno) (fun hc => ?_) | refine XAlt.l ?_ | refine Sq.pr ?_ | refine Br.dec (fun hc => ?_) (fun hc => ?_) | refine Br.tt ?_ | refine Br.ff ?_ | refine Br.not ?_ | refine Br.mk (fun hc => ?_) (fun hc => ?_) | refine Opt.nn ?_ | refine Opt.ss ?_ | refine AltA.l ?_ | exact PV.leL_nil | refine PV.leL_cons ?_ ?_ | refine And.intro ?_ ?_ | refine ix_map (fun x hx => ?_) | refine exU8 ?_ | refine nilc (fun hn => ?_) ?_ | exact cl3 | refine imp0 (fun hpos => ?_) | refine fits_i64 ?_ ?_ | exact rfl | (with_reducible first | show LeG _ _ | show Lp _ _ _ _ | show Exists _ | show callX _ _ _ _ _)))) <;> (try exact cl5)
    all_goals exact efr _ rfl
  | some b =>
    have hlt : i < l.length := (List.getElem?_eq_some_iff.1 hxi).1
    have hyes : ((i : Int) < ((l.map eB).length : Int)) := by omega
    have ap := append_calls (addA j (l.take i)) b (by omega) (hB b (List.mem_of_getElem? hxi))
    have ht := addA_take (j := j) hxi
    have ap : PCalls Try.prog 15 [.agg [eS (addA j (l.take i)).recs, eI (addA j (l.take i)).many, eI (addA j (l.take i)).sync], eB b] (eJR (appJ (addA j (l.take i)) b)) := ap
    repeat' (first | exact cl1 | ((with_reducible show Exists _); refine exU8 ?_) | ((with_reducible show callX _ _ _ _ _); (first | refine call_p (ap) (by kernel_rfl) rfl ?_)) | ((fail_if_success with_reducible first | show LeG _ _ | show Lp _ _ _ _ | show Exists _ | show callX _ _ _ _ _ | show (_ : Int) ≤ _ | show (_ : Int) < _ | show (_ : Nat) ≤ _ | show (_ : Nat) < _); (conv => whnf) <;> (first | exact cl2 | refine Br.dec (fun hc => ?_) (fun hc => absurd hyes hc) | refine ix_b hxi ?_ | refine XAlt.l ?_ | refine Sq.pr ?_ | refine Br.dec (fun hc => ?_) (fun hc => ?_) | refine Br.tt ?_ | refine Br.ff ?_ | refine Br.not ?_ | refine Br.mk (fun hc => ?_) (fun hc => ?_) | refine Opt.nn ?_ | refine Opt.ss ?_ | refine AltA.l ?_ | exact PV.leL_nil | refine PV.leL_cons ?_ ?_ | refine And.intro ?_ ?_ | refine ix_map (fun x hx => ?_) | refine exU8 ?_ | refine nilc (fun hn => ?_) ?_ | exact cl3 | refine imp0 (fun hpos => ?_) | refine fits_i64 ?_ ?_ | exact rfl | (with_reducible first | show LeG _ _ | show Lp _ _ _ _ | show Exists _ | show callX _ _ _ _ _)))) <;> (try exact cl5)
    · refine ⟨⟨i + 1, hlt⟩, by show l.length - (i + 1) < l.length - i; omega, ?_⟩
      show Ent _ _ (hdS _ _ _ _ [(11, .p (eI ((i + 1 : Nat) : Int)))] [(0, .cells [.p (eS (addA j (l.take (i + 1))).recs), .p (eI (addA j (l.take (i + 1))).many), .p (eI (addA j (l.take (i + 1))).sync)])] 0)
      rw [ht, show addS (addA j (l.take i)) b = (appJ (addA j (l.take i)) b).1 from if_pos hc]
      (first | refine Ent.ofA [] ?_ | refine Ent.ofC [] ?_) <;> (repeat' (first | exact trivial | refine HpLe.dd ?_ | refine HpLe.mk rfl (by simp) rfl (fun h => AObj.noConfusion h) ?_ ?_ | refine And.intro ?_ ?_ | exact cl9 | refine VLe.pe ?_ | refine VLe.agg ?_ | refine VLe.tup ?_ | refine VLe.fn ?_ ?_ | refine VLeL.cons ?_ ?_ | exact VLeL.nil | exact OLe.row _ _ | rfl | refine VLe.rsle rfl ?_ ?_ ?_ | refine OLe.rowe2 ?_ ?_ | refine OLe.mape ?_ ?_ | refine OLe.iter0 ?_ | refine OLe.itere ?_ ?_)) <;> try (first | (simp; done) | (congr 1; omega) | (congr 1; (first | (simp; done) | (simp; omega))))
    · refine ⟨⟨i + 1, hlt⟩, by show l.length - (i + 1) < l.length - i; omega, ?_⟩
      show Ent _ _ (hdS _ _ _ _ [(11, .p (eI ((i + 1 : Nat) : Int)))] [(0, .cells [.p (eS (addA j (l.take (i + 1))).recs), .p (eI (addA j (l.take (i + 1))).many), .p (eI (addA j (l.take (i + 1))).sync)])] 0)
      rw [ht, show addS (addA j (l.take i)) b = addA j (l.take i) from if_neg hc]
      (first | refine Ent.ofA [] ?_ | refine Ent.ofC [] ?_) <;> (repeat' (first | exact trivial | refine HpLe.dd ?_ | refine HpLe.mk rfl (by simp) rfl (fun h => AObj.noConfusion h) ?_ ?_ | refine And.intro ?_ ?_ | exact cl9 | refine VLe.pe ?_ | refine VLe.agg ?_ | refine VLe.tup ?_ | refine VLe.fn ?_ ?_ | refine VLeL.cons ?_ ?_ | exact VLeL.nil | exact OLe.row _ _ | rfl | refine VLe.rsle rfl ?_ ?_ ?_ | refine OLe.rowe2 ?_ ?_ | refine OLe.mape ?_ ?_ | refine OLe.iter0 ?_ | refine OLe.itere ?_ ?_)) <;> try (first | (simp; done) | (congr 1; omega) | (congr 1; (first | (simp; done) | (simp; omega))))
theorem wrR_B8 (g : Nat) : ∀ (m p : Nat) (first : Bool) (b : Bs), B8 b → ∀ w ∈ wrR g p first m b, B8 w.data
  | 0, _, _, _, _, w, h => by cases h
  | m + 1, p, first, b, hb, w, h => by
    rw [wrR] at h
    rcases List.mem_cons.1 h with e | e
    · subst e; exact secS_B8 (by rw [List.length_take]; omega) (kdW_le3 _ _) (hb.take 112)
    · exact wrR_B8 g m (p + 1) false _ (hb.drop 112) w e
theorem wrs_B8 (g : Nat) : ∀ (l : List Bs) (p : Nat), (∀ b ∈ l, B8 b) → ∀ w ∈ wrs g p l, B8 w.data
  | [], _, _, w, h => by cases h
  | b :: r, p, hb, w, h => by
    rw [wrs] at h
    rcases List.mem_append.1 h with e | e
    · exact wrR_B8 g _ p true b (hb b (by simp)) w e
    · exact wrs_B8 g r _ (fun c hc => hb c (by simp [hc])) w e
/-- A sync without a stop. -/
theorem syncJ_good {j : Jn} {secs : List Bs} (hj : chkJ j = true) (hd : okD ⟨secs, [], -1, false⟩ = true) (hm : j.many = secs.length) (hB : SS secs) (hR : recB secs = oldR j) (hg : genL secs + 1 < 4294967296) (hrB : ∀ b ∈ j.recs, B8 b) :
    ∃ secs', syncJ j ⟨secs, [], -1, false⟩ = ({ j with sync := j.recs.length }, ⟨secs', [], -1, false⟩, 0) ∧ SS secs' ∧ secs'.length = secs.length ∧ recB secs' = j.recs ∧ okD ⟨secs', [], -1, false⟩ = true := by
  obtain ⟨c1, c2, c3, c4, c5⟩ := chkJ_iff.1 hj
  obtain ⟨⟨k1, k2⟩, k3, k4, k5, k6⟩ := okD_spec hd
  have hul : usedN j.recs = usedN (oldR j) + usedN (newR j) := by
    conv => lhs; rw [← List.take_append_drop j.sync.toNat j.recs]
    unfold usedN oldR newR; rw [List.map_append, List.sum_append]
  have hwl : (wrJ j ⟨secs, [], -1, false⟩).length = usedN (newR j) := wrs_len _ _ _
  have hwo : ∀ w ∈ wrJ j ⟨secs, [], -1, false⟩, (0 ≤ w.pos ∧ w.pos < secs.length) ∧ w.data.length = 128 := fun w hw => by
    have := wrs_ok _ _ _ w hw
    omega
  have hwd : okD (dW ⟨secs, [], -1, false⟩ (wrJ j ⟨secs, [], -1, false⟩)) = true := dW_ok hd (by omega) hwo
  unfold syncJ
  rw [hj, hd, if_neg (fun h => Bool.noConfusion h), if_neg (fun h => Bool.noConfusion h), if_neg (fun h => Bool.noConfusion h), if_neg (fun h => h hm), if_neg (show ¬ 0 < (⟨secs, [], -1, false⟩ : Dk).pend.length from Nat.lt_irrefl 0), if_neg (fun h => h ⟨hR, hg⟩)]
  by_cases hs : j.sync = j.recs.length
  · rw [if_pos hs]
    refine ⟨secs, by rw [← hs], hB, rfl, ?_, hd⟩
    rw [hR]; unfold oldR; rw [hs, Int.toNat_natCast, List.take_length]
  · rw [if_neg hs]
    have hrun : runD (dW ⟨secs, [], -1, false⟩ (wrJ j ⟨secs, [], -1, false⟩)) = true := by unfold runD; rw [hwd]; rfl
    have hsy : syncD (dW ⟨secs, [], -1, false⟩ (wrJ j ⟨secs, [], -1, false⟩)) = (⟨perf secs (wrJ j ⟨secs, [], -1, false⟩), [], -1, false⟩, 0) := by
      unfold syncD
      rw [hrun, if_pos rfl, if_neg (by show ¬ (0 : Int) ≤ -1; decide)]
      rfl
    dsimp only
    rw [hsy, if_neg (fun h => h rfl)]
    have hPB : ∀ b ∈ perf secs (wrJ j ⟨secs, [], -1, false⟩), b.length = 128 ∧ B8 b := perf_all (Q := fun b => b.length = 128 ∧ B8 b) _ _ hB fun w hw => by
      exact ⟨(hwo w hw).2, wrs_B8 _ _ _ (fun b hb => hrB b (List.mem_of_mem_drop hb)) w hw⟩
    refine ⟨_, rfl, hPB, perf_len _ _, ?_, ?_⟩
    · have := sync_full (N := newR j) hB hR rfl hg (by omega)
      show recB (perf secs (wrs (genL secs + 1) (usedN (oldR j)) (newR j))) = _
      rw [this]; exact List.take_append_drop _ _
    · exact okD_in (by rw [perf_len]; exact k1) (by rw [perf_len]; exact k2) (by simp) (show (-1 : Int) ≤ -1 by decide) (show (-1 : Int) ≤ 65536 by decide) (by simp) (fun b hb => (hPB b hb).1)
end Go.Proofs.Ytijkiolobmkhhaa

namespace Go.Proofs.Ytijkiolobmkhhaa
open Go Go.Sg
set_option maxRecDepth 100000
theorem bulk_one {H : Type} (d : DataW H) : 1 ≤ Rows.uptoBulk d := by
  cases d with
  | lit l => cases l <;> simp [Rows.uptoBulk]
  | nil => simp [Rows.uptoBulk]
  | ptr d => simp [Rows.uptoBulk]
  | slice elems spare => simp [Rows.uptoBulk]
  | agg parts => simp [Rows.uptoBulk]
  | iface t d => simp [Rows.uptoBulk]
  | map entries => simp [Rows.uptoBulk]
  | held h => simp [Rows.uptoBulk]
/-- The rows' measure. -/
def UB : Bulk where
  one := Rows.uptoBulk
  all := Rows.uptoBulkAll
  cons := fun d r => by simp only [Rows.uptoBulkAll]
  slice := fun e s => by simp only [Rows.uptoBulk]; omega
  nil := bulk_one _
  agg := fun ps => by simp only [Rows.uptoBulk]; omega
  lit := fun l => bulk_one _
theorem rI : Rdc Try.prog 3 Int (fun n => [eI n]) (fun n => (Lit.int .i64 n).wf = true) := Rdc.int (by kernel_rfl) (by kernel_rfl)
theorem rU8 : Rdc Try.prog 5 Int (fun n => [.int .u8 n]) (fun n => (Lit.int .u8 n).wf = true) := Rdc.int (by kernel_rfl) (by kernel_rfl)
theorem rBool : Rdc Try.prog 4 Bool (fun n => [.bool n]) (fun _ => True) := Rdc.bool (by kernel_rfl) (by kernel_rfl)
theorem wf_u8 {n : Int} (h : (Lit.int .u8 n).wf = true) : 0 ≤ n ∧ n ≤ 255 := by
  simp only [Lit.wf, Bool.and_eq_true, decide_eq_true_eq] at h
  have h1 : IntKind.u8.min = 0 := rfl
  have h2 : IntKind.u8.max = 255 := rfl
  omega
def okBs (b : Bs) : Prop := b.length ≤ reachBytes ∧ ∀ n ∈ b, (Lit.int .u8 n).wf = true
theorem okBs.B8 {b : Bs} (h : okBs b) : B8 b := fun c hc => wf_u8 (h.2 c hc)
theorem rB : Rdc Try.prog 35 Bs (fun b => [eB b]) okBs :=
  Rdc.slice (e := 5) (sz := 1) (by kernel_rfl) (by kernel_rfl) rU8 (by kernel_rfl) (by decide) (of_decide_eq_true (by kernel_rfl)) (fun _ _ => rfl)
def okSs (l : List Bs) : Prop := l.length ≤ reachBytes ∧ ∀ b ∈ l, okBs b
theorem okSs.B8 {l : List Bs} (h : okSs l) : ∀ b ∈ l, B8 b := fun b hb => (h.2 b hb).B8
theorem rS : Rdc Try.prog 22 (List Bs) (fun b => [eS b]) okSs :=
  Rdc.slice (e := 35) (sz := 1) (by kernel_rfl) (by kernel_rfl) rB (by kernel_rfl) (by decide) (of_decide_eq_true (by kernel_rfl)) (fun _ _ => rfl)
def okWr (w : Wr) : Prop := (Lit.int .i64 w.pos).wf = true ∧ okBs w.data
theorem rW : Rdc Try.prog 76 Wr (fun w => [eI w.pos, eB w.data]) okWr := by
  have h := Rdc.struct (P := Try.prog) (t := 76) Try.underlying76 (Rdf.cons rI (Rdf.cons rB Rdf.nil (by kernel_rfl) rfl) (by kernel_rfl) rfl) (by kernel_rfl)
  exact h.map (fun x => (⟨x.1, x.2.1⟩ : Wr)) (fun w => (w.pos, w.data, ())) (fun _ => rfl) (fun _ _ => rfl) (fun x h => ⟨h.1, h.2.1⟩) (fun y h => ⟨h.1, h.2, trivial⟩)
def okPs (l : List Wr) : Prop := l.length ≤ reachBytes ∧ ∀ b ∈ l, okWr b
theorem rP : Rdc Try.prog 23 (List Wr) (fun b => [eP b]) okPs :=
  Rdc.slice (e := 76) (sz := 2) (by kernel_rfl) (by kernel_rfl) rW (by kernel_rfl) (by decide) (of_decide_eq_true (by kernel_rfl)) (fun _ _ => rfl)
def okDk (d : Dk) : Prop := okSs d.secs ∧ okPs d.pend ∧ (Lit.int .i64 d.left).wf = true
theorem rDc : Rdc Try.prog 25 Dk (fun d => [eS d.secs, eP d.pend, eI d.left, .bool d.stop]) okDk := by
  have h := Rdc.struct (P := Try.prog) (t := 25) Try.underlying25 (Rdf.cons rS (Rdf.cons rP (Rdf.cons rI (Rdf.cons rBool Rdf.nil (by kernel_rfl) rfl) (by kernel_rfl) rfl) (by kernel_rfl) rfl) (by kernel_rfl) rfl) (by kernel_rfl)
  exact h.map (fun x => (⟨x.1, x.2.1, x.2.2.1, x.2.2.2.1⟩ : Dk)) (fun w => (w.secs, w.pend, w.left, w.stop, ())) (fun _ => rfl) (fun _ _ => rfl) (fun x h => ⟨h.1, h.2.1, h.2.2.1⟩) (fun y h => ⟨h.1, h.2.1, h.2.2, trivial, trivial⟩)
theorem aD : Rda Try.prog 25 Dk eD okDk := Rda.agg rDc (by kernel_rfl)
theorem aI : Rda Try.prog 3 Int eI (fun n => (Lit.int .i64 n).wf = true) := Rda.one rI (by kernel_rfl)
theorem aU8 : Rda Try.prog 5 Int (fun n => .int .u8 n) (fun n => (Lit.int .u8 n).wf = true) := Rda.one rU8 (by kernel_rfl)
theorem aB : Rda Try.prog 35 Bs eB okBs := Rda.one rB (by kernel_rfl)
theorem own : ownKnob Try.prog.godebug = none := by kernel_rfl
/-! ### With a measure -/
theorem bU8 : RdcB UB Try.prog 5 Int (fun n => [.int .u8 n]) (fun n => (Lit.int .u8 n).wf = true) (fun _ => 1) := RdcB.int (by kernel_rfl) (by kernel_rfl)
theorem bB : RdcB UB Try.prog 35 Bs (fun b => [eB b]) okBs (fun b => (b.map fun _ => 1).sum + 1) :=
  RdcB.slice (e := 5) (sz := 1) (by kernel_rfl) (by kernel_rfl) bU8 (by kernel_rfl) (by decide) (of_decide_eq_true (by kernel_rfl)) (fun _ _ => rfl)
theorem bS : RdcB UB Try.prog 22 (List Bs) (fun b => [eS b]) okSs (fun l => (l.map fun b => (b.map fun _ => 1).sum + 1).sum + 1) :=
  RdcB.slice (e := 35) (sz := 1) (by kernel_rfl) (by kernel_rfl) bB (by kernel_rfl) (by decide) (of_decide_eq_true (by kernel_rfl)) (fun _ _ => rfl)
theorem sum1 (b : Bs) : (b.map fun _ => 1).sum = b.length := by
  induction b with
  | nil => rfl
  | cons c r ih => rw [List.map_cons, List.sum_cons, ih, List.length_cons]; omega
theorem szL_bd (l : List Bs) : (l.map fun b => (b.map fun _ => 1).sum + 1).sum = szL l := by
  unfold szL
  congr 1
  exact List.map_congr_left fun b _ => by rw [sum1]
def okJn (j : Jn) : Prop := okSs j.recs ∧ (Lit.int .i64 j.many).wf = true ∧ (Lit.int .i64 j.sync).wf = true
theorem bJc : RdcB UB Try.prog 29 Jn (fun j => [eS j.recs, eI j.many, eI j.sync]) okJn (fun j => szL j.recs) := by
  have h := RdcB.struct (B := UB) (P := Try.prog) (t := 29) Try.underlying29 (RdfB.cons bS (RdfB.cons rI.toB (RdfB.cons rI.toB RdfB.nil (by kernel_rfl) rfl) (by kernel_rfl) rfl) (by kernel_rfl) rfl) (by kernel_rfl)
  exact h.map (fun x => (⟨x.1, x.2.1, x.2.2.1⟩ : Jn)) (fun w => (w.recs, w.many, w.sync, ())) (fun _ => rfl) (fun _ _ => rfl) (fun x h => ⟨h.1, h.2.1, h.2.2.1⟩) (fun y h => ⟨h.1, h.2.1, h.2.2, trivial⟩) (fun x => by
    show szL x.1 ≤ _
    rw [← szL_bd]; omega)
theorem kJ : RdaB UB Try.prog 29 Jn eJ okJn (fun j => szL j.recs) := RdaB.agg bJc (by kernel_rfl)
theorem kB : RdaB UB Try.prog 35 Bs eB okBs (fun b => (b.map fun _ => 1).sum + 1) := RdaB.one bB (by kernel_rfl)
theorem kS : RdaB UB Try.prog 22 (List Bs) eS okSs (fun l => (l.map fun b => (b.map fun _ => 1).sum + 1).sum + 1) := RdaB.one bS (by kernel_rfl)
theorem kI : RdaB UB Try.prog 3 Int eI (fun n => (Lit.int .i64 n).wf = true) (fun _ => 0) := Rda.toB aI
theorem kU8 : RdaB UB Try.prog 5 Int (fun n => .int .u8 n) (fun n => (Lit.int .u8 n).wf = true) (fun _ => 0) := Rda.toB aU8
theorem kD : RdaB UB Try.prog 25 Dk eD okDk (fun _ => 0) := Rda.toB aD
end Go.Proofs.Ytijkiolobmkhhaa

namespace Go.Proofs.Ytijkiolobmkhhaa
open Go Go.Sg
set_option maxRecDepth 100000
set_option maxHeartbeats 40000000
/-- A new disk of 40 sectors; its journal. -/
def zS : List Bs := List.replicate 40 zB
def zD : Dk := ⟨zS, [], -1, false⟩
def zJ : Jn := ⟨[], 40, 0⟩
theorem zn1 : newD 40 = (zD, 0) := by kernel_rfl
theorem zn2 : openJ zD = (zJ, 0) := by kernel_rfl
theorem zn3 : recB zS = [] := by kernel_rfl
theorem zn4 : genL zS = 0 := by kernel_rfl
theorem zn5 : okD zD = true := by kernel_rfl
theorem zn6 : chkJ zJ = true := by kernel_rfl
theorem zSS : SS zS := fun s hs => by
  have : s = zB := List.eq_of_mem_replicate hs
  subst this
  exact ⟨rfl, fun c hc => by have := List.eq_of_mem_replicate hc; omega⟩
theorem openJ_good {secs : List Bs} {R : List Bs} (hd : okD ⟨secs, [], -1, false⟩ = true) (hR : recB secs = R) : openJ ⟨secs, [], -1, false⟩ = (⟨R, secs.length, R.length⟩, 0) := by
  unfold openJ
  rw [hd, if_pos rfl, if_neg Bool.false_ne_true, if_neg (show ¬ 0 < ((([] : List Wr).map eW).length : Int) by decide), ← hR]
theorem same5_self' (j : Jn) (h : szL j.recs ≤ 50000000) (hb : ∀ b ∈ j.recs, B8 b) : PCalls Try.prog 14 [eJ j, eJ j] (.bool true) := by
  have := same5_calls j j h hb hb
  rwa [decide_eq_true (⟨rfl, rfl, rfl⟩ : j.many = j.many ∧ j.sync = j.sync ∧ j.recs = j.recs)] at this
theorem sameR_self' (l : List Bs) (hl : l.length < 100000000) (hb : ∀ b ∈ l, B8 b) : PCalls Try.prog 24 [eS l, eS l] (.bool true) := by
  have := sameR_calls l l hl hb hb
  rwa [decide_eq_true rfl] at this
theorem gen32 {l : List Bs} (hB : SS l) : genL l < 4294967296 := genL_lt l 0 (by decide) hB
theorem genL_perf {L : List Bs} {ws : List Wr} {G : Nat} (h : genL L ≤ G) (hw : ∀ w ∈ ws, numB (w.data.take 4) ≤ G ∧ numB (w.data.drop 124) ≤ G) : genL (perf L ws) ≤ G :=
  genL_le (perf_all (Q := fun s => numB (s.take 4) ≤ G ∧ numB (s.drop 124) ≤ G) ws L (fun s hs => by have := genF_ge L 0 s hs; exact ⟨Nat.le_trans this.1 h, Nat.le_trans this.2 h⟩) hw)
theorem sec_124 {g p kd : Nat} {b : Bs} (hb : b.length ≤ 112) : (secS g p kd b).drop 124 = nrl g 4 := by
  unfold secS
  rw [← List.append_assoc, ← List.append_assoc, List.drop_left']
  simp only [List.length_append, nrl_len, bodyS_len hb]
theorem wrR_gen {g G : Nat} (hg : g ≤ G) (hg32 : g < 4294967296) : ∀ (m p : Nat) (first : Bool) (b : Bs), ∀ w ∈ wrR g p first m b, numB (w.data.take 4) ≤ G ∧ numB (w.data.drop 124) ≤ G
  | 0, _, _, _, w, h => by cases h
  | m + 1, p, first, b, w, h => by
    rw [wrR] at h
    rcases List.mem_cons.1 h with e | e
    · subst e
      have h1 : numB (nrl g 4) = g := by rw [numB_nrl]; exact Nat.mod_eq_of_lt hg32
      refine ⟨?_, ?_⟩
      · show numB ((secS g p (kdW first m) (b.take 112)).take 4) ≤ G
        rw [sec_4, h1]; exact hg
      · show numB ((secS g p (kdW first m) (b.take 112)).drop 124) ≤ G
        rw [sec_124 (by rw [List.length_take]; omega), h1]; exact hg
    · exact wrR_gen hg hg32 m (p + 1) false _ w e
theorem wrs_gen {g G : Nat} (hg : g ≤ G) (hg32 : g < 4294967296) : ∀ (l : List Bs) (p : Nat), ∀ w ∈ wrs g p l, numB (w.data.take 4) ≤ G ∧ numB (w.data.drop 124) ≤ G
  | [], _, w, h => by cases h
  | b :: r, p, w, h => by
    rw [wrs] at h
    rcases List.mem_append.1 h with e | e
    · exact wrR_gen hg hg32 _ p true b w e
    · exact wrs_gen hg hg32 r _ w e
/-- The generations after a sync without a stop. -/
theorem syncJ_gen {j : Jn} {secs secs' : List Bs} {J : Jn} (h : syncJ j ⟨secs, [], -1, false⟩ = (J, ⟨secs', [], -1, false⟩, 0)) (hg : genL secs + 1 < 4294967296) : genL secs' ≤ genL secs + 1 := by
  unfold syncJ at h
  by_cases h1 : chkJ j = false
  · rw [if_pos h1] at h; cases h
  rw [if_neg h1] at h
  by_cases h2 : okD ⟨secs, [], -1, false⟩ = false
  · rw [if_pos h2] at h; cases h
  rw [if_neg h2, if_neg (fun h => Bool.noConfusion h)] at h
  by_cases h4 : j.many ≠ (secs.length : Int)
  · rw [if_pos h4] at h; cases h
  rw [if_neg h4, if_neg (show ¬ 0 < (⟨secs, [], -1, false⟩ : Dk).pend.length from Nat.lt_irrefl 0)] at h
  by_cases h6 : ¬ (recB secs = oldR j ∧ genL secs + 1 < 4294967296)
  · rw [if_pos h6] at h; cases h
  rw [if_neg h6] at h
  by_cases h7 : j.sync = (j.recs.length : Int)
  · rw [if_pos h7] at h
    injection h with _ h; injection h with h _; injection h with h
    subst h; omega
  rw [if_neg h7] at h
  dsimp only at h
  by_cases h8 : (syncD (dW ⟨secs, [], -1, false⟩ (wrJ j ⟨secs, [], -1, false⟩))).2 ≠ 0
  · rw [if_pos h8] at h
    injection h with _ h; injection h with _ h; exact absurd h h8
  rw [if_neg h8] at h
  injection h with _ h; injection h with h _
  unfold syncD at h h8
  by_cases h9 : runD (dW ⟨secs, [], -1, false⟩ (wrJ j ⟨secs, [], -1, false⟩)) = true
  · rw [if_pos h9, if_neg (show ¬ (0 : Int) ≤ (dW ⟨secs, [], -1, false⟩ (wrJ j ⟨secs, [], -1, false⟩)).left by show ¬ (0 : Int) ≤ -1; decide)] at h
    injection h with h
    rw [← h]
    exact genL_perf (Nat.le_succ _) (wrs_gen (Nat.le_refl _) hg _ _)
  · rw [if_neg h9] at h8
    exact absurd (show (40 : Int) ≠ 0 by decide) h8
theorem syncJ_same {j : Jn} {secs : List Bs} (hj : chkJ j = true) (hd : okD ⟨secs, [], -1, false⟩ = true) (hm : j.many = secs.length) (hR : recB secs = oldR j) (hg : genL secs + 1 < 4294967296) (hs : j.sync = j.recs.length) : syncJ j ⟨secs, [], -1, false⟩ = (j, ⟨secs, [], -1, false⟩, 0) := by
  unfold syncJ
  rw [hj, hd, if_neg (fun h => Bool.noConfusion h), if_neg (fun h => Bool.noConfusion h), if_neg (fun h => Bool.noConfusion h), if_neg (fun h => h hm), if_neg (show ¬ 0 < (⟨secs, [], -1, false⟩ : Dk).pend.length from Nat.lt_irrefl 0), if_neg (fun h => h ⟨hR, hg⟩), if_pos hs]
/-- What the calls of JournalSteps lead to. -/
theorem steps_facts (a b : List Bs) (haB : ∀ c ∈ a, B8 c) (hbB : ∀ c ∈ b, B8 c) : ∃ (A1 AB J1 J : Jn) (c x y : List Bs), A1 = addA zJ a ∧ AB = addA A1 b ∧ addA J1 b = { AB with sync := A1.recs.length } ∧
    syncJ AB zD = (J, ⟨c, [], -1, false⟩, 0) ∧ syncJ A1 zD = (J1, ⟨x, [], -1, false⟩, 0) ∧ syncJ { AB with sync := A1.recs.length } ⟨x, [], -1, false⟩ = (J, ⟨y, [], -1, false⟩, 0) ∧ syncJ J ⟨y, [], -1, false⟩ = (J, ⟨y, [], -1, false⟩, 0) ∧
    openJ ⟨c, [], -1, false⟩ = (J, 0) ∧ openJ ⟨y, [], -1, false⟩ = (J, 0) ∧ (SS c ∧ c.length = 40) ∧ (SS x ∧ x.length = 40) ∧ (SS y ∧ y.length = 40) ∧ J.recs = AB.recs ∧ J1.recs = A1.recs ∧ ∃ N, AB.recs = A1.recs ++ N := by
  obtain ⟨a1, a2, a3, NA, a4⟩ := addA_ok a zJ zn6
  have a2 : (addA zJ a).many = 40 := a2
  have a3 : (addA zJ a).sync = 0 := a3
  generalize hA1 : addA zJ a = A1 at *
  obtain ⟨b1, b2, b3, N, b4⟩ := addA_ok b A1 a1
  generalize hAB : addA A1 b = AB at *
  have hA1B : ∀ c ∈ A1.recs, B8 c := by rw [← hA1]; exact addA_B8 a zJ (fun c hc => by cases hc) haB
  have hABB : ∀ c ∈ AB.recs, B8 c := by rw [← hAB]; exact addA_B8 b A1 hA1B hbB
  have z0 : oldR AB = [] := by unfold oldR; rw [b3, a3]; rfl
  have z1 : oldR A1 = [] := by unfold oldR; rw [a3]; rfl
  obtain ⟨c, c1, c2, c3, c4, c5⟩ := syncJ_good (j := AB) (secs := zS) b1 zn5 (by rw [b2, a2]; rfl) zSS (by rw [z0]; exact zn3) (by rw [zn4]; decide) hABB
  obtain ⟨x, x1, x2, x3, x4, x5⟩ := syncJ_good (j := A1) (secs := zS) a1 zn5 (by rw [a2]; rfl) zSS (by rw [z1]; exact zn3) (by rw [zn4]; decide) hA1B
  have gx := syncJ_gen x1 (by rw [zn4]; decide)
  rw [zn4] at gx
  have hlen : A1.recs.length ≤ AB.recs.length := by rw [b4, List.length_append]; omega
  obtain ⟨q1, q2, q3, q4, q5⟩ := chkJ_iff.1 b1
  have hm : chkJ { AB with sync := (A1.recs.length : Int) } = true := chkJ_iff.2 ⟨q1, q2, by show (0 : Int) ≤ A1.recs.length; omega, by show (A1.recs.length : Int) ≤ AB.recs.length; omega, q5⟩
  have hold : oldR { AB with sync := (A1.recs.length : Int) } = A1.recs := by
    show AB.recs.take ((A1.recs.length : Int)).toNat = _
    rw [Int.toNat_natCast, b4, List.take_left' rfl]
  have x3 : x.length = 40 := x3
  have c3 : c.length = 40 := c3
  obtain ⟨y, y1, y2, y3, y4, y5⟩ := syncJ_good (j := { AB with sync := (A1.recs.length : Int) }) (secs := x) hm x5 (by show AB.many = _; rw [b2, a2, x3]; rfl) x2 (by rw [hold]; exact x4) (by omega) hABB
  have gy := syncJ_gen y1 (by omega)
  have y3 : y.length = 40 := y3.trans x3
  have y4 : recB y = AB.recs := y4
  have hf : chkJ { AB with sync := (AB.recs.length : Int) } = true := chkJ_iff.2 ⟨q1, q2, by show (0 : Int) ≤ AB.recs.length; omega, Int.le_refl _, q5⟩
  have hold2 : oldR { AB with sync := (AB.recs.length : Int) } = AB.recs := by
    show AB.recs.take ((AB.recs.length : Int)).toNat = _
    rw [Int.toNat_natCast, List.take_length]
  have z := syncJ_same (j := { AB with sync := (AB.recs.length : Int) }) (secs := y) hf y5 (by show AB.many = _; rw [b2, a2, y3]; rfl) (by rw [hold2]; exact y4) (by omega) rfl
  have hJ : (⟨AB.recs, 40, AB.recs.length⟩ : Jn) = { AB with sync := (AB.recs.length : Int) } := by rw [← a2, ← b2]
  refine ⟨A1, AB, _, _, c, x, y, rfl, hAB.symm, ?_, c1, x1, y1, z, ?_, ?_, ⟨c2, c3⟩, ⟨x2, x3⟩, ⟨y2, y3⟩, rfl, rfl, N, b4⟩
  · rw [addA_sync b A1 A1.recs.length a1 (Nat.le_refl _), hAB]
  · rw [openJ_good c5 c4, c3, ← hJ]; rfl
  · rw [openJ_good y5 y4, y3, ← hJ]; rfl
theorem steps_calls (a b : List Bs) (ha : okSs a) (hb : okSs b) (hz : szL a + szL b ≤ 1048576) : PCalls Try.prog 8 [eS a, eS b] (.bool true) := by
  have haB := ha.B8
  have hbB := hb.B8
  have hla := szL_len a
  have hlb := szL_len b
  have c1 := new_calls 40
  rw [zn1] at c1
  have c2 := open_calls zD (by decide) (by decide) (fun s hs => (zSS s hs).2)
  rw [zn2] at c2
  have f := few5_calls zD (a ++ b) (by rw [szL_app]; omega)
  have hma : (a.map eB).length = a.length := List.length_map _
  have hmb : (b.map eB).length = b.length := List.length_map _
  have e1 : eS (a ++ b) = .sl 1 false (List.take (0 + (a.map eB).length + (b.map eB).length) (List.drop 0 ([] ++ a.map eB ++ b.map eB))) := by
    show PV.sl 1 false _ = PV.sl 1 false _
    rw [List.drop_zero, List.nil_append, List.map_append, List.take_of_length_le (by rw [List.length_append]; omega)]
  have ef : fewJ zD (a ++ b) = decide (szL (a ++ b) ≤ 4000) := by
    unfold fewJ
    exact decide_eq_decide.2 ⟨fun h => h.2.2, fun h => ⟨by decide, by decide, h⟩⟩
  rw [e1, ef, szL_app] at f
  by_cases hz4 : szL a + szL b ≤ 4000
  · rw [decide_eq_true hz4] at f
    obtain ⟨A1, AB, J1, J, c, x, y, g1, g2, g3, g4, g5, g6, g7, g8, g9, ⟨k1, k2⟩, ⟨k3, k4⟩, ⟨k5, k6⟩, g10, g11, N, g12⟩ := steps_facts a b haB hbB
    have hal : ∀ c ∈ a, c.length < 1000000 := fun c hc => by have := szL_mem hc; omega
    have hbl : ∀ c ∈ b, c.length < 1000000 := fun c hc => by have := szL_mem hc; omega
    have hsA : szL A1.recs ≤ szL a := by rw [g1]; have := addA_sz a zJ; simpa [zJ, szL] using this
    have hsB : szL AB.recs ≤ szL a + szL b := by rw [g2]; have := addA_sz b A1; omega
    have hA1B : ∀ c ∈ A1.recs, B8 c := by rw [g1]; exact addA_B8 a zJ (fun c hc => by cases hc) haB
    have hABB : ∀ c ∈ AB.recs, B8 c := by rw [g2]; exact addA_B8 b A1 hA1B hbB
    have p1 := add_calls zJ a (by show 0 + szL a ≤ _; omega) hal
    rw [← g1] at p1
    have p2 := add_calls A1 b (by omega) hbl
    rw [← g2] at p2
    have p3 := add_calls J1 b (by rw [g11]; omega) hbl
    rw [g3] at p3
    have q1 := jsync_calls AB zD (by omega) hABB (by decide) (by decide) (fun s hs => (zSS s hs).2)
    rw [g4] at q1
    have q2 := jsync_calls A1 zD (by omega) hA1B (by decide) (by decide) (fun s hs => (zSS s hs).2)
    rw [g5] at q2
    have q3 := jsync_calls { AB with sync := (A1.recs.length : Int) } ⟨x, [], -1, false⟩ (show szL AB.recs ≤ _ by omega) hABB (by show x.length < _; omega) (show (0 : Nat) < 1000000 by decide) (fun s hs => (k3 s hs).2)
    rw [g6] at q3
    have q4 := jsync_calls J ⟨y, [], -1, false⟩ (by rw [g10]; omega) (by rw [g10]; exact hABB) (by show y.length < _; omega) (show (0 : Nat) < 1000000 by decide) (fun s hs => (k5 s hs).2)
    rw [g7] at q4
    have o1 := open_calls ⟨c, [], -1, false⟩ (by show c.length < _; omega) (show (0 : Nat) < 1000000 by decide) (fun s hs => (k1 s hs).2)
    rw [g8] at o1
    have o2 := open_calls ⟨y, [], -1, false⟩ (by show y.length < _; omega) (show (0 : Nat) < 1000000 by decide) (fun s hs => (k5 s hs).2)
    rw [g9] at o2
    have hlJ := szL_len J.recs
    have sj := same5_self' J (by rw [g10]; omega) (by rw [g10]; exact hABB)
    have sr := sameR_self' J.recs (by rw [g10] at hlJ ⊢; omega) (by rw [g10]; exact hABB)
    have sd := same_calls ⟨y, [], -1, false⟩ (by show y.length < _; omega) (show (0 : Nat) < 1000000 by decide)
    clear g1 g2 g3 g4 g5 g6 g7 g8 g9
    refine PCalls.of (N := 154) (res := [.tmp 4]) mixed Try.func8 rfl rfl rfl (by kernel_rfl) (by simp) [0, 1, 4, 5, 6, 7, 8, 9, 10, 11, 12, 13, 14, 15, 16, 17, 18, 19, 20, 21, 22, 23, 24, 25, 27, 43, 52] ?_
    repeat' (first | exact cl1 | ((with_reducible show Exists _); refine exU8 ?_) | ((with_reducible show callX _ _ _ _ _); (first | refine call_p (sane_calls) (by kernel_rfl) rfl ?_ | refine call_p (c1) (by kernel_rfl) rfl ?_ | (refine call_z (f) (by kernel_rfl) rfl ?_; (repeat' (first | exact PV.leL_nil | refine PV.leL_cons ?_ ?_ | refine And.intro ?_ ?_ | exact Nat.zero_lt_succ _ | exact Nat.le_of_ble_eq_true rfl | exact PV.le_refl _ | exact PV.le_nil _ _ _ | exact PV.le_clip _ _ _ | refine PV.le_agg ?_ | refine PV.le_tup ?_ | rfl)); fail_if_success (any_goals (refine PV.le_of ?_))) | refine call_p (c2) (by kernel_rfl) rfl ?_ | refine call_p (p1) (by kernel_rfl) rfl ?_ | refine call_p (p2) (by kernel_rfl) rfl ?_ | refine call_p (p3) (by kernel_rfl) rfl ?_ | refine call_p (q1) (by kernel_rfl) rfl ?_ | refine call_p (q2) (by kernel_rfl) rfl ?_ | refine call_p (q3) (by kernel_rfl) rfl ?_ | refine call_p (q4) (by kernel_rfl) rfl ?_ | refine call_p (o1) (by kernel_rfl) rfl ?_ | refine call_p (o2) (by kernel_rfl) rfl ?_ | refine call_p (sj) (by kernel_rfl) rfl ?_ | refine call_p (sr) (by kernel_rfl) rfl ?_ | refine call_p (sd) (by kernel_rfl) rfl ?_)) | ((fail_if_success with_reducible first | show LeG _ _ | show Lp _ _ _ _ | show Exists _ | show callX _ _ _ _ _ | show (_ : Int) ≤ _ | show (_ : Int) < _ | show (_ : Nat) ≤ _ | show (_ : Nat) < _); (conv => whnf) <;> (first | exact cl2 | refine XAlt.l ?_ | refine Sq.pr ?_ | refine Br.dec (fun hc => ?_) (fun hc => ?_) | refine Br.tt ?_ | refine Br.ff ?_ | refine Br.not ?_ | refine Br.mk (fun hc => ?_) (fun hc => ?_) | refine Opt.nn ?_ | refine Opt.ss ?_ | refine AltA.l ?_ | exact PV.leL_nil | refine PV.leL_cons ?_ ?_ | refine And.intro ?_ ?_ | refine ix_map (fun x hx => ?_) | refine exU8 ?_ | refine nilc (fun hn => ?_) ?_ | exact cl3 | refine imp0 (fun hpos => ?_) | refine fits_i64 ?_ ?_ | exact rfl | (with_reducible first | show LeG _ _ | show Lp _ _ _ _ | show Exists _ | show callX _ _ _ _ _)))) <;> (try exact cl5)
    all_goals exact (hc rfl).elim
  · rw [decide_eq_false hz4] at f
    refine PCalls.of (N := 154) (res := [.tmp 4]) mixed Try.func8 rfl rfl rfl (by kernel_rfl) (by simp) [0, 1, 4, 5, 6, 7, 8, 9, 10, 11, 12, 13, 14, 15, 16, 17, 18, 19, 20, 21, 22, 23, 24, 25, 27, 43, 52] ?_
    repeat' (first | exact cl1 | ((with_reducible show Exists _); refine exU8 ?_) | ((with_reducible show callX _ _ _ _ _); (first | refine call_p (sane_calls) (by kernel_rfl) rfl ?_ | refine call_p (c1) (by kernel_rfl) rfl ?_ | (refine call_z (f) (by kernel_rfl) rfl ?_; (repeat' (first | exact PV.leL_nil | refine PV.leL_cons ?_ ?_ | refine And.intro ?_ ?_ | exact Nat.zero_lt_succ _ | exact Nat.le_of_ble_eq_true rfl | exact PV.le_refl _ | exact PV.le_nil _ _ _ | exact PV.le_clip _ _ _ | refine PV.le_agg ?_ | refine PV.le_tup ?_ | rfl)); fail_if_success (any_goals (refine PV.le_of ?_))))) | ((fail_if_success with_reducible first | show LeG _ _ | show Lp _ _ _ _ | show Exists _ | show callX _ _ _ _ _ | show (_ : Int) ≤ _ | show (_ : Int) < _ | show (_ : Nat) ≤ _ | show (_ : Nat) < _); (conv => whnf) <;> (first | exact cl2 | refine XAlt.l ?_ | refine Sq.pr ?_ | refine Br.dec (fun hc => ?_) (fun hc => ?_) | refine Br.tt ?_ | refine Br.ff ?_ | refine Br.not ?_ | refine Br.mk (fun hc => ?_) (fun hc => ?_) | refine Opt.nn ?_ | refine Opt.ss ?_ | refine AltA.l ?_ | exact PV.leL_nil | refine PV.leL_cons ?_ ?_ | refine And.intro ?_ ?_ | refine ix_map (fun x hx => ?_) | refine exU8 ?_ | refine nilc (fun hn => ?_) ?_ | exact cl3 | refine imp0 (fun hpos => ?_) | refine fits_i64 ?_ ?_ | exact rfl | (with_reducible first | show LeG _ _ | show Lp _ _ _ _ | show Exists _ | show callX _ _ _ _ _)))) <;> (try exact cl5)
theorem steps_law (a b : List Bs) (ha : okSs a) (hb : okSs b) (hz : ((a.map fun b => (b.map fun _ => 1).sum + 1).sum + 1) + (((b.map fun b => (b.map fun _ => 1).sum + 1).sum + 1) + 0) ≤ 1048576) : PCalls Try.prog 8 [eS a, eS b] (.bool true) :=
  steps_calls a b ha hb (by rw [szL_bd, szL_bd] at hz; omega)
end Go.Proofs.Ytijkiolobmkhhaa

namespace Go.Proofs.Ytijkiolobmkhhaa
open Go Go.Sg
set_option maxRecDepth 100000
set_option maxHeartbeats 8000000
/-! ### The checksum notices a byte -/
theorem crc1_top {n : Nat} (h : n < 4294967296) : (crc1 n).testBit 31 = decide (n % 2 = 1) := by
  have h2 : (n / 2).testBit 31 = false := Nat.testBit_lt_two_pow (show n / 2 < 2 ^ 31 by omega)
  unfold crc1
  by_cases e : n % 2 = 1
  · rw [if_pos e, Nat.testBit_xor, h2, decide_eq_true e]; decide
  · rw [if_neg e, h2, decide_eq_false e]
theorem crc1_inj {a b : Nat} (ha : a < 4294967296) (hb : b < 4294967296) (h : crc1 a = crc1 b) : a = b := by
  have h1 := crc1_top ha
  rw [h, crc1_top hb] at h1
  have h2 : (b % 2 = 1) = (a % 2 = 1) := by
    have := decide_eq_decide.1 h1
    exact propext this
  unfold crc1 at h
  by_cases e : a % 2 = 1
  · have e2 : b % 2 = 1 := by rw [h2]; exact e
    rw [if_pos e, if_pos e2] at h
    have h3 : a / 2 = b / 2 := by
      have := congrArg (fun z => z ^^^ 3988292384) h
      simp only [Nat.xor_assoc, Nat.xor_self, Nat.xor_zero] at this
      exact this
    omega
  · have e2 : ¬ b % 2 = 1 := by rw [h2]; exact e
    rw [if_neg e, if_neg e2] at h
    omega
theorem crcI_inj : ∀ (k : Nat) {a b : Nat}, a < 4294967296 → b < 4294967296 → crcI a k = crcI b k → a = b
  | 0, _, _, _, _, h => h
  | k + 1, a, b, ha, hb, h => crcI_inj k ha hb (crc1_inj (crcI_lt ha k) (crcI_lt hb k) h)
theorem xor_cancel {m c d : Nat} (h : m ^^^ c = m ^^^ d) : c = d := by
  have := congrArg (fun z => m ^^^ z) h
  simp only [← Nat.xor_assoc, Nat.xor_self, Nat.zero_xor] at this
  exact this
theorem crcL_app (n : Nat) (a b : Bs) : crcL n (a ++ b) = crcL (crcL n a) b := by unfold crcL; rw [List.foldl_append]
theorem crcL_inj : ∀ (b : Bs) {m n : Nat}, m < 4294967296 → n < 4294967296 → B8 b → crcL m b = crcL n b → m = n
  | [], _, _, _, _, _, h => h
  | c :: r, m, n, hm, hn, hb, h => by
    have hc := hb c (by simp)
    have h1 := crcL_inj r (crcB_lt hm (c := c.toNat) (by omega)) (crcB_lt hn (c := c.toNat) (by omega)) (fun x hx => hb x (by simp [hx])) h
    have h2 := crcI_inj 8 (xor_lt32 hm (by omega)) (xor_lt32 hn (by omega)) h1
    rw [Nat.xor_comm m, Nat.xor_comm n] at h2
    exact xor_cancel h2
/-- Sums of bytes of which one differs differ. -/
theorem sum_ne {a b : Bs} {x y : Int} (ha : B8 a) (hb : B8 b) (hx : 0 ≤ x ∧ x ≤ 255) (hy : 0 ≤ y ∧ y ≤ 255) (hne : x ≠ y) : sumB (a ++ x :: b) ≠ sumB (a ++ y :: b) := fun h => by
  have l0 := crcL_lt a (n := 4294967295) (by decide) ha
  have l1 : ∀ z : Int, 0 ≤ z ∧ z ≤ 255 → crcL 4294967295 (a ++ z :: b) < 4294967296 := fun z hz => crcL_lt _ (by decide) (fun c hc => by
    rcases List.mem_append.1 hc with h | h
    · exact ha c h
    · rcases List.mem_cons.1 h with h | h
      · subst h; exact hz
      · exact hb c h)
  have k1 := l1 x hx
  have k2 := l1 y hy
  unfold sumB at h
  have h1 : crcL 4294967295 (a ++ x :: b) = crcL 4294967295 (a ++ y :: b) := by omega
  rw [crcL_app, crcL_app] at h1
  have h2 := crcL_inj b (crcB_lt l0 (c := x.toNat) (by omega)) (crcB_lt l0 (c := y.toNat) (by omega)) hb h1
  have h3 := crcI_inj 8 (xor_lt32 l0 (by omega)) (xor_lt32 l0 (by omega)) h2
  have h4 := xor_cancel h3
  omega
theorem numB_inj {a b : Bs} (ha : B8 a) (hb : B8 b) (hl : a.length = b.length) (h : numB a = numB b) : a = b := by
  have h1 := nrl_numB a ha
  have h2 := nrl_numB b hb
  rw [h, hl] at h1
  exact h1.symm.trans h2
theorem set_ne {s : Bs} {i : Nat} {y : Int} (hi : i < s.length) (h : y ≠ at8 s i) : s.set i y ≠ s := fun e => by
  have h1 : (s.set i y)[i]? = some y := List.getElem?_set_self hi
  rw [e, at8_get hi] at h1
  injection h1 with h1; exact h h1.symm
theorem at8_drop {s : Bs} {k i : Nat} : at8 (s.drop k) i = at8 s (k + i) := by unfold at8; rw [List.getD, List.getD, List.getElem?_drop]
theorem at8_take {s : Bs} {k i : Nat} (h : i < k) : at8 (s.take k) i = at8 s i := by unfold at8; rw [List.getD, List.getD, List.getElem?_take_of_lt h]
/-- A sector of which a byte changed is bad. -/
theorem byte_bad {g k kd : Nat} {b : Bs} {i : Nat} {y : Int} {q : Nat} (h0 : 0 < g) (hg : g < 4294967296) (hk : k ≤ 4096) (hkd : kd ≤ 3) (hb : b.length ≤ 112) (hB : B8 b) (h1 : kd < 2 → b.length = 112) (h2 : kd % 2 = 0 → b.length ≠ 0)
    (hi : i < 128) (hy : 0 ≤ y ∧ y ≤ 255) (hne : y ≠ at8 (secS g k kd b) i) (hq : q = k) : goodB ((secS g k kd b).set i y) q = false := by
  subst hq
  generalize hs : secS g q kd b = s at *
  have hl : s.length = 128 := by rw [← hs]; exact secS_len hb
  have hsB : B8 s := by rw [← hs]; exact secS_B8 hb hkd hB
  have hsB' : B8 (s.set i y) := fun c hc => by
    rcases List.mem_or_eq_of_mem_set hc with h | h
    · exact hsB c h
    · subst h; exact hy
  have hl' : (s.set i y).length = 128 := by rw [List.length_set]; exact hl
  have hgood : goodB s q = true := by rw [← hs]; exact good_sec h0 hg hkd hb h1 h2
  obtain ⟨a1, a2, a3, a4, _⟩ := (goodB_iff s q hl hsB hk).1 hgood
  refine Bool.eq_false_iff.2 fun hgd => ?_
  obtain ⟨c1, c2, c3, c4, _⟩ := (goodB_iff _ q hl' hsB' hk).1 hgd
  by_cases r1 : i < 4
  · have e1 : (s.set i y).drop 124 = s.drop 124 := by rw [List.drop_set, if_pos (by omega)]
    have e2 : (s.set i y).take 4 = (s.take 4).set i y := List.take_set
    rw [e1, ← a2] at c2
    have h := numB_inj (hsB'.take 4) (hsB.take 4) (by rw [List.length_take, List.length_take, List.length_set]) c2
    rw [e2] at h
    exact set_ne (by rw [List.length_take]; omega) (by rw [at8_take r1]; exact hne) h
  by_cases r2 : i < 8
  · have e1 : (s.set i y).drop 8 = s.drop 8 := by rw [List.drop_set, if_pos (by omega)]
    have e2 : ((s.set i y).drop 4).take 4 = ((s.drop 4).take 4).set (i - 4) y := by rw [List.drop_set, if_neg (by omega), List.take_set]
    rw [e1, ← a3] at c3
    have h := numB_inj ((hsB'.drop 4).take 4) ((hsB.drop 4).take 4) (by simp only [List.length_take, List.length_drop, List.length_set]) c3
    rw [e2] at h
    exact set_ne (by rw [List.length_take, List.length_drop]; omega) (by rw [at8_take (by omega), at8_drop, show 4 + (i - 4) = i by omega]; exact hne) h
  by_cases r3 : i < 124
  · have e1 : ((s.set i y).drop 4).take 4 = (s.drop 4).take 4 := by
      rw [List.drop_set, if_neg (by omega), List.take_set, List.set_eq_of_length_le (by rw [List.length_take, List.length_drop]; omega)]
    have e2 : ((s.set i y).drop 8).take 116 = ((s.drop 8).take 116).set (i - 8) y := by rw [List.drop_set, if_neg (by omega), List.take_set]
    rw [e1, a3, e2] at c3
    have hbl : ((s.drop 8).take 116).length = 116 := by rw [List.length_take, List.length_drop]; omega
    have hx : at8 ((s.drop 8).take 116) (i - 8) = at8 s i := by rw [at8_take (by omega), at8_drop, show 8 + (i - 8) = i by omega]
    have hBb : B8 ((s.drop 8).take 116) := (hsB.drop 8).take 116
    generalize (s.drop 8).take 116 = body at *
    have hlt : i - 8 < body.length := by omega
    have d1 : body = body.take (i - 8) ++ at8 body (i - 8) :: body.drop (i - 8 + 1) := by
      conv => lhs; rw [← List.take_append_drop (i - 8) body, List.drop_eq_getElem_cons hlt]
      have := at8_get hlt
      rw [List.getElem?_eq_getElem hlt] at this
      injection this with this
      rw [this]
    have d2 : body.set (i - 8) y = body.take (i - 8) ++ y :: body.drop (i - 8 + 1) := by
      rw [List.set_eq_take_append_cons_drop, if_pos hlt]
    rw [d2] at c3
    conv at c3 => lhs; rw [d1]
    exact sum_ne (hBb.take _) (hBb.drop _) (at8_B8 hBb _) hy (by rw [hx]; exact fun h => hne h.symm) c3
  · have e1 : (s.set i y).take 4 = s.take 4 := by rw [List.take_set, List.set_eq_of_length_le (by rw [List.length_take]; omega)]
    have e2 : (s.set i y).drop 124 = (s.drop 124).set (i - 124) y := by rw [List.drop_set, if_neg (by omega)]
    rw [e1, a2] at c2
    have h := numB_inj (hsB.drop 124) (hsB'.drop 124) (by simp only [List.length_drop, List.length_set]) c2
    rw [e2] at h
    exact set_ne (by rw [List.length_drop]; omega) (by rw [at8_drop, show 124 + (i - 124) = i by omega]; exact hne) h.symm
end Go.Proofs.Ytijkiolobmkhhaa

namespace Go.Proofs.Ytijkiolobmkhhaa
open Go Go.Sg
set_option maxRecDepth 100000
set_option maxHeartbeats 8000000
/-! ### Damage, plainly -/
theorem byte_bad' {s : Bs} {i q : Nat} {y : Int} (hl : s.length = 128) (hsB : B8 s) (hgood : goodB s q = true) (hq : q ≤ 4096) (hi : i < 128) (hy : 0 ≤ y ∧ y ≤ 255) (hne : y ≠ at8 s i) : goodB (s.set i y) q = false := by
  obtain ⟨h1, h2, h3, h4⟩ := goodB_pre hgood
  obtain ⟨g0, g1⟩ : 0 < numB (s.take 4) ∧ s = secS (numB (s.take 4)) q (at8 s 10).toNat (pieceS s) := by
    unfold goodB at hgood
    simp only [Bool.and_eq_true, decide_eq_true_eq] at hgood
    exact ⟨hgood.1.2, hgood.2⟩
  have hg : numB (s.take 4) < 4294967296 := numB_lt 4 (s.take 4) (by rw [List.length_take]; omega) (hsB.take 4)
  have hp := pieceS_len hl h1
  have h0 := at8_B8 hsB 10
  have h0' := at8_B8 hsB 11
  have := byte_bad (k := q) (q := q) (i := i) (y := y) (kd := (at8 s 10).toNat) (b := pieceS s) g0 hg hq (by omega) (by omega) ((hsB.drop 12).take _) (fun h => by have := h3 (by omega); omega) (fun h => by have := h4 (by omega); omega) hi hy (by rw [← g1]; exact hne) rfl
  rw [← g1] at this
  exact this
theorem wrR_good {g : Nat} (h0 : 0 < g) (hg : g < 4294967296) : ∀ (m p : Nat) (first : Bool) (r : Bs), (m = 0 ∨ Fit first m r) → ∀ (k : Nat) w, (wrR g p first m r)[k]? = some w → goodB w.data (p + k) = true
  | 0, _, _, _, _, k, w, h => by simp [wrR] at h
  | m + 1, p, first, r, hf, k, w, h => by
    have hf : Fit first (m + 1) r := hf.resolve_left (by omega)
    rw [wrR] at h
    cases k with
    | zero => simp at h; subst h; exact good_pc h0 hg hf
    | succ k =>
      have := wrR_good h0 hg m (p + 1) false (r.drop 112) (by
        cases m with
        | zero => exact .inl rfl
        | succ m => exact .inr (fit_next hf).2) k w (by simpa using h)
      rw [show p + (k + 1) = p + 1 + k by omega]; exact this
theorem wrs_good {g : Nat} (h0 : 0 < g) (hg : g < 4294967296) : ∀ (N : List Bs) (p k : Nat) w, (wrs g p N)[k]? = some w → goodB w.data (p + k) = true
  | [], _, _, w, h => by simp [wrs] at h
  | b :: r, p, k, w, h => by
    rw [wrs] at h
    by_cases hk : k < (wrR g p true (secN b.length) b).length
    · rw [List.getElem?_append_left hk] at h
      exact wrR_good h0 hg _ p true b (.inr (fit_sec b)) k w h
    · rw [List.getElem?_append_right (by omega)] at h
      rw [wrR_len] at h hk
      have := wrs_good h0 hg r _ _ w h
      rw [show p + k = p + secN b.length + (k - secN b.length) by omega]; exact this
/-- The sectors after a sync of records onto a new disk. -/
def dmC (R : List Bs) : List Bs := perf zS (wrs 1 0 R)
theorem dm_sync {R : List Bs} (hR : R ≠ []) (hu : usedN R ≤ 40) : syncJ ⟨R, 40, 0⟩ zD = (⟨R, 40, R.length⟩, ⟨dmC R, [], -1, false⟩, 0) := by
  have hc : chkJ ⟨R, 40, 0⟩ = true := chkJ_iff.2 ⟨by show (1 : Int) ≤ 40; decide, by show (40 : Int) ≤ 4096; decide, by show (0 : Int) ≤ 0; decide, by show (0 : Int) ≤ (R.length : Int); omega, by show ((usedN R : Nat) : Int) ≤ 40; omega⟩
  have hlen : R.length ≠ 0 := fun h => hR (List.eq_nil_of_length_eq_zero h)
  have hold : oldR ⟨R, 40, 0⟩ = [] := rfl
  have hnew : newR ⟨R, 40, 0⟩ = R := rfl
  have hwj : wrJ ⟨R, 40, 0⟩ zD = wrs 1 0 R := by
    unfold wrJ
    rw [hold, hnew, show genL zD.secs = 0 from zn4]; rfl
  have hwo : ∀ w ∈ wrs 1 0 R, (0 ≤ w.pos ∧ w.pos < zD.secs.length) ∧ w.data.length = 128 := fun w hw => by
    have := wrs_ok _ _ _ w hw
    have h40 : zD.secs.length = 40 := rfl
    omega
  have hwd : okD (dW zD (wrs 1 0 R)) = true := dW_ok zn5 (by rw [wrs_len]; omega) hwo
  have hrun : runD (dW zD (wrs 1 0 R)) = true := by unfold runD; rw [hwd]; rfl
  unfold syncJ
  rw [hc, zn5, if_neg (fun h => Bool.noConfusion h), if_neg (fun h => Bool.noConfusion h), if_neg (fun h => Bool.noConfusion h), if_neg (fun h => h rfl), if_neg (show ¬ 0 < zD.pend.length from Nat.lt_irrefl 0), if_neg (fun h => h ⟨zn3.trans hold.symm, by rw [show genL zD.secs = 0 from zn4]; decide⟩), if_neg (show ¬ (0 : Int) = (R.length : Int) by omega), hwj]
  have hsy : syncD (dW zD (wrs 1 0 R)) = (⟨dmC R, [], -1, false⟩, 0) := by
    unfold syncD
    rw [hrun, if_pos rfl, if_neg (by show ¬ (0 : Int) ≤ -1; decide)]
    rfl
  dsimp only
  rw [hsy, if_neg (fun h => h rfl)]
theorem dm_SS {R : List Bs} (hu : usedN R ≤ 40) (hB : ∀ b ∈ R, B8 b) : SS (dmC R) := perf_all (Q := fun b => b.length = 128 ∧ B8 b) _ _ zSS fun w hw => by
  have := wrs_ok _ _ _ w hw
  exact ⟨this.2.2, wrs_B8 _ _ _ hB w hw⟩
theorem dm_len (R : List Bs) : (dmC R).length = 40 := perf_len _ _
/-- What is left of the records when a byte of a sector was changed. -/
theorem dm_bad {R : List Bs} {k i : Nat} {x : Bs} {y : Int} (hu : usedN R ≤ 40) (hB : ∀ b ∈ R, B8 b) (hk : k < usedN R) (hx : (dmC R)[k]? = some x) (hi : i < 128) (hy : 0 ≤ y ∧ y ≤ 255) (hne : y ≠ at8 x i) :
    ∃ A b C, R = A ++ b :: C ∧ usedN A ≤ k ∧ k < usedN A + secN b.length ∧ recB ((dmC R).set k (x.set i y)) = A := by
  have hl : zS.length = 40 := rfl
  obtain ⟨p1, p2⟩ := perf_seq (wrs 1 0 R) 0 zS (wrs_pos 1 R 0) (by rw [wrs_len, Nat.zero_add, hl]; exact hu)
  rw [wrs_len] at p1 p2
  obtain ⟨w, hw⟩ : ∃ w, (wrs 1 0 R)[k]? = some w := ⟨_, List.getElem?_eq_getElem (by rw [wrs_len]; exact hk)⟩
  have hxw : x = w.data := by
    have := p1 k w hk hw
    rw [Nat.zero_add] at this
    have hx : (perf zS (wrs 1 0 R))[k]? = some x := hx
    rw [hx] at this; injection this
  have hgood := wrs_good (by decide) (by decide) R 0 k w hw
  rw [Nat.zero_add, ← hxw] at hgood
  obtain ⟨x1, x2⟩ := dm_SS hu hB x (List.mem_of_getElem? hx)
  have hbad := byte_bad' x1 x2 hgood (by omega) hi hy hne
  obtain ⟨A, b, C, q1, q2, q3, q4⟩ := sync_bad (L := zS) (R := []) (N := R) (g := 1) (j := k) (X := (dmC R).set k (x.set i y)) zSS zn3 (by rw [zn4]) (by decide) (by show 0 + usedN R ≤ 40; omega) (by rw [List.length_set, dm_len]; rfl) hk
    (fun i hi => absurd hi (Nat.not_lt_zero _))
    (fun i v hi hv => by
      show ((dmC R).set k (x.set _ y))[0 + i]? = _
      rw [Nat.zero_add, List.getElem?_set_ne (by omega)]
      have := p1 i v (by omega) hv
      rw [Nat.zero_add] at this; exact this)
    (fun s hs => by
      have hs : ((dmC R).set k (x.set i y))[0 + k]? = some s := hs
      rw [Nat.zero_add, List.getElem?_set_self (by rw [dm_len]; omega)] at hs
      injection hs with hs
      subst hs
      show goodB _ (0 + k) = false
      rw [Nat.zero_add]; exact hbad)
  exact ⟨A, b, C, q1, q2, q3, q4⟩
end Go.Proofs.Ytijkiolobmkhhaa

namespace Go.Proofs.Ytijkiolobmkhhaa
open Go Go.Sg
set_option maxRecDepth 100000
set_option maxHeartbeats 8000000
theorem xor_u8 {c b : Int} (hc : 0 ≤ c ∧ c ≤ 255) (hb : 0 ≤ b ∧ b ≤ 255) (h0 : b ≠ 0) : (0 ≤ bitsI .xor .u8 c b ∧ bitsI .xor .u8 c b ≤ 255) ∧ bitsI .xor .u8 c b ≠ c := by
  obtain ⟨m, rfl⟩ : ∃ m : Nat, c = m := ⟨c.toNat, by omega⟩
  obtain ⟨n, rfl⟩ : ∃ n : Nat, b = n := ⟨b.toNat, by omega⟩
  have e : bitsI .xor .u8 (m : Int) (n : Int) = ((m ^^^ n : Nat) : Int) := bits_xor (k := .u8) rfl (by show m < 256; omega) (by show n < 256; omega)
  have hlt : m ^^^ n < 256 := Nat.xor_lt_two_pow (n := 8) (by omega) (by omega)
  rw [e]
  refine ⟨⟨by omega, by omega⟩, fun h => ?_⟩
  have h1 : m ^^^ n = m := by omega
  have h2 : m ^^^ n = m ^^^ 0 := by rw [h1, Nat.xor_zero]
  have := xor_cancel h2
  omega
def dmK (sec : Int) (U : Nat) : Int := IntKind.i64.wrap ((IntKind.u64.wrap sec).tmod (IntKind.u64.wrap (U : Int)))
def dmA (pl : Int) : Int := (IntKind.u64.wrap pl).tmod 128
theorem dmA_ok (pl : Int) : 0 ≤ dmA pl ∧ dmA pl < 128 := by
  unfold dmA
  have : 0 ≤ IntKind.u64.wrap pl := by rw [wrap_u64]; omega
  rw [Int.tmod_eq_emod_of_nonneg this]; omega
theorem dmU {U : Nat} (h : U ≤ 40) : IntKind.u64.wrap (U : Int) = U := by rw [wrap_u64]; omega
theorem dmK_ok (sec : Int) {U : Nat} (h0 : 0 < U) (h : U ≤ 40) : 0 ≤ dmK sec U ∧ dmK sec U < U := by
  unfold dmK
  have h1 : 0 ≤ IntKind.u64.wrap sec := by rw [wrap_u64]; omega
  rw [dmU h, Int.tmod_eq_emod_of_nonneg h1]
  have h2 := Int.emod_nonneg (IntKind.u64.wrap sec) (show (U : Int) ≠ 0 by omega)
  have h3 := Int.emod_lt_of_pos (IntKind.u64.wrap sec) (show (0 : Int) < U by omega)
  rw [wrap_i64 (by omega) (by omega)]
  exact ⟨h2, h3⟩
/-- What damage leads to. -/
theorem dm_facts {R : List Bs} (sec pl by_ : Int) (hR : R ≠ []) (hu : usedN R ≤ 40) (hB : ∀ b ∈ R, B8 b) (hby : 0 ≤ by_ ∧ by_ ≤ 255) (h0 : by_ ≠ 0) :
    ∃ (x : Bs) (c : Int) (A : List Bs), (dmC R)[(dmK sec (usedN R)).toNat]? = some x ∧ (x.length = 128 ∧ B8 x) ∧ x[0 + (dmA pl).toNat]? = some c ∧
      writeD ⟨dmC R, [], -1, false⟩ (dmK sec (usedN R)) (x.set (dmA pl).toNat (bitsI .xor .u8 c by_)) = (⟨dmC R, [⟨dmK sec (usedN R), x.set (dmA pl).toNat (bitsI .xor .u8 c by_)⟩], -1, false⟩, 0) ∧
      syncD ⟨dmC R, [⟨dmK sec (usedN R), x.set (dmA pl).toNat (bitsI .xor .u8 c by_)⟩], -1, false⟩ = (⟨(dmC R).set (dmK sec (usedN R)).toNat (x.set (dmA pl).toNat (bitsI .xor .u8 c by_)), [], -1, false⟩, 0) ∧
      SS ((dmC R).set (dmK sec (usedN R)).toNat (x.set (dmA pl).toNat (bitsI .xor .u8 c by_))) ∧
      openJ ⟨(dmC R).set (dmK sec (usedN R)).toNat (x.set (dmA pl).toNat (bitsI .xor .u8 c by_)), [], -1, false⟩ = (⟨A, 40, A.length⟩, 0) ∧
      A.length < R.length ∧ A = R.take A.length ∧ (∀ i, i < A.length → ((usedN (R.take (i + 1)) : Nat) : Int) ≤ dmK sec (usedN R)) ∧ dmK sec (usedN R) < ((usedN (R.take (A.length + 1)) : Nat) : Int) := by
  have hU : 0 < usedN R := by
    cases R with
    | nil => exact absurd rfl hR
    | cons b r => rw [usedN_cons]; have := secN_pos b.length; omega
  obtain ⟨k1, k2⟩ := dmK_ok sec hU hu
  obtain ⟨a1, a2⟩ := dmA_ok pl
  generalize dmK sec (usedN R) = K at *
  generalize dmA pl = a at *
  obtain ⟨k, rfl⟩ : ∃ k : Nat, K = k := ⟨K.toNat, by omega⟩
  have hk : k < usedN R := by omega
  have hl := dm_len R
  have hSS := dm_SS hu hB
  rw [Int.toNat_natCast]
  obtain ⟨x, hx⟩ : ∃ x, (dmC R)[k]? = some x := ⟨_, List.getElem?_eq_getElem (by omega)⟩
  obtain ⟨x1, x2⟩ := hSS x (List.mem_of_getElem? hx)
  have hc := at8_get (s := x) (i := a.toNat) (by omega)
  have hcb := at8_B8 x2 a.toNat
  obtain ⟨y1, y2⟩ := xor_u8 hcb hby h0
  generalize hy : bitsI .xor .u8 (at8 x a.toNat) by_ = y at *
  obtain ⟨A, b, C, q1, q2, q3, q4⟩ := dm_bad hu hB hk hx (show a.toNat < 128 by omega) y1 y2
  have hxl : (x.set a.toNat y).length = 128 := by rw [List.length_set]; exact x1
  have hxB : B8 (x.set a.toNat y) := fun c hc => by
    rcases List.mem_or_eq_of_mem_set hc with h | h
    · exact x2 c h
    · subst h; exact y1
  have hd0 : okD ⟨dmC R, [], -1, false⟩ = true := okD_in (by rw [hl]; decide) (by rw [hl]; decide) (by simp) (show (-1 : Int) ≤ -1 by decide) (show (-1 : Int) ≤ 65536 by decide) (by simp) (fun s hs => (hSS s hs).1)
  have hwr := dW_write (P := []) hd0 (p := k) (b := x.set a.toNat y) (by decide) (by simp) (by show k < (dmC R).length; omega) hxl
  have hd1 := dW_ok hd0 (P := [⟨(k : Int), x.set a.toNat y⟩]) (show 1 ≤ 4096 by decide) (fun w hw => by
    rw [List.mem_singleton.1 hw]
    exact ⟨⟨by omega, by show (k : Int) < ((dmC R).length : Int); omega⟩, hxl⟩)
  have hrun : runD ⟨dmC R, [⟨(k : Int), x.set a.toNat y⟩], -1, false⟩ = true := by
    unfold runD
    rw [show okD ⟨dmC R, [⟨(k : Int), x.set a.toNat y⟩], -1, false⟩ = true from hd1]; rfl
  have hS2 : SS ((dmC R).set k (x.set a.toNat y)) := fun s hs => by
    rcases List.mem_or_eq_of_mem_set hs with h | h
    · exact hSS s h
    · subst h; exact ⟨hxl, hxB⟩
  have hl2 : ((dmC R).set k (x.set a.toNat y)).length = 40 := by rw [List.length_set]; exact hl
  have hd2 : okD ⟨(dmC R).set k (x.set a.toNat y), [], -1, false⟩ = true := okD_in (by rw [hl2]; decide) (by rw [hl2]; decide) (by simp) (show (-1 : Int) ≤ -1 by decide) (show (-1 : Int) ≤ 65536 by decide) (by simp) (fun s hs => (hS2 s hs).1)
  refine ⟨x, at8 x a.toNat, A, hx, ⟨x1, x2⟩, by rw [Nat.zero_add]; exact hc, ?_⟩
  rw [hy]
  have hAt : A = R.take A.length := by rw [q1, List.take_left' rfl]
  refine ⟨hwr, ?_, hS2, ?_, by rw [q1, List.length_append, List.length_cons]; omega, hAt, fun i hi => ?_, ?_⟩
  · unfold syncD
    rw [hrun, if_pos rfl, if_neg (by show ¬ (0 : Int) ≤ -1; decide)]
    rfl
  · have := openJ_good hd2 q4
    rw [hl2] at this; exact this
  · have h1 : R.take (i + 1) = A.take (i + 1) := by rw [q1, List.take_append_of_le_length (by omega)]
    have h2 := usedN_takeLe A (i + 1)
    rw [h1]; omega
  · have h1 : R.take (A.length + 1) = A ++ [b] := by rw [q1, List.take_append, List.take_of_length_le (by omega), show A.length + 1 - A.length = 1 by omega]; rfl
    rw [h1, usedN_app, usedN_cons]; omega
end Go.Proofs.Ytijkiolobmkhhaa

namespace Go.Proofs.Ytijkiolobmkhhaa
open Go Go.Sg
set_option maxRecDepth 100000
set_option maxHeartbeats 40000000
/-- Where the records end. -/
def En (R : List Bs) (k : Nat) : List PV := (List.range k).map fun i => eI (usedN (R.take (i + 1)))
theorem En_succ (R : List Bs) (k : Nat) : En R (k + 1) = En R k ++ [eI (usedN (R.take (k + 1)))] := by unfold En; rw [List.range_succ, List.map_append]; rfl
theorem En_len (R : List Bs) (k : Nat) : (En R k).length = k := by unfold En; rw [List.length_map, List.length_range]
theorem En_get {R : List Bs} {k i : Nat} (h : i < k) : (En R k)[i]? = some (eI (usedN (R.take (i + 1)))) := by unfold En; rw [List.getElem?_map, List.getElem?_range h]; rfl
def enV (n : Nat) : List PV → AV
  | [] => .p (.sl 0 true [])
  | _ :: r => .rsl n 1 0 (r.length + 1)
def enH (n : Nat) : List PV → Heap
  | [] => []
  | a :: r => [(n, .row 1 (a :: r))]
theorem zn7 : syncJ zJ zD = (zJ, zD, 0) := by kernel_rfl
theorem damage_calls (R0 : List Bs) (sec pl by_ : Int) (h0 : ∀ b ∈ R0, B8 b) (hz : szL R0 ≤ 1048576) (hby : 0 ≤ by_ ∧ by_ ≤ 255) : PCalls Try.prog 7 [eS R0, eI sec, eI pl, .int .u8 by_] (.bool true) := by
  have hlz := szL_len R0
  have hlm : (R0.map eB).length = R0.length := List.length_map _
  have c1 := new_calls 40
  rw [zn1] at c1
  have c2 := open_calls zD (by decide) (by decide) (fun s hs => (zSS s hs).2)
  rw [zn2] at c2
  have f := few5_calls zD R0 (by omega)
  have ef : fewJ zD R0 = decide (szL R0 ≤ 4000) := by
    unfold fewJ
    exact decide_eq_decide.2 ⟨fun h => h.2.2, fun h => ⟨by decide, by decide, h⟩⟩
  rw [ef] at f
  by_cases hz4 : szL R0 ≤ 4000
  · rw [decide_eq_true hz4] at f
    by_cases hne : R0.length = 0
    · have hne' : ((R0.map eB).length : Int) = 0 := by omega
      refine PCalls.of (N := 211) (res := [.tmp 8]) mixed Try.func7 rfl rfl rfl (by kernel_rfl) (by simp) [0, 1, 2, 3, 8, 9, 10, 11, 12, 13, 15, 16, 17, 18, 20, 21, 22, 23, 24, 25, 26, 27, 29, 50, 59, 60, 61, 62, 63, 73, 82, 109, 144, 189] ?_
      repeat' (first | exact cl1 | ((with_reducible show Exists _); refine exU8 ?_) | ((with_reducible show callX _ _ _ _ _); (first | refine call_p (sane_calls) (by kernel_rfl) rfl ?_ | refine call_p (c1) (by kernel_rfl) rfl ?_ | refine call_p (c2) (by kernel_rfl) rfl ?_ | refine call_p (f) (by kernel_rfl) rfl ?_)) | ((fail_if_success with_reducible first | show LeG _ _ | show Lp _ _ _ _ | show Exists _ | show callX _ _ _ _ _ | show (_ : Int) ≤ _ | show (_ : Int) < _ | show (_ : Nat) ≤ _ | show (_ : Nat) < _); (conv => whnf) <;> (first | exact cl2 | refine Br.dec (fun hc => ?_) (fun hc => absurd hne' hc) | refine XAlt.l ?_ | refine Sq.pr ?_ | refine Br.dec (fun hc => ?_) (fun hc => ?_) | refine Br.tt ?_ | refine Br.ff ?_ | refine Br.not ?_ | refine Br.mk (fun hc => ?_) (fun hc => ?_) | refine Opt.nn ?_ | refine Opt.ss ?_ | refine AltA.l ?_ | exact PV.leL_nil | refine PV.leL_cons ?_ ?_ | refine And.intro ?_ ?_ | refine ix_map (fun x hx => ?_) | refine exU8 ?_ | refine nilc (fun hn => ?_) ?_ | exact cl3 | refine imp0 (fun hpos => ?_) | refine fits_i64 ?_ ?_ | exact rfl | (with_reducible first | show LeG _ _ | show Lp _ _ _ _ | show Exists _ | show callX _ _ _ _ _)))) <;> (try exact cl5)
      all_goals exact LeG.of (congrArg PV.bool (decide_eq_true rfl))
    have hne' : ¬ ((R0.map eB).length : Int) = 0 := by omega
    by_cases hb0 : by_ = 0
    · refine PCalls.of (N := 211) (res := [.tmp 8]) mixed Try.func7 rfl rfl rfl (by kernel_rfl) (by simp) [0, 1, 2, 3, 8, 9, 10, 11, 12, 13, 15, 16, 17, 18, 20, 21, 22, 23, 24, 25, 26, 27, 29, 50, 59, 60, 61, 62, 63, 73, 82, 109, 144, 189] ?_
      repeat' (first | exact cl1 | ((with_reducible show Exists _); refine exU8 ?_) | ((with_reducible show callX _ _ _ _ _); (first | refine call_p (sane_calls) (by kernel_rfl) rfl ?_ | refine call_p (c1) (by kernel_rfl) rfl ?_ | refine call_p (c2) (by kernel_rfl) rfl ?_ | refine call_p (f) (by kernel_rfl) rfl ?_)) | ((fail_if_success with_reducible first | show LeG _ _ | show Lp _ _ _ _ | show Exists _ | show callX _ _ _ _ _ | show (_ : Int) ≤ _ | show (_ : Int) < _ | show (_ : Nat) ≤ _ | show (_ : Nat) < _); (conv => whnf) <;> (first | exact cl2 | refine Br.dec (fun hc => absurd hc hne') (fun hc => ?_) | refine Br.dec (fun hc => ?_) (fun hc => absurd hb0 hc) | refine XAlt.l ?_ | refine Sq.pr ?_ | refine Br.dec (fun hc => ?_) (fun hc => ?_) | refine Br.tt ?_ | refine Br.ff ?_ | refine Br.not ?_ | refine Br.mk (fun hc => ?_) (fun hc => ?_) | refine Opt.nn ?_ | refine Opt.ss ?_ | refine AltA.l ?_ | exact PV.leL_nil | refine PV.leL_cons ?_ ?_ | refine And.intro ?_ ?_ | refine ix_map (fun x hx => ?_) | refine exU8 ?_ | refine nilc (fun hn => ?_) ?_ | exact cl3 | refine imp0 (fun hpos => ?_) | refine fits_i64 ?_ ?_ | exact rfl | (with_reducible first | show LeG _ _ | show Lp _ _ _ _ | show Exists _ | show callX _ _ _ _ _)))) <;> (try exact cl5)
      all_goals exact LeG.of (congrArg PV.bool (decide_eq_true rfl))
    refine PCalls.of (N := 211) (res := [.tmp 8]) mixed Try.func7 rfl rfl rfl (by kernel_rfl) (by simp) [0, 1, 2, 3, 8, 9, 10, 11, 12, 13, 15, 16, 17, 18, 20, 21, 22, 23, 24, 25, 26, 27, 29, 50, 59, 60, 61, 62, 63, 73, 82, 109, 144, 189] ?_
    repeat' (first | exact cl1 | ((with_reducible show Exists _); refine exU8 ?_) | ((with_reducible show callX _ _ _ _ _); (first | refine call_p (sane_calls) (by kernel_rfl) rfl ?_ | refine call_p (c1) (by kernel_rfl) rfl ?_ | refine call_p (c2) (by kernel_rfl) rfl ?_ | refine call_p (f) (by kernel_rfl) rfl ?_)) | ((fail_if_success with_reducible first | show LeG _ _ | show Lp _ _ _ _ | show Exists _ | show callX _ _ _ _ _ | show (_ : Int) ≤ _ | show (_ : Int) < _ | show (_ : Nat) ≤ _ | show (_ : Nat) < _); (conv => whnf) <;> (first | exact cl2 | refine Br.dec (fun hc => absurd hc hne') (fun hc => ?_) | refine Br.dec (fun hc => absurd hc hb0) (fun hc => ?_) | refine XAlt.l ?_ | refine Sq.pr ?_ | refine Br.dec (fun hc => ?_) (fun hc => ?_) | refine Br.tt ?_ | refine Br.ff ?_ | refine Br.not ?_ | refine Br.mk (fun hc => ?_) (fun hc => ?_) | refine Opt.nn ?_ | refine Opt.ss ?_ | refine AltA.l ?_ | exact PV.leL_nil | refine PV.leL_cons ?_ ?_ | refine And.intro ?_ ?_ | refine ix_map (fun x hx => ?_) | refine exU8 ?_ | refine nilc (fun hn => ?_) ?_ | exact cl3 | refine imp0 (fun hpos => ?_) | refine fits_i64 ?_ ?_ | exact rfl | (with_reducible first | show LeG _ _ | show Lp _ _ _ _ | show Exists _ | show callX _ _ _ _ _)))) <;> (try exact cl5)
    refine Wpc.loopA (α := {k : Nat // k ≤ R0.length ∧ usedN (R0.take k) ≤ 40}) mixed [0, 1, 2, 3, 8, 9, 10, 11, 12, 13, 15, 16, 17, 18, 20, 21, 22, 23, 24, 25, 26, 27, 29, 50, 59, 60, 61, 62, 63, 73, 82, 109, 144, 189] (fun k => [(13, enV 1 (En R0 k.1)), (62, .p (eI k.1))]) (fun k => [(2048, .cells [.p (eS (R0.take k.1)), .p (eI 40), .p (eI 0)])] ++ enH 1 (En R0 k.1)) (fun _ => 0) (fun k => R0.length - k.1) ⟨0, Nat.zero_le _, Nat.zero_le _⟩ ?_ ?_
    · (first | refine Ent.ofA [] ?_ | refine Ent.ofC [] ?_) <;> (repeat' (first | exact trivial | refine HpLe.dd ?_ | refine HpLe.mk rfl (by simp) rfl (fun h => AObj.noConfusion h) ?_ ?_ | refine And.intro ?_ ?_ | exact cl9 | refine VLe.pe ?_ | refine VLe.agg ?_ | refine VLe.tup ?_ | refine VLe.fn ?_ ?_ | refine VLeL.cons ?_ ?_ | exact VLeL.nil | exact OLe.row _ _ | rfl | refine VLe.rsle rfl ?_ ?_ ?_ | refine OLe.rowe2 ?_ ?_ | refine OLe.mape ?_ ?_ | refine OLe.iter0 ?_ | refine OLe.itere ?_ ?_)) <;> try (first | (simp; done) | (congr 1; omega) | (congr 1; (first | (simp; done) | (simp; omega))))
    rintro ⟨k, hk, hu⟩
    have hk : k ≤ R0.length := hk
    have hu : usedN (R0.take k) ≤ 40 := hu
    have hzt := szL_takeLe R0 k
    have hElen := En_len R0 k
    have htl : (R0.take k).length = k := by rw [List.length_take]; omega
    have hk40 : k ≤ 40 := by have := usedN_ge (R0.take k); omega
    have hck : chkJ ⟨R0.take k, 40, 0⟩ = true := chkJ_iff.2 ⟨by show (1 : Int) ≤ 40; decide, by show (40 : Int) ≤ 4096; decide, by show (0 : Int) ≤ 0; decide, by show (0 : Int) ≤ ((R0.take k).length : Int); omega, by show ((usedN (R0.take k) : Nat) : Int) ≤ 40; omega⟩
    cases hxk : R0[k]? with
    | none =>
      have hno : ¬ ((k : Int) < ((R0.map eB).length : Int)) := by have := List.getElem?_eq_none_iff.1 hxk; omega
      cases hE : En R0 k with
      | nil =>
        have hk0 : k = 0 := by rw [hE] at hElen; exact hElen.symm
        subst hk0
        have sy := jsync_calls zJ zD (by decide) (fun b hb => by cases hb) (by decide) (by decide) (fun s hs => (zSS s hs).2)
        rw [zn7] at sy
        repeat' (first | exact cl1 | ((with_reducible show Exists _); refine exU8 ?_) | ((with_reducible show callX _ _ _ _ _); (first | refine call_p (sy) (by kernel_rfl) rfl ?_)) | ((fail_if_success with_reducible first | show LeG _ _ | show Lp _ _ _ _ | show Exists _ | show callX _ _ _ _ _ | show (_ : Int) ≤ _ | show (_ : Int) < _ | show (_ : Nat) ≤ _ | show (_ : Nat) < _); (conv => whnf) <;> (first | exact cl2 | refine Br.dec (fun hc => absurd hc hno) (fun hc => ?_) | refine XAlt.l ?_ | refine Sq.pr ?_ | refine Br.dec (fun hc => ?_) (fun hc => ?_) | refine Br.tt ?_ | refine Br.ff ?_ | refine Br.not ?_ | refine Br.mk (fun hc => ?_) (fun hc => ?_) | refine Opt.nn ?_ | refine Opt.ss ?_ | refine AltA.l ?_ | exact PV.leL_nil | refine PV.leL_cons ?_ ?_ | refine And.intro ?_ ?_ | refine ix_map (fun x hx => ?_) | refine exU8 ?_ | refine nilc (fun hn => ?_) ?_ | exact cl3 | refine imp0 (fun hpos => ?_) | refine fits_i64 ?_ ?_ | exact rfl | (with_reducible first | show LeG _ _ | show Lp _ _ _ _ | show Exists _ | show callX _ _ _ _ _)))) <;> (try exact cl5)
      | cons e0 er =>
        have her : er.length + 1 = k := by rw [hE] at hElen; exact hElen
        have hRB : ∀ b ∈ R0.take k, B8 b := fun b hb => h0 b (List.mem_of_mem_take hb)
        have hRn : R0.take k ≠ [] := fun h => by rw [h] at htl; exact absurd htl (by show ¬ 0 = k; omega)
        have sy := jsync_calls ⟨R0.take k, 40, 0⟩ zD (by show szL (R0.take k) ≤ _; omega) hRB (by decide) (by decide) (fun s hs => (zSS s hs).2)
        rw [dm_sync hRn hu] at sy
        have hlast : (e0 :: er)[0 + ((((er.length + 1 : Nat) : Int) - 1).toNat)]? = some (eI (usedN (R0.take k))) := by
          rw [← hE, show 0 + ((((er.length + 1 : Nat) : Int) - 1).toNat) = k - 1 by omega, En_get (by omega), show k - 1 + 1 = k by omega]
        obtain ⟨x, c, A, d1, ⟨d2, d3⟩, d4, d5, d6, d7, d8, d9, d10, d11, d12⟩ := dm_facts sec pl by_ hRn hu hRB hby hb0
        have hUp : 0 < usedN (R0.take k) := by
          have := usedN_ge (R0.take k); omega
        have s1 : 0 ≤ IntKind.i64.wrap ((IntKind.u64.wrap sec).tmod (IntKind.u64.wrap ((usedN (R0.take k) : Nat) : Int))) ∧ IntKind.i64.wrap ((IntKind.u64.wrap sec).tmod (IntKind.u64.wrap ((usedN (R0.take k) : Nat) : Int))) < ((usedN (R0.take k) : Nat) : Int) := dmK_ok sec hUp hu
        have s2 : 0 ≤ (IntKind.u64.wrap pl).tmod 128 ∧ (IntKind.u64.wrap pl).tmod 128 < 128 := dmA_ok pl
        have s3 : IntKind.u64.wrap ((usedN (R0.take k) : Nat) : Int) ≠ 0 := by rw [dmU hu]; omega
        have hmc : ((dmC (R0.take k)).map eB).length = 40 := by rw [List.length_map, dm_len]
        have hmx : (x.map (PV.int .u8)).length = 128 := by rw [List.length_map, d2]
        have hmr : ((R0.take k).map eB).length = k := by rw [List.length_map, htl]
        have hxy : (x.set (dmA pl).toNat (bitsI .xor .u8 c by_)).length = 128 := by rw [List.length_set, d2]
        have ex : eB (x.set (dmA pl).toNat (bitsI .xor .u8 c by_)) = .sl 1 false (List.take (0 + (x.map (PV.int .u8)).length) (List.drop 0 (([] ++ x.map (PV.int .u8)).set (0 + (dmA pl).toNat) (PV.int .u8 (bitsI .xor .u8 c by_))))) := by
          show PV.sl 1 false _ = PV.sl 1 false _
          rw [List.drop_zero, List.nil_append, Nat.zero_add, Nat.zero_add, List.map_set, List.take_of_length_le (by rw [List.length_set]; exact Nat.le_refl _)]
        have wk := write_calls ⟨dmC (R0.take k), [], -1, false⟩ (dmK sec (usedN (R0.take k))) (x.set (dmA pl).toNat (bitsI .xor .u8 c by_)) (by show (dmC (R0.take k)).length < _; rw [dm_len]; decide) (show (0 : Nat) < 1000000 by decide) (by rw [hxy]; decide)
        rw [d5, ex] at wk
        have sk := sync_calls ⟨dmC (R0.take k), [⟨dmK sec (usedN (R0.take k)), x.set (dmA pl).toNat (bitsI .xor .u8 c by_)⟩], -1, false⟩ (by show (dmC (R0.take k)).length < _; rw [dm_len]; decide) (show (1 : Nat) < 1000000 by decide)
        rw [d6] at sk
        have ok := open_calls ⟨(dmC (R0.take k)).set (dmK sec (usedN (R0.take k))).toNat (x.set (dmA pl).toNat (bitsI .xor .u8 c by_)), [], -1, false⟩ (by show ((dmC (R0.take k)).set _ _).length < _; rw [List.length_set, dm_len]; decide) (show (0 : Nat) < 1000000 by decide) (fun s hs => (d7 s hs).2)
        rw [d8] at ok
        have hAB : ∀ b ∈ A, B8 b := fun b hb => hRB b (by rw [d10] at hb; exact List.mem_of_mem_take hb)
        have sm := sameR_self' A (by omega) hAB
        have es : eS A = .sl 1 false (List.drop (Int.toNat 0) (List.take (Int.toNat ((A.length : Nat) : Int)) ((R0.take k).map eB))) := by
          show PV.sl 1 false _ = PV.sl 1 false _
          rw [show Int.toNat 0 = 0 from rfl, List.drop_zero, Int.toNat_natCast, ← List.map_take, ← d10]
        have sm : PCalls Try.prog 24 [eS A, .sl 1 false (List.drop (Int.toNat 0) (List.take (Int.toNat ((A.length : Nat) : Int)) ((R0.take k).map eB)))] (.bool true) := by rw [← es]; exact sm
        have hEg : ∀ w : Nat, w < k → (e0 :: er)[0 + ((w : Int)).toNat]? = some (eI (usedN ((R0.take k).take (w + 1)))) := fun w hw => by
          rw [← hE, Nat.zero_add, Int.toNat_natCast, En_get hw, List.take_take, Nat.min_eq_left (by omega)]
        repeat' (first | exact cl1 | ((with_reducible show Exists _); refine exU8 ?_) | ((with_reducible show callX _ _ _ _ _); (first | refine call_p (sy) (by kernel_rfl) rfl ?_ | (refine call_z (wk) (by kernel_rfl) rfl ?_; (repeat' (first | exact PV.leL_nil | refine PV.leL_cons ?_ ?_ | refine And.intro ?_ ?_ | exact Nat.zero_lt_succ _ | exact Nat.le_of_ble_eq_true rfl | exact PV.le_refl _ | exact PV.le_nil _ _ _ | exact PV.le_clip _ _ _ | refine PV.le_agg ?_ | refine PV.le_tup ?_ | rfl)); fail_if_success (any_goals (refine PV.le_of ?_))) | refine call_p (sk) (by kernel_rfl) rfl ?_ | refine call_p (ok) (by kernel_rfl) rfl ?_)) | ((fail_if_success with_reducible first | show LeG _ _ | show Lp _ _ _ _ | show Exists _ | show callX _ _ _ _ _ | show (_ : Int) ≤ _ | show (_ : Int) < _ | show (_ : Nat) ≤ _ | show (_ : Nat) < _); (conv => whnf) <;> (first | exact cl2 | refine Br.dec (fun hc => absurd hc hno) (fun hc => ?_) | refine ix_b d1 ?_ | refine ix_c d4 ?_ | refine ix_q hlast ?_ | refine XAlt.l ?_ | refine Sq.pr ?_ | refine Br.dec (fun hc => ?_) (fun hc => ?_) | refine Br.tt ?_ | refine Br.ff ?_ | refine Br.not ?_ | refine Br.mk (fun hc => ?_) (fun hc => ?_) | refine Opt.nn ?_ | refine Opt.ss ?_ | refine AltA.l ?_ | exact PV.leL_nil | refine PV.leL_cons ?_ ?_ | refine And.intro ?_ ?_ | refine ix_map (fun x hx => ?_) | refine exU8 ?_ | refine nilc (fun hn => ?_) ?_ | exact cl3 | refine imp0 (fun hpos => ?_) | refine fits_i64 ?_ ?_ | exact rfl | (with_reducible first | show LeG _ _ | show Lp _ _ _ _ | show Exists _ | show callX _ _ _ _ _)))) <;> (try exact cl5)
        all_goals first
        | exact s3
        | (exfalso
           have hc' : (((dmC (R0.take k)).map eB).length : Int) ≤ IntKind.i64.wrap ((IntKind.u64.wrap sec).tmod (IntKind.u64.wrap ((usedN (R0.take k) : Nat) : Int))) := hc
           omega)
        | (exfalso
           have hc' : (((R0.take k).map eB).length : Int) < ((er.length + 1 : Nat) : Int) := hc
           omega)
        | skip
        all_goals
          refine Wpc.loopA (α := {w : Nat // w ≤ A.length}) mixed [0, 1, 2, 3, 8, 9, 10, 11, 12, 13, 15, 16, 17, 18, 20, 21, 22, 23, 24, 25, 26, 27, 29, 50, 59, 60, 61, 62, 63, 73, 82, 109, 144, 189] (fun w => [(27, .p (eI w.1))]) (fun _ => [(3136, .dead)]) (fun _ => 0) (fun w => A.length - w.1) ⟨0, Nat.zero_le _⟩ ?_ ?_
          · (first | refine Ent.ofA [] ?_ | refine Ent.ofC [] ?_) <;> (repeat' (first | exact trivial | refine HpLe.dd ?_ | refine HpLe.mk rfl (by simp) rfl (fun h => AObj.noConfusion h) ?_ ?_ | refine And.intro ?_ ?_ | exact cl9 | refine VLe.pe ?_ | refine VLe.agg ?_ | refine VLe.tup ?_ | refine VLe.fn ?_ ?_ | refine VLeL.cons ?_ ?_ | exact VLeL.nil | exact OLe.row _ _ | rfl | refine VLe.rsle rfl ?_ ?_ ?_ | refine OLe.rowe2 ?_ ?_ | refine OLe.mape ?_ ?_ | refine OLe.iter0 ?_ | refine OLe.itere ?_ ?_)) <;> try (first | (simp; done) | (congr 1; omega) | (congr 1; (first | (simp; done) | (simp; omega))))
          rintro ⟨w, hw⟩
          have hw : w ≤ A.length := hw
          have hwk : w < k := by omega
          have hy1 : (w : Int) < ((er.length + 1 : Nat) : Int) := by omega
          have hew := hEg w hwk
          by_cases hlt : w < A.length
          · have hy2 : ((usedN ((R0.take k).take (w + 1)) : Nat) : Int) ≤ IntKind.i64.wrap ((IntKind.u64.wrap sec).tmod (IntKind.u64.wrap ((usedN (R0.take k) : Nat) : Int))) := d11 w hlt
            repeat' (first | exact cl1 | ((with_reducible show Exists _); refine exU8 ?_) | ((fail_if_success with_reducible first | show LeG _ _ | show Lp _ _ _ _ | show Exists _ | show callX _ _ _ _ _ | show (_ : Int) ≤ _ | show (_ : Int) < _ | show (_ : Nat) ≤ _ | show (_ : Nat) < _); (conv => whnf) <;> (first | exact cl2 | refine ix_q hew ?_ | refine Br.dec (fun hc => ?_) (fun hc => absurd hy2 hc) | refine Br.dec (fun hc => ?_) (fun hc => absurd hy1 hc) | refine XAlt.l ?_ | refine Sq.pr ?_ | refine Br.dec (fun hc => ?_) (fun hc => ?_) | refine Br.tt ?_ | refine Br.ff ?_ | refine Br.not ?_ | refine Br.mk (fun hc => ?_) (fun hc => ?_) | refine Opt.nn ?_ | refine Opt.ss ?_ | refine AltA.l ?_ | exact PV.leL_nil | refine PV.leL_cons ?_ ?_ | refine And.intro ?_ ?_ | refine ix_map (fun x hx => ?_) | refine exU8 ?_ | refine nilc (fun hn => ?_) ?_ | exact cl3 | refine imp0 (fun hpos => ?_) | refine fits_i64 ?_ ?_ | exact rfl | (with_reducible first | show LeG _ _ | show Lp _ _ _ _ | show Exists _ | show callX _ _ _ _ _)))) <;> (try exact cl5)
            all_goals
              refine ⟨⟨w + 1, hlt⟩, by show A.length - (w + 1) < A.length - w; omega, ?_⟩
              (first | refine Ent.ofA [] ?_ | refine Ent.ofC [] ?_) <;> (repeat' (first | exact trivial | refine HpLe.dd ?_ | refine HpLe.mk rfl (by simp) rfl (fun h => AObj.noConfusion h) ?_ ?_ | refine And.intro ?_ ?_ | exact cl9 | refine VLe.pe ?_ | refine VLe.agg ?_ | refine VLe.tup ?_ | refine VLe.fn ?_ ?_ | refine VLeL.cons ?_ ?_ | exact VLeL.nil | exact OLe.row _ _ | rfl | refine VLe.rsle rfl ?_ ?_ ?_ | refine OLe.rowe2 ?_ ?_ | refine OLe.mape ?_ ?_ | refine OLe.iter0 ?_ | refine OLe.itere ?_ ?_)) <;> try (first | (simp; done) | (congr 1; omega) | (congr 1; (first | (simp; done) | (simp; omega))))
          · have hwA : w = A.length := by omega
            subst hwA
            have hy2 : ¬ ((usedN ((R0.take k).take (A.length + 1)) : Nat) : Int) ≤ IntKind.i64.wrap ((IntKind.u64.wrap sec).tmod (IntKind.u64.wrap ((usedN (R0.take k) : Nat) : Int))) := fun h => by
              have h2 : IntKind.i64.wrap ((IntKind.u64.wrap sec).tmod (IntKind.u64.wrap ((usedN (R0.take k) : Nat) : Int))) < ((usedN ((R0.take k).take (A.length + 1)) : Nat) : Int) := d12
              omega
            repeat' (first | exact cl1 | ((with_reducible show Exists _); refine exU8 ?_) | ((with_reducible show callX _ _ _ _ _); (first | refine call_p (sm) (by kernel_rfl) rfl ?_)) | ((fail_if_success with_reducible first | show LeG _ _ | show Lp _ _ _ _ | show Exists _ | show callX _ _ _ _ _ | show (_ : Int) ≤ _ | show (_ : Int) < _ | show (_ : Nat) ≤ _ | show (_ : Nat) < _); (conv => whnf) <;> (first | exact cl2 | refine ix_q hew ?_ | refine Br.dec (fun hc => absurd hc hy2) (fun hc => ?_) | refine Br.dec (fun hc => ?_) (fun hc => absurd hy1 hc) | refine XAlt.l ?_ | refine Sq.pr ?_ | refine Br.dec (fun hc => ?_) (fun hc => ?_) | refine Br.tt ?_ | refine Br.ff ?_ | refine Br.not ?_ | refine Br.mk (fun hc => ?_) (fun hc => ?_) | refine Opt.nn ?_ | refine Opt.ss ?_ | refine AltA.l ?_ | exact PV.leL_nil | refine PV.leL_cons ?_ ?_ | refine And.intro ?_ ?_ | refine ix_map (fun x hx => ?_) | refine exU8 ?_ | refine nilc (fun hn => ?_) ?_ | exact cl3 | refine imp0 (fun hpos => ?_) | refine fits_i64 ?_ ?_ | exact rfl | (with_reducible first | show LeG _ _ | show Lp _ _ _ _ | show Exists _ | show callX _ _ _ _ _)))) <;> (try exact cl5)
    | some b =>
      have hltk : k < R0.length := (List.getElem?_eq_some_iff.1 hxk).1
      have hyes : ((k : Int) < ((R0.map eB).length : Int)) := by omega
      have hbz := szL_mem (List.mem_of_getElem? hxk)
      have ap := append_calls ⟨R0.take k, 40, 0⟩ b (by show szL (R0.take k) ≤ _; omega) (by omega)
      unfold appJ at ap
      rw [hck, if_pos rfl] at ap
      have hut := usedN_take hxk
      have hmb : (b.map (PV.int .u8)).length = b.length := List.length_map _
      by_cases hf : (40 : Int) - ((usedN (R0.take k) : Nat) : Int) < ((secN b.length : Nat) : Int)
      · rw [if_pos hf] at ap
        cases hE : En R0 k with
        | nil =>
          have hk0 : k = 0 := by rw [hE] at hElen; exact hElen.symm
          subst hk0
          have sy := jsync_calls zJ zD (by decide) (fun b hb => by cases hb) (by decide) (by decide) (fun s hs => (zSS s hs).2)
          rw [zn7] at sy
          repeat' (first | exact cl1 | ((with_reducible show Exists _); refine exU8 ?_) | ((with_reducible show callX _ _ _ _ _); (first | refine call_p (sy) (by kernel_rfl) rfl ?_ | refine call_p (ap) (by kernel_rfl) rfl ?_)) | ((fail_if_success with_reducible first | show LeG _ _ | show Lp _ _ _ _ | show Exists _ | show callX _ _ _ _ _ | show (_ : Int) ≤ _ | show (_ : Int) < _ | show (_ : Nat) ≤ _ | show (_ : Nat) < _); (conv => whnf) <;> (first | exact cl2 | refine Br.dec (fun hc => ?_) (fun hc => absurd hyes hc) | refine ix_b hxk ?_ | refine XAlt.l ?_ | refine Sq.pr ?_ | refine Br.dec (fun hc => ?_) (fun hc => ?_) | refine Br.tt ?_ | refine Br.ff ?_ | refine Br.not ?_ | refine Br.mk (fun hc => ?_) (fun hc => ?_) | refine Opt.nn ?_ | refine Opt.ss ?_ | refine AltA.l ?_ | exact PV.leL_nil | refine PV.leL_cons ?_ ?_ | refine And.intro ?_ ?_ | refine ix_map (fun x hx => ?_) | refine exU8 ?_ | refine nilc (fun hn => ?_) ?_ | exact cl3 | refine imp0 (fun hpos => ?_) | refine fits_i64 ?_ ?_ | exact rfl | (with_reducible first | show LeG _ _ | show Lp _ _ _ _ | show Exists _ | show callX _ _ _ _ _)))) <;> (try exact cl5)
          all_goals exact absurd rfl hc
        | cons e0 er =>
          have her : er.length + 1 = k := by rw [hE] at hElen; exact hElen
          have hRB : ∀ b ∈ R0.take k, B8 b := fun b hb => h0 b (List.mem_of_mem_take hb)
          have hRn : R0.take k ≠ [] := fun h => by rw [h] at htl; exact absurd htl (by show ¬ 0 = k; omega)
          have sy := jsync_calls ⟨R0.take k, 40, 0⟩ zD (by show szL (R0.take k) ≤ _; omega) hRB (by decide) (by decide) (fun s hs => (zSS s hs).2)
          rw [dm_sync hRn hu] at sy
          have hlast : (e0 :: er)[0 + ((((er.length + 1 : Nat) : Int) - 1).toNat)]? = some (eI (usedN (R0.take k))) := by
            rw [← hE, show 0 + ((((er.length + 1 : Nat) : Int) - 1).toNat) = k - 1 by omega, En_get (by omega), show k - 1 + 1 = k by omega]
          obtain ⟨x, c, A, d1, ⟨d2, d3⟩, d4, d5, d6, d7, d8, d9, d10, d11, d12⟩ := dm_facts sec pl by_ hRn hu hRB hby hb0
          have hUp : 0 < usedN (R0.take k) := by
            have := usedN_ge (R0.take k); omega
          have s1 : 0 ≤ IntKind.i64.wrap ((IntKind.u64.wrap sec).tmod (IntKind.u64.wrap ((usedN (R0.take k) : Nat) : Int))) ∧ IntKind.i64.wrap ((IntKind.u64.wrap sec).tmod (IntKind.u64.wrap ((usedN (R0.take k) : Nat) : Int))) < ((usedN (R0.take k) : Nat) : Int) := dmK_ok sec hUp hu
          have s2 : 0 ≤ (IntKind.u64.wrap pl).tmod 128 ∧ (IntKind.u64.wrap pl).tmod 128 < 128 := dmA_ok pl
          have s3 : IntKind.u64.wrap ((usedN (R0.take k) : Nat) : Int) ≠ 0 := by rw [dmU hu]; omega
          have hmc : ((dmC (R0.take k)).map eB).length = 40 := by rw [List.length_map, dm_len]
          have hmx : (x.map (PV.int .u8)).length = 128 := by rw [List.length_map, d2]
          have hmr : ((R0.take k).map eB).length = k := by rw [List.length_map, htl]
          have hxy : (x.set (dmA pl).toNat (bitsI .xor .u8 c by_)).length = 128 := by rw [List.length_set, d2]
          have ex : eB (x.set (dmA pl).toNat (bitsI .xor .u8 c by_)) = .sl 1 false (List.take (0 + (x.map (PV.int .u8)).length) (List.drop 0 (([] ++ x.map (PV.int .u8)).set (0 + (dmA pl).toNat) (PV.int .u8 (bitsI .xor .u8 c by_))))) := by
            show PV.sl 1 false _ = PV.sl 1 false _
            rw [List.drop_zero, List.nil_append, Nat.zero_add, Nat.zero_add, List.map_set, List.take_of_length_le (by rw [List.length_set]; exact Nat.le_refl _)]
          have wk := write_calls ⟨dmC (R0.take k), [], -1, false⟩ (dmK sec (usedN (R0.take k))) (x.set (dmA pl).toNat (bitsI .xor .u8 c by_)) (by show (dmC (R0.take k)).length < _; rw [dm_len]; decide) (show (0 : Nat) < 1000000 by decide) (by rw [hxy]; decide)
          rw [d5, ex] at wk
          have sk := sync_calls ⟨dmC (R0.take k), [⟨dmK sec (usedN (R0.take k)), x.set (dmA pl).toNat (bitsI .xor .u8 c by_)⟩], -1, false⟩ (by show (dmC (R0.take k)).length < _; rw [dm_len]; decide) (show (1 : Nat) < 1000000 by decide)
          rw [d6] at sk
          have ok := open_calls ⟨(dmC (R0.take k)).set (dmK sec (usedN (R0.take k))).toNat (x.set (dmA pl).toNat (bitsI .xor .u8 c by_)), [], -1, false⟩ (by show ((dmC (R0.take k)).set _ _).length < _; rw [List.length_set, dm_len]; decide) (show (0 : Nat) < 1000000 by decide) (fun s hs => (d7 s hs).2)
          rw [d8] at ok
          have hAB : ∀ b ∈ A, B8 b := fun b hb => hRB b (by rw [d10] at hb; exact List.mem_of_mem_take hb)
          have sm := sameR_self' A (by omega) hAB
          have es : eS A = .sl 1 false (List.drop (Int.toNat 0) (List.take (Int.toNat ((A.length : Nat) : Int)) ((R0.take k).map eB))) := by
            show PV.sl 1 false _ = PV.sl 1 false _
            rw [show Int.toNat 0 = 0 from rfl, List.drop_zero, Int.toNat_natCast, ← List.map_take, ← d10]
          have sm : PCalls Try.prog 24 [eS A, .sl 1 false (List.drop (Int.toNat 0) (List.take (Int.toNat ((A.length : Nat) : Int)) ((R0.take k).map eB)))] (.bool true) := by rw [← es]; exact sm
          have hEg : ∀ w : Nat, w < k → (e0 :: er)[0 + ((w : Int)).toNat]? = some (eI (usedN ((R0.take k).take (w + 1)))) := fun w hw => by
            rw [← hE, Nat.zero_add, Int.toNat_natCast, En_get hw, List.take_take, Nat.min_eq_left (by omega)]
          repeat' (first | exact cl1 | ((with_reducible show Exists _); refine exU8 ?_) | ((with_reducible show callX _ _ _ _ _); (first | refine call_p (ap) (by kernel_rfl) rfl ?_ | refine call_p (sy) (by kernel_rfl) rfl ?_ | (refine call_z (wk) (by kernel_rfl) rfl ?_; (repeat' (first | exact PV.leL_nil | refine PV.leL_cons ?_ ?_ | refine And.intro ?_ ?_ | exact Nat.zero_lt_succ _ | exact Nat.le_of_ble_eq_true rfl | exact PV.le_refl _ | exact PV.le_nil _ _ _ | exact PV.le_clip _ _ _ | refine PV.le_agg ?_ | refine PV.le_tup ?_ | rfl)); fail_if_success (any_goals (refine PV.le_of ?_))) | refine call_p (sk) (by kernel_rfl) rfl ?_ | refine call_p (ok) (by kernel_rfl) rfl ?_)) | ((fail_if_success with_reducible first | show LeG _ _ | show Lp _ _ _ _ | show Exists _ | show callX _ _ _ _ _ | show (_ : Int) ≤ _ | show (_ : Int) < _ | show (_ : Nat) ≤ _ | show (_ : Nat) < _); (conv => whnf) <;> (first | exact cl2 | refine Br.dec (fun hc => ?_) (fun hc => absurd hyes hc) | refine ix_b hxk ?_ | refine ix_b d1 ?_ | refine ix_c d4 ?_ | refine ix_q hlast ?_ | refine XAlt.l ?_ | refine Sq.pr ?_ | refine Br.dec (fun hc => ?_) (fun hc => ?_) | refine Br.tt ?_ | refine Br.ff ?_ | refine Br.not ?_ | refine Br.mk (fun hc => ?_) (fun hc => ?_) | refine Opt.nn ?_ | refine Opt.ss ?_ | refine AltA.l ?_ | exact PV.leL_nil | refine PV.leL_cons ?_ ?_ | refine And.intro ?_ ?_ | refine ix_map (fun x hx => ?_) | refine exU8 ?_ | refine nilc (fun hn => ?_) ?_ | exact cl3 | refine imp0 (fun hpos => ?_) | refine fits_i64 ?_ ?_ | exact rfl | (with_reducible first | show LeG _ _ | show Lp _ _ _ _ | show Exists _ | show callX _ _ _ _ _)))) <;> (try exact cl5)
          all_goals first
          | exact s3
          | (exfalso
             have hc' : (((dmC (R0.take k)).map eB).length : Int) ≤ IntKind.i64.wrap ((IntKind.u64.wrap sec).tmod (IntKind.u64.wrap ((usedN (R0.take k) : Nat) : Int))) := hc
             omega)
          | (exfalso
             have hc' : (((R0.take k).map eB).length : Int) < ((er.length + 1 : Nat) : Int) := hc
             omega)
          | skip
          all_goals
            refine Wpc.loopA (α := {w : Nat // w ≤ A.length}) mixed [0, 1, 2, 3, 8, 9, 10, 11, 12, 13, 15, 16, 17, 18, 20, 21, 22, 23, 24, 25, 26, 27, 29, 50, 59, 60, 61, 62, 63, 73, 82, 109, 144, 189] (fun w => [(27, .p (eI w.1))]) (fun _ => [(4032, .dead)]) (fun _ => 0) (fun w => A.length - w.1) ⟨0, Nat.zero_le _⟩ ?_ ?_
            · (first | refine Ent.ofA [] ?_ | refine Ent.ofC [] ?_) <;> (repeat' (first | exact trivial | refine HpLe.dd ?_ | refine HpLe.mk rfl (by simp) rfl (fun h => AObj.noConfusion h) ?_ ?_ | refine And.intro ?_ ?_ | exact cl9 | refine VLe.pe ?_ | refine VLe.agg ?_ | refine VLe.tup ?_ | refine VLe.fn ?_ ?_ | refine VLeL.cons ?_ ?_ | exact VLeL.nil | exact OLe.row _ _ | rfl | refine VLe.rsle rfl ?_ ?_ ?_ | refine OLe.rowe2 ?_ ?_ | refine OLe.mape ?_ ?_ | refine OLe.iter0 ?_ | refine OLe.itere ?_ ?_)) <;> try (first | (simp; done) | (congr 1; omega) | (congr 1; (first | (simp; done) | (simp; omega))))
            rintro ⟨w, hw⟩
            have hw : w ≤ A.length := hw
            have hwk : w < k := by omega
            have hy1 : (w : Int) < ((er.length + 1 : Nat) : Int) := by omega
            have hew := hEg w hwk
            by_cases hlt : w < A.length
            · have hy2 : ((usedN ((R0.take k).take (w + 1)) : Nat) : Int) ≤ IntKind.i64.wrap ((IntKind.u64.wrap sec).tmod (IntKind.u64.wrap ((usedN (R0.take k) : Nat) : Int))) := d11 w hlt
              repeat' (first | exact cl1 | ((with_reducible show Exists _); refine exU8 ?_) | ((fail_if_success with_reducible first | show LeG _ _ | show Lp _ _ _ _ | show Exists _ | show callX _ _ _ _ _ | show (_ : Int) ≤ _ | show (_ : Int) < _ | show (_ : Nat) ≤ _ | show (_ : Nat) < _); (conv => whnf) <;> (first | exact cl2 | refine ix_q hew ?_ | refine Br.dec (fun hc => ?_) (fun hc => absurd hy2 hc) | refine Br.dec (fun hc => ?_) (fun hc => absurd hy1 hc) | refine XAlt.l ?_ | refine Sq.pr ?_ | refine Br.dec (fun hc => ?_) (fun hc => ?_) | refine Br.tt ?_ | refine Br.ff ?_ | refine Br.not ?_ | refine Br.mk (fun hc => ?_) (fun hc => ?_) | refine Opt.nn ?_ | refine Opt.ss ?_ | refine AltA.l ?_ | exact PV.leL_nil | refine PV.leL_cons ?_ ?_ | refine And.intro ?_ ?_ | refine ix_map (fun x hx => ?_) | refine exU8 ?_ | refine nilc (fun hn => ?_) ?_ | exact cl3 | refine imp0 (fun hpos => ?_) | refine fits_i64 ?_ ?_ | exact rfl | (with_reducible first | show LeG _ _ | show Lp _ _ _ _ | show Exists _ | show callX _ _ _ _ _)))) <;> (try exact cl5)
              all_goals
                refine ⟨⟨w + 1, hlt⟩, by show A.length - (w + 1) < A.length - w; omega, ?_⟩
                (first | refine Ent.ofA [] ?_ | refine Ent.ofC [] ?_) <;> (repeat' (first | exact trivial | refine HpLe.dd ?_ | refine HpLe.mk rfl (by simp) rfl (fun h => AObj.noConfusion h) ?_ ?_ | refine And.intro ?_ ?_ | exact cl9 | refine VLe.pe ?_ | refine VLe.agg ?_ | refine VLe.tup ?_ | refine VLe.fn ?_ ?_ | refine VLeL.cons ?_ ?_ | exact VLeL.nil | exact OLe.row _ _ | rfl | refine VLe.rsle rfl ?_ ?_ ?_ | refine OLe.rowe2 ?_ ?_ | refine OLe.mape ?_ ?_ | refine OLe.iter0 ?_ | refine OLe.itere ?_ ?_)) <;> try (first | (simp; done) | (congr 1; omega) | (congr 1; (first | (simp; done) | (simp; omega))))
            · have hwA : w = A.length := by omega
              subst hwA
              have hy2 : ¬ ((usedN ((R0.take k).take (A.length + 1)) : Nat) : Int) ≤ IntKind.i64.wrap ((IntKind.u64.wrap sec).tmod (IntKind.u64.wrap ((usedN (R0.take k) : Nat) : Int))) := fun h => by
                have h2 : IntKind.i64.wrap ((IntKind.u64.wrap sec).tmod (IntKind.u64.wrap ((usedN (R0.take k) : Nat) : Int))) < ((usedN ((R0.take k).take (A.length + 1)) : Nat) : Int) := d12
                omega
              repeat' (first | exact cl1 | ((with_reducible show Exists _); refine exU8 ?_) | ((with_reducible show callX _ _ _ _ _); (first | refine call_p (sm) (by kernel_rfl) rfl ?_)) | ((fail_if_success with_reducible first | show LeG _ _ | show Lp _ _ _ _ | show Exists _ | show callX _ _ _ _ _ | show (_ : Int) ≤ _ | show (_ : Int) < _ | show (_ : Nat) ≤ _ | show (_ : Nat) < _); (conv => whnf) <;> (first | exact cl2 | refine ix_q hew ?_ | refine Br.dec (fun hc => absurd hc hy2) (fun hc => ?_) | refine Br.dec (fun hc => ?_) (fun hc => absurd hy1 hc) | refine XAlt.l ?_ | refine Sq.pr ?_ | refine Br.dec (fun hc => ?_) (fun hc => ?_) | refine Br.tt ?_ | refine Br.ff ?_ | refine Br.not ?_ | refine Br.mk (fun hc => ?_) (fun hc => ?_) | refine Opt.nn ?_ | refine Opt.ss ?_ | refine AltA.l ?_ | exact PV.leL_nil | refine PV.leL_cons ?_ ?_ | refine And.intro ?_ ?_ | refine ix_map (fun x hx => ?_) | refine exU8 ?_ | refine nilc (fun hn => ?_) ?_ | exact cl3 | refine imp0 (fun hpos => ?_) | refine fits_i64 ?_ ?_ | exact rfl | (with_reducible first | show LeG _ _ | show Lp _ _ _ _ | show Exists _ | show callX _ _ _ _ _)))) <;> (try exact cl5)
      · rw [if_neg hf] at ap
        have ht : R0.take (k + 1) = R0.take k ++ [b] := by rw [List.take_add_one, hxk]; rfl
        have hq1 : 0 ≤ (((b.map (PV.int .u8)).length : Int) + 111).tdiv 112 := by rw [Int.tdiv_eq_ediv_of_nonneg (by omega)]; omega
        have hq2 : (((b.map (PV.int .u8)).length : Int) + 111).tdiv 112 ≤ 1000000 := by rw [Int.tdiv_eq_ediv_of_nonneg (by omega)]; omega
        have hsec : (if true = true then (if (((b.map (PV.int .u8)).length : Int) + 111).tdiv 112 > 1 then (((b.map (PV.int .u8)).length : Int) + 111).tdiv 112 else 1) else (if (((b.map (PV.int .u8)).length : Int) + 111).tdiv 112 < 1 then (((b.map (PV.int .u8)).length : Int) + 111).tdiv 112 else 1)) = ((secN b.length : Nat) : Int) := by
          rw [max_if, ← sec_div, hmb]
          congr 2; omega
        have hsle := secN_le b.length
        have hu1 : usedN (R0.take (k + 1)) ≤ 40 := by omega
        cases hE : En R0 k with
        | nil =>
          have hnil : ¬ (0 : Int) < (([] : List PV).length : Int) := by decide
          have hk0 : k = 0 := by rw [hE] at hElen; exact hElen.symm
          subst hk0
          have hut0 : ((usedN (R0.take (0 + 1)) : Nat) : Int) = (if true = true then (if (((b.map (PV.int .u8)).length : Int) + 111).tdiv 112 > 1 then (((b.map (PV.int .u8)).length : Int) + 111).tdiv 112 else 1) else (if (((b.map (PV.int .u8)).length : Int) + 111).tdiv 112 < 1 then (((b.map (PV.int .u8)).length : Int) + 111).tdiv 112 else 1)) := by
            rw [hsec, hut, show usedN (R0.take 0) = 0 from rfl, Nat.zero_add]
          repeat' (first | exact cl1 | ((with_reducible show Exists _); refine exU8 ?_) | ((with_reducible show callX _ _ _ _ _); (first | refine call_p (ap) (by kernel_rfl) rfl ?_)) | ((fail_if_success with_reducible first | show LeG _ _ | show Lp _ _ _ _ | show Exists _ | show callX _ _ _ _ _ | show (_ : Int) ≤ _ | show (_ : Int) < _ | show (_ : Nat) ≤ _ | show (_ : Nat) < _); (conv => whnf) <;> (first | exact cl2 | refine Br.dec (fun hc => ?_) (fun hc => absurd hyes hc) | refine Br.dec (fun hc => absurd hc hnil) (fun hc => ?_) | refine ix_b hxk ?_ | refine XAlt.l ?_ | refine Sq.pr ?_ | refine Br.dec (fun hc => ?_) (fun hc => ?_) | refine Br.tt ?_ | refine Br.ff ?_ | refine Br.not ?_ | refine Br.mk (fun hc => ?_) (fun hc => ?_) | refine Opt.nn ?_ | refine Opt.ss ?_ | refine AltA.l ?_ | exact PV.leL_nil | refine PV.leL_cons ?_ ?_ | refine And.intro ?_ ?_ | refine ix_map (fun x hx => ?_) | refine exU8 ?_ | refine nilc (fun hn => ?_) ?_ | exact cl3 | refine imp0 (fun hpos => ?_) | refine fits_i64 ?_ ?_ | exact rfl | (with_reducible first | show LeG _ _ | show Lp _ _ _ _ | show Exists _ | show callX _ _ _ _ _)))) <;> (try exact cl5)
          all_goals
            refine ⟨⟨0 + 1, hltk, hu1⟩, by show R0.length - (0 + 1) < R0.length - 0; omega, ?_⟩
            show Ent _ _ (hdS _ _ _ _ [(13, enV 1 (En R0 (0 + 1))), (62, .p (eI ((0 + 1 : Nat) : Int)))] ([(2048, .cells [.p (eS (R0.take (0 + 1))), .p (eI 40), .p (eI 0)])] ++ enH 1 (En R0 (0 + 1))) 0)
            rw [En_succ, hE, hut0, ht]
            (first | refine Ent.ofA [] ?_ | refine Ent.ofC [] ?_) <;> (repeat' (first | exact trivial | refine HpLe.dd ?_ | refine HpLe.mk rfl (by simp) rfl (fun h => AObj.noConfusion h) ?_ ?_ | refine And.intro ?_ ?_ | exact cl9 | refine VLe.pe ?_ | refine VLe.agg ?_ | refine VLe.tup ?_ | refine VLe.fn ?_ ?_ | refine VLeL.cons ?_ ?_ | exact VLeL.nil | exact OLe.row _ _ | rfl | refine VLe.rsle rfl ?_ ?_ ?_ | refine OLe.rowe2 ?_ ?_ | refine OLe.mape ?_ ?_ | refine OLe.iter0 ?_ | refine OLe.itere ?_ ?_)) <;> try (first | (simp; done) | (congr 1; omega) | (congr 1; (first | (simp; done) | (simp; omega))))
        | cons e0 er =>
          have her : er.length + 1 = k := by rw [hE] at hElen; exact hElen
          have hlast : (e0 :: er)[0 + ((((er.length + 1 : Nat) : Int) - 1).toNat)]? = some (eI (usedN (R0.take k))) := by
            rw [← hE, show 0 + ((((er.length + 1 : Nat) : Int) - 1).toNat) = k - 1 by omega, En_get (by omega), show k - 1 + 1 = k by omega]
          repeat' (first | exact cl1 | ((with_reducible show Exists _); refine exU8 ?_) | ((with_reducible show callX _ _ _ _ _); (first | refine call_p (ap) (by kernel_rfl) rfl ?_)) | ((fail_if_success with_reducible first | show LeG _ _ | show Lp _ _ _ _ | show Exists _ | show callX _ _ _ _ _ | show (_ : Int) ≤ _ | show (_ : Int) < _ | show (_ : Nat) ≤ _ | show (_ : Nat) < _); (conv => whnf) <;> (first | exact cl2 | refine Br.dec (fun hc => ?_) (fun hc => absurd hyes hc) | refine ix_b hxk ?_ | refine ix_q hlast ?_ | refine XAlt.l ?_ | refine Sq.pr ?_ | refine Br.dec (fun hc => ?_) (fun hc => ?_) | refine Br.tt ?_ | refine Br.ff ?_ | refine Br.not ?_ | refine Br.mk (fun hc => ?_) (fun hc => ?_) | refine Opt.nn ?_ | refine Opt.ss ?_ | refine AltA.l ?_ | exact PV.leL_nil | refine PV.leL_cons ?_ ?_ | refine And.intro ?_ ?_ | refine ix_map (fun x hx => ?_) | refine exU8 ?_ | refine nilc (fun hn => ?_) ?_ | exact cl3 | refine imp0 (fun hpos => ?_) | refine fits_i64 ?_ ?_ | exact rfl | (with_reducible first | show LeG _ _ | show Lp _ _ _ _ | show Exists _ | show callX _ _ _ _ _)))) <;> (try exact cl5)
          have hut1 : ((usedN (R0.take (k + 1)) : Nat) : Int) = (if true = true then (if (((b.map (PV.int .u8)).length : Int) + 111).tdiv 112 > 1 then (((b.map (PV.int .u8)).length : Int) + 111).tdiv 112 else 1) else (if (((b.map (PV.int .u8)).length : Int) + 111).tdiv 112 < 1 then (((b.map (PV.int .u8)).length : Int) + 111).tdiv 112 else 1)) + ((usedN (R0.take k) : Nat) : Int) := by
            rw [hsec, hut]; omega
          all_goals
            refine ⟨⟨k + 1, hltk, hu1⟩, by show R0.length - (k + 1) < R0.length - k; omega, ?_⟩
            show Ent _ _ (hdS _ _ _ _ [(13, enV 1 (En R0 (k + 1))), (62, .p (eI ((k + 1 : Nat) : Int)))] ([(2048, .cells [.p (eS (R0.take (k + 1))), .p (eI 40), .p (eI 0)])] ++ enH 1 (En R0 (k + 1))) 0)
            rw [En_succ, hE, hut1, ht]
            (first | refine Ent.ofA [] ?_ | refine Ent.ofC [] ?_) <;> (repeat' (first | exact trivial | refine HpLe.dd ?_ | refine HpLe.mk rfl (by simp) rfl (fun h => AObj.noConfusion h) ?_ ?_ | refine And.intro ?_ ?_ | exact cl9 | refine VLe.pe ?_ | refine VLe.agg ?_ | refine VLe.tup ?_ | refine VLe.fn ?_ ?_ | refine VLeL.cons ?_ ?_ | exact VLeL.nil | exact OLe.row _ _ | rfl | refine VLe.rsle rfl ?_ ?_ ?_ | refine OLe.rowe2 ?_ ?_ | refine OLe.mape ?_ ?_ | refine OLe.iter0 ?_ | refine OLe.itere ?_ ?_)) <;> try (first | (simp; done) | (congr 1; omega) | (congr 1; (first | (simp; done) | (simp; omega))))
  · rw [decide_eq_false hz4] at f
    refine PCalls.of (N := 211) (res := [.tmp 8]) mixed Try.func7 rfl rfl rfl (by kernel_rfl) (by simp) [0, 1, 2, 3, 8, 9, 10, 11, 12, 13, 15, 16, 17, 18, 20, 21, 22, 23, 24, 25, 26, 27, 29, 50, 59, 60, 61, 62, 63, 73, 82, 109, 144, 189] ?_
    repeat' (first | exact cl1 | ((with_reducible show Exists _); refine exU8 ?_) | ((with_reducible show callX _ _ _ _ _); (first | refine call_p (sane_calls) (by kernel_rfl) rfl ?_ | refine call_p (c1) (by kernel_rfl) rfl ?_ | refine call_p (c2) (by kernel_rfl) rfl ?_ | refine call_p (f) (by kernel_rfl) rfl ?_)) | ((fail_if_success with_reducible first | show LeG _ _ | show Lp _ _ _ _ | show Exists _ | show callX _ _ _ _ _ | show (_ : Int) ≤ _ | show (_ : Int) < _ | show (_ : Nat) ≤ _ | show (_ : Nat) < _); (conv => whnf) <;> (first | exact cl2 | refine XAlt.l ?_ | refine Sq.pr ?_ | refine Br.dec (fun hc => ?_) (fun hc => ?_) | refine Br.tt ?_ | refine Br.ff ?_ | refine Br.not ?_ | refine Br.mk (fun hc => ?_) (fun hc => ?_) | refine Opt.nn ?_ | refine Opt.ss ?_ | refine AltA.l ?_ | exact PV.leL_nil | refine PV.leL_cons ?_ ?_ | refine And.intro ?_ ?_ | refine ix_map (fun x hx => ?_) | refine exU8 ?_ | refine nilc (fun hn => ?_) ?_ | exact cl3 | refine imp0 (fun hpos => ?_) | refine fits_i64 ?_ ?_ | exact rfl | (with_reducible first | show LeG _ _ | show Lp _ _ _ _ | show Exists _ | show callX _ _ _ _ _)))) <;> (try exact cl5)
    all_goals exact LeG.of (congrArg PV.bool (decide_eq_true rfl))
end Go.Proofs.Ytijkiolobmkhhaa

namespace Go.Proofs.Ytijkiolobmkhhaa
open Go Go.Sg
theorem damage_law (a : List Bs) (s p y : Int) (ha : okSs a) (hy : (Lit.int .u8 y).wf = true) (hz : ((a.map fun b => (b.map fun _ => 1).sum + 1).sum + 1) + (0 + (0 + (0 + 0))) ≤ 1048576) : PCalls Try.prog 7 [eS a, eI s, eI p, .int .u8 y] (.bool true) :=
  damage_calls a s p y ha.B8 (by rw [szL_bd] at hz; omega) (wf_u8 hy)
end Go.Proofs.Ytijkiolobmkhhaa
