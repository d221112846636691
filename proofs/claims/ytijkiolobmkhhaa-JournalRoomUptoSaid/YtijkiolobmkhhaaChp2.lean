/- A part of the proof: contracts of the functions that the statement reaches. -/
import Derived.Test.YtijkiolobmkhhaaChp1
import Derived.Test.YtijkiolobmkhhaaRows
set_option linter.unusedSimpArgs false
set_option linter.unusedVariables false
set_option linter.unnecessarySimpa false
namespace Go.Proofs.Ytijkiolobmkhhaa
open Go Go.Sg
set_option maxRecDepth 100000
set_option maxHeartbeats 40000000
theorem shr32a {a : Nat} (h : a < 4294967296) : ((a : Nat) : Int).fdiv (2 ^ min (Int.toNat 32) IntKind.u64.bits) = 0 := shr32 (by omega) (by omega)
theorem genI_take {l : List Bs} {i : Nat} {s : Bs} (h : l[i]? = some s) : mxI (mxI ((genL (l.take i) + 1 : Nat) : Int) (((numB (s.take 4) : Nat) : Int) + 1)) (((numB (s.drop 124) : Nat) : Int) + 1) = ((genL (l.take (i + 1)) + 1 : Nat) : Int) := by
  rw [genL_take h, mxI_eq, mxI_eq]; unfold genM; omega
def mnI (a : Int) : Int := if false = true then (if 112 > a then 112 else a) else (if 112 < a then 112 else a)
theorem mnI_eq (a : Int) : mnI a = min a 112 := by
  unfold mnI; rw [if_neg Bool.false_ne_true]; split <;> omega
theorem mn_take (r : Bs) : eB (r.take 112) = .sl 1 false (List.drop (Int.toNat 0) (List.take (mnI ((r.map (PV.int .u8)).length : Int)).toNat (r.map (PV.int .u8)))) := by
  show PV.sl 1 false _ = PV.sl 1 false _
  rw [show Int.toNat 0 = 0 from rfl, List.drop_zero, mnI_eq, List.length_map, ← List.map_take]
  by_cases h : r.length ≤ 112
  · rw [List.take_of_length_le h, List.take_of_length_le (by omega)]
  · rw [show (min (r.length : Int) 112).toNat = 112 by omega]
theorem mn_drop (r : Bs) : PV.sl 1 false (List.drop (mnI ((r.map (PV.int .u8)).length : Int)).toNat (List.take (Int.toNat ((r.map (PV.int .u8)).length : Int)) (r.map (PV.int .u8)))) = eB (r.drop 112) := by
  show PV.sl 1 false _ = PV.sl 1 false _
  rw [Int.toNat_natCast, List.take_length, mnI_eq, List.length_map, ← List.map_drop]
  by_cases h : r.length ≤ 112
  · rw [List.drop_eq_nil_of_le h, List.drop_eq_nil_of_le (by omega)]
  · rw [show (min (r.length : Int) 112).toNat = 112 by omega]
theorem usedN_ge (l : List Bs) : l.length ≤ usedN l := by
  induction l with
  | nil => exact Nat.le_refl _
  | cons b r ih =>
    have := secN_pos b.length
    simp only [usedN, List.map_cons, List.sum_cons, List.length_cons] at ih ⊢; omega
theorem ix_q {l : List PV} {n : Nat} {x : PV} {K : PV → Prop} (hx : l[n]? = some x) (k : K x) : ∀ p, l[n]? = some p → K p := fun p hp => by
  rw [hx] at hp; injection hp with hp; subst hp; exact k
theorem kdW_le (first : Bool) (m : Nat) : kdW first m ≤ 3 := by
  unfold kdW
  by_cases h : m = 0
  · rw [if_pos h]; cases first <;> decide
  · rw [if_neg h]; cases first <;> decide
theorem kd_or (first : Bool) : eC (kdW first 0) = .int .u8 (bitsI .or .u8 (((if first then 1 else 0 : Nat)) : Int) 2) := by
  cases first
  · exact congrArg (PV.int .u8) (by decide)
  · exact congrArg (PV.int .u8) (by decide)
theorem kd_no (first : Bool) {m : Nat} (h : m ≠ 0) : eC (kdW first m) = eC (if first then 1 else 0) := by unfold kdW; rw [if_neg h]; rfl
theorem scanR_B8 : ∀ (ss : List Bs) (n : Nat) (first : Bool) (g : Nat) (y : Bs × Nat), (∀ s ∈ ss, B8 s) → scanR ss n first g = some y → B8 y.1
  | [], _, _, _, _, _, h => by simp [scanR] at h
  | s :: r, n, first, g, y, hB, h => by
    have hs : B8 (pieceS s) := ((hB s (by simp)).drop 12).take _
    rw [scanR] at h
    split at h
    · split at h
      · injection h with h; subst h; exact hs
      · rw [Option.map_eq_some_iff] at h
        obtain ⟨x, hx, rfl⟩ := h
        have := scanR_B8 r (n + 1) false g x (fun t ht => hB t (by simp [ht])) hx
        intro c hc
        rcases List.mem_append.1 hc with hc | hc
        · exact hs c hc
        · exact this c hc
    · cases h
theorem recsA_B8 (l : List Bs) (hB : ∀ s ∈ l, B8 s) : ∀ (f i last : Nat), ∀ x ∈ recsA l f i last, B8 x.2
  | 0, _, _, x, h => by rw [recsA] at h; cases h
  | f + 1, i, last, x, h => by
    rw [recsA] at h
    cases hr : recAt l i with
    | none => rw [hr] at h; cases h
    | some y =>
      rw [hr] at h
      obtain ⟨b, m⟩ := y
      dsimp only at h
      split at h
      · cases h
      · rcases List.mem_cons.1 h with e | e
        · subst e
          exact scanR_B8 _ _ _ _ (b, m) (fun s hs => hB s (List.mem_of_mem_drop hs)) hr
        · exact recsA_B8 l hB f _ _ x e
theorem recB_B8 {l : List Bs} (hB : ∀ s ∈ l, B8 s) : ∀ b ∈ recB l, B8 b := fun b hb => by
  unfold recB at hb
  obtain ⟨x, hx, rfl⟩ := List.mem_map.1 hb
  exact recsA_B8 l hB _ _ _ x hx
theorem jsync_calls (j : Jn) (d : Dk) (hz : szL j.recs ≤ 50000000) (hb : ∀ b ∈ j.recs, B8 b) (h1 : d.secs.length < 1000000) (h2 : d.pend.length < 1000000) (hB : ∀ s ∈ d.secs, B8 s) : PCalls Try.prog 21 [eJ j, eD d] (eJD (syncJ j d)) := by
  have p := check5_calls j hz
  have q := check_calls d h1 h2
  have o := open_calls d h1 h2 hB
  have hms : (d.secs.map eB).length = d.secs.length := List.length_map _
  have hmp : (d.pend.map eW).length = d.pend.length := List.length_map _
  have hmr : (j.recs.map eB).length = j.recs.length := List.length_map _
  unfold syncJ
  cases hc : chkJ j with
  | false =>
    rw [hc, if_neg Bool.false_ne_true] at p
    rw [if_pos rfl]
    refine PCalls.of (N := 167) (res := [.cell 4 29, .cell 5 25, .tmp 6]) mixed Try.func21 rfl rfl rfl (by kernel_rfl) (by simp) [0, 1, 2, 3, 4, 5, 6, 7, 8, 9, 10, 12, 13, 15, 16, 17, 18, 22, 29, 43, 52, 57, 58, 59, 60, 87, 95, 108, 109, 110, 111, 117, 121, 141, 157] ?_
    repeat' (first | exact cl1 | ((with_reducible show Exists _); refine exU8 ?_) | ((with_reducible show callX _ _ _ _ _); (first | refine call_p (p) (by kernel_rfl) rfl ?_)) | ((fail_if_success with_reducible first | show LeG _ _ | show Lp _ _ _ _ | show Exists _ | show callX _ _ _ _ _ | show (_ : Int) ≤ _ | show (_ : Int) < _ | show (_ : Nat) ≤ _ | show (_ : Nat) < _); (conv => whnf) <;> (first | exact cl2 | refine XAlt.l ?_ | refine Sq.pr ?_ | refine Br.dec (fun hc => ?_) (fun hc => ?_) | refine Br.tt ?_ | refine Br.ff ?_ | refine Br.not ?_ | refine Br.mk (fun hc => ?_) (fun hc => ?_) | refine Opt.nn ?_ | refine Opt.ss ?_ | refine AltA.l ?_ | exact PV.leL_nil | refine PV.leL_cons ?_ ?_ | refine And.intro ?_ ?_ | refine ix_map (fun x hx => ?_) | refine exU8 ?_ | refine nilc (fun hn => ?_) ?_ | exact cl3 | refine imp0 (fun hpos => ?_) | refine fits_i64 ?_ ?_ | exact rfl | (with_reducible first | show LeG _ _ | show Lp _ _ _ _ | show Exists _ | show callX _ _ _ _ _)))) <;> (try exact cl5)
    all_goals ((all_goals (try refine LeG.mk ?_)); (repeat' (first | exact PV.le_refl _ | exact PV.le_nil _ _ _ | exact PV.le_clip _ _ _ | exact PV.le_nilF _ _ _ | refine PV.le_agg ?_ | refine PV.le_tup ?_ | exact PV.leL_nil | refine PV.leL_cons ?_ ?_ | refine PV.le_of ?_ | rfl)))
  | true =>
  rw [hc, if_pos rfl] at p
  rw [if_neg (fun h => Bool.noConfusion h)]
  obtain ⟨c1, c2, c3, c4, c5⟩ := chkJ_iff.1 hc
  cases hd : okD d with
  | false =>
    rw [hd, if_neg Bool.false_ne_true] at q
    rw [if_pos rfl]
    refine PCalls.of (N := 167) (res := [.cell 4 29, .cell 5 25, .tmp 6]) mixed Try.func21 rfl rfl rfl (by kernel_rfl) (by simp) [0, 1, 2, 3, 4, 5, 6, 7, 8, 9, 10, 12, 13, 15, 16, 17, 18, 22, 29, 43, 52, 57, 58, 59, 60, 87, 95, 108, 109, 110, 111, 117, 121, 141, 157] ?_
    repeat' (first | exact cl1 | ((with_reducible show Exists _); refine exU8 ?_) | ((with_reducible show callX _ _ _ _ _); (first | refine call_p (p) (by kernel_rfl) rfl ?_ | refine call_p (q) (by kernel_rfl) rfl ?_)) | ((fail_if_success with_reducible first | show LeG _ _ | show Lp _ _ _ _ | show Exists _ | show callX _ _ _ _ _ | show (_ : Int) ≤ _ | show (_ : Int) < _ | show (_ : Nat) ≤ _ | show (_ : Nat) < _); (conv => whnf) <;> (first | exact cl2 | refine XAlt.l ?_ | refine Sq.pr ?_ | refine Br.dec (fun hc => ?_) (fun hc => ?_) | refine Br.tt ?_ | refine Br.ff ?_ | refine Br.not ?_ | refine Br.mk (fun hc => ?_) (fun hc => ?_) | refine Opt.nn ?_ | refine Opt.ss ?_ | refine AltA.l ?_ | exact PV.leL_nil | refine PV.leL_cons ?_ ?_ | refine And.intro ?_ ?_ | refine ix_map (fun x hx => ?_) | refine exU8 ?_ | refine nilc (fun hn => ?_) ?_ | exact cl3 | refine imp0 (fun hpos => ?_) | refine fits_i64 ?_ ?_ | exact rfl | (with_reducible first | show LeG _ _ | show Lp _ _ _ _ | show Exists _ | show callX _ _ _ _ _)))) <;> (try exact cl5)
    all_goals ((all_goals (try refine LeG.mk ?_)); (repeat' (first | exact PV.le_refl _ | exact PV.le_nil _ _ _ | exact PV.le_clip _ _ _ | exact PV.le_nilF _ _ _ | refine PV.le_agg ?_ | refine PV.le_tup ?_ | exact PV.leL_nil | refine PV.leL_cons ?_ ?_ | refine PV.le_of ?_ | rfl)))
  | true =>
  rw [hd, if_pos rfl] at q
  rw [if_neg (fun h => Bool.noConfusion h)]
  obtain ⟨⟨k1, k2⟩, k3, k4, k5, k6⟩ := okD_spec hd
  unfold openJ at o
  rw [hd, if_pos rfl] at o
  cases hst : d.stop with
  | true =>
    rw [hst, if_pos rfl] at o
    rw [if_pos rfl]
    have hS : ¬ d.stop = false := fun h => by rw [hst] at h; cases h
    refine PCalls.of (N := 167) (res := [.cell 4 29, .cell 5 25, .tmp 6]) mixed Try.func21 rfl rfl rfl (by kernel_rfl) (by simp) [0, 1, 2, 3, 4, 5, 6, 7, 8, 9, 10, 12, 13, 15, 16, 17, 18, 22, 29, 43, 52, 57, 58, 59, 60, 87, 95, 108, 109, 110, 111, 117, 121, 141, 157] ?_
    repeat' (first | exact cl1 | ((with_reducible show Exists _); refine exU8 ?_) | ((with_reducible show callX _ _ _ _ _); (first | refine call_p (p) (by kernel_rfl) rfl ?_ | refine call_p (q) (by kernel_rfl) rfl ?_ | refine call_p (o) (by kernel_rfl) rfl ?_)) | ((fail_if_success with_reducible first | show LeG _ _ | show Lp _ _ _ _ | show Exists _ | show callX _ _ _ _ _ | show (_ : Int) ≤ _ | show (_ : Int) < _ | show (_ : Nat) ≤ _ | show (_ : Nat) < _); (conv => whnf) <;> (first | exact cl2 | refine Br.mk (fun hc => ?_) (fun hc => (hS hc).elim) | refine XAlt.l ?_ | refine Sq.pr ?_ | refine Br.dec (fun hc => ?_) (fun hc => ?_) | refine Br.tt ?_ | refine Br.ff ?_ | refine Br.not ?_ | refine Br.mk (fun hc => ?_) (fun hc => ?_) | refine Opt.nn ?_ | refine Opt.ss ?_ | refine AltA.l ?_ | exact PV.leL_nil | refine PV.leL_cons ?_ ?_ | refine And.intro ?_ ?_ | refine ix_map (fun x hx => ?_) | refine exU8 ?_ | refine nilc (fun hn => ?_) ?_ | exact cl3 | refine imp0 (fun hpos => ?_) | refine fits_i64 ?_ ?_ | exact rfl | (with_reducible first | show LeG _ _ | show Lp _ _ _ _ | show Exists _ | show callX _ _ _ _ _)))) <;> (try exact cl5)
    all_goals ((all_goals (try refine LeG.mk ?_)); (repeat' (first | exact PV.le_refl _ | exact PV.le_nil _ _ _ | exact PV.le_clip _ _ _ | exact PV.le_nilF _ _ _ | refine PV.le_agg ?_ | refine PV.le_tup ?_ | exact PV.leL_nil | refine PV.leL_cons ?_ ?_ | refine PV.le_of ?_ | rfl)))
    all_goals trace_state
  | false =>
  rw [hst, if_neg Bool.false_ne_true] at o
  have hS : ¬ d.stop = true := fun h => by rw [hst] at h; cases h
  rw [if_neg (fun h => Bool.noConfusion h)]
  by_cases hmny : j.many ≠ (d.secs.length : Int)
  · rw [if_pos hmny]
    have hx : j.many ≠ ((d.secs.map eB).length : Int) := by rw [hms]; exact hmny
    refine PCalls.of (N := 167) (res := [.cell 4 29, .cell 5 25, .tmp 6]) mixed Try.func21 rfl rfl rfl (by kernel_rfl) (by simp) [0, 1, 2, 3, 4, 5, 6, 7, 8, 9, 10, 12, 13, 15, 16, 17, 18, 22, 29, 43, 52, 57, 58, 59, 60, 87, 95, 108, 109, 110, 111, 117, 121, 141, 157] ?_
    repeat' (first | exact cl1 | ((with_reducible show Exists _); refine exU8 ?_) | ((with_reducible show callX _ _ _ _ _); (first | refine call_p (p) (by kernel_rfl) rfl ?_ | refine call_p (q) (by kernel_rfl) rfl ?_ | refine call_p (o) (by kernel_rfl) rfl ?_)) | ((fail_if_success with_reducible first | show LeG _ _ | show Lp _ _ _ _ | show Exists _ | show callX _ _ _ _ _ | show (_ : Int) ≤ _ | show (_ : Int) < _ | show (_ : Nat) ≤ _ | show (_ : Nat) < _); (conv => whnf) <;> (first | exact cl2 | refine Br.dec (fun hc => ?_) (fun hc => absurd hx hc) | refine Br.mk (fun hc => (hS hc).elim) (fun hc => ?_) | refine XAlt.l ?_ | refine Sq.pr ?_ | refine Br.dec (fun hc => ?_) (fun hc => ?_) | refine Br.tt ?_ | refine Br.ff ?_ | refine Br.not ?_ | refine Br.mk (fun hc => ?_) (fun hc => ?_) | refine Opt.nn ?_ | refine Opt.ss ?_ | refine AltA.l ?_ | exact PV.leL_nil | refine PV.leL_cons ?_ ?_ | refine And.intro ?_ ?_ | refine ix_map (fun x hx => ?_) | refine exU8 ?_ | refine nilc (fun hn => ?_) ?_ | exact cl3 | refine imp0 (fun hpos => ?_) | refine fits_i64 ?_ ?_ | exact rfl | (with_reducible first | show LeG _ _ | show Lp _ _ _ _ | show Exists _ | show callX _ _ _ _ _)))) <;> (try exact cl5)
    all_goals ((all_goals (try refine LeG.mk ?_)); (repeat' (first | exact PV.le_refl _ | exact PV.le_nil _ _ _ | exact PV.le_clip _ _ _ | exact PV.le_nilF _ _ _ | refine PV.le_agg ?_ | refine PV.le_tup ?_ | exact PV.leL_nil | refine PV.leL_cons ?_ ?_ | refine PV.le_of ?_ | rfl)))
    all_goals trace_state
  rw [if_neg hmny]
  have hx : ¬ j.many ≠ ((d.secs.map eB).length : Int) := by rw [hms]; exact hmny
  by_cases hpd : 0 < d.pend.length
  · rw [if_pos (by omega)] at o
    rw [if_pos hpd]
    refine PCalls.of (N := 167) (res := [.cell 4 29, .cell 5 25, .tmp 6]) mixed Try.func21 rfl rfl rfl (by kernel_rfl) (by simp) [0, 1, 2, 3, 4, 5, 6, 7, 8, 9, 10, 12, 13, 15, 16, 17, 18, 22, 29, 43, 52, 57, 58, 59, 60, 87, 95, 108, 109, 110, 111, 117, 121, 141, 157] ?_
    repeat' (first | exact cl1 | ((with_reducible show Exists _); refine exU8 ?_) | ((with_reducible show callX _ _ _ _ _); (first | refine call_p (p) (by kernel_rfl) rfl ?_ | refine call_p (q) (by kernel_rfl) rfl ?_ | refine call_p (o) (by kernel_rfl) rfl ?_)) | ((fail_if_success with_reducible first | show LeG _ _ | show Lp _ _ _ _ | show Exists _ | show callX _ _ _ _ _ | show (_ : Int) ≤ _ | show (_ : Int) < _ | show (_ : Nat) ≤ _ | show (_ : Nat) < _); (conv => whnf) <;> (first | exact cl2 | refine Br.dec (fun hc => absurd hc hx) (fun hc => ?_) | refine Br.mk (fun hc => (hS hc).elim) (fun hc => ?_) | refine XAlt.l ?_ | refine Sq.pr ?_ | refine Br.dec (fun hc => ?_) (fun hc => ?_) | refine Br.tt ?_ | refine Br.ff ?_ | refine Br.not ?_ | refine Br.mk (fun hc => ?_) (fun hc => ?_) | refine Opt.nn ?_ | refine Opt.ss ?_ | refine AltA.l ?_ | exact PV.leL_nil | refine PV.leL_cons ?_ ?_ | refine And.intro ?_ ?_ | refine ix_map (fun x hx => ?_) | refine exU8 ?_ | refine nilc (fun hn => ?_) ?_ | exact cl3 | refine imp0 (fun hpos => ?_) | refine fits_i64 ?_ ?_ | exact rfl | (with_reducible first | show LeG _ _ | show Lp _ _ _ _ | show Exists _ | show callX _ _ _ _ _)))) <;> (try exact cl5)
    all_goals ((all_goals (try refine LeG.mk ?_)); (repeat' (first | exact PV.le_refl _ | exact PV.le_nil _ _ _ | exact PV.le_clip _ _ _ | exact PV.le_nilF _ _ _ | refine PV.le_agg ?_ | refine PV.le_tup ?_ | exact PV.leL_nil | refine PV.leL_cons ?_ ?_ | refine PV.le_of ?_ | rfl)))
    all_goals trace_state
  rw [if_neg (by omega)] at o
  rw [if_neg hpd]
  have hsB : ∀ s ∈ d.secs, s.length = 128 ∧ B8 s := fun s hs => ⟨k6 s hs, hB s hs⟩
  have hrl := recB_len d.secs
  have hol : (oldR j).length = j.sync.toNat := by unfold oldR; rw [List.length_take]; omega
  have hrB := recB_B8 hB
  have hoB : ∀ b ∈ oldR j, B8 b := fun b h => hb b (List.mem_of_mem_take h)
  have f := equalF_calls (recB d.secs) (oldR j) (by omega) hrB hoB
  have e1 : eS (oldR j) = .sl 1 false (List.drop (Int.toNat 0) (List.take (Int.toNat j.sync) (j.recs.map eB))) := by
    show PV.sl 1 false _ = PV.sl 1 false _
    rw [show Int.toNat 0 = 0 from rfl, List.drop_zero, ← List.map_take]; rfl
  rw [e1] at f
  refine PCalls.of (N := 167) (res := [.cell 4 29, .cell 5 25, .tmp 6]) mixed Try.func21 rfl rfl rfl (by kernel_rfl) (by simp) [0, 1, 2, 3, 4, 5, 6, 7, 8, 9, 10, 12, 13, 15, 16, 17, 18, 22, 29, 43, 52, 57, 58, 59, 60, 87, 95, 108, 109, 110, 111, 117, 121, 141, 157] ?_
  repeat' (first | exact cl1 | ((with_reducible show Exists _); refine exU8 ?_) | ((with_reducible show callX _ _ _ _ _); (first | refine call_p (p) (by kernel_rfl) rfl ?_ | refine call_p (q) (by kernel_rfl) rfl ?_ | refine call_p (o) (by kernel_rfl) rfl ?_ | refine call_p (f) (by kernel_rfl) rfl ?_)) | ((fail_if_success with_reducible first | show LeG _ _ | show Lp _ _ _ _ | show Exists _ | show callX _ _ _ _ _ | show (_ : Int) ≤ _ | show (_ : Int) < _ | show (_ : Nat) ≤ _ | show (_ : Nat) < _); (conv => whnf) <;> (first | exact cl2 | refine Br.dec (fun hc => absurd hc hx) (fun hc => ?_) | refine Br.mk (fun hc => (hS hc).elim) (fun hc => ?_) | refine XAlt.l ?_ | refine Sq.pr ?_ | refine Br.dec (fun hc => ?_) (fun hc => ?_) | refine Br.tt ?_ | refine Br.ff ?_ | refine Br.not ?_ | refine Br.mk (fun hc => ?_) (fun hc => ?_) | refine Opt.nn ?_ | refine Opt.ss ?_ | refine AltA.l ?_ | exact PV.leL_nil | refine PV.leL_cons ?_ ?_ | refine And.intro ?_ ?_ | refine ix_map (fun x hx => ?_) | refine exU8 ?_ | refine nilc (fun hn => ?_) ?_ | exact cl3 | refine imp0 (fun hpos => ?_) | refine fits_i64 ?_ ?_ | exact rfl | (with_reducible first | show LeG _ _ | show Lp _ _ _ _ | show Exists _ | show callX _ _ _ _ _)))) <;> (try exact cl5)
  have hgd := genL_lt d.secs 0 (by decide) hsB
  have hgd : genL d.secs < 4294967296 := hgd
  refine Wpc.loopB (α := {i : Nat // i ≤ d.secs.length}) mixed [0, 1, 2, 3, 4, 5, 6, 7, 8, 9, 10, 12, 13, 15, 16, 17, 18, 22, 29, 43, 52, 57, 58, 59, 60, 87, 95, 108, 109, 110, 111, 117, 121, 141, 157] (fun i => [(10, .p (eU (genL (d.secs.take i.1) + 1))), (59, .p (eI i.1))]) (fun i => d.secs.length - i.1) ⟨0, Nat.zero_le _⟩ ?_ ?_
  · (first | refine Ent.ofA [] ?_ | refine Ent.ofC [] ?_) <;> (repeat' (first | exact trivial | refine HpLe.dd ?_ | refine HpLe.mk rfl (by simp) rfl (fun h => AObj.noConfusion h) ?_ ?_ | refine And.intro ?_ ?_ | exact cl9 | refine VLe.pe ?_ | refine VLe.agg ?_ | refine VLe.tup ?_ | refine VLe.fn ?_ ?_ | refine VLeL.cons ?_ ?_ | exact VLeL.nil | exact OLe.row _ _ | rfl | refine VLe.rsle rfl ?_ ?_ ?_ | refine OLe.rowe2 ?_ ?_ | refine OLe.mape ?_ ?_ | refine OLe.iter0 ?_ | refine OLe.itere ?_ ?_)) <;> try (first | (simp; done) | (congr 1; omega) | (congr 1; (first | (simp; done) | (simp; omega))))
  rintro ⟨i, hi⟩
  have hi : i ≤ d.secs.length := hi
  have hg := genL_lt (d.secs.take i) 0 (by decide) (fun s hs => hsB s (List.mem_of_mem_take hs))
  have hg : genL (d.secs.take i) < 4294967296 := hg
  cases hxi : d.secs[i]? with
  | some s =>
    have hlt : i < d.secs.length := (List.getElem?_eq_some_iff.1 hxi).1
    have hyes : ((i : Int) < ((d.secs.map eB).length : Int)) := by omega
    obtain ⟨t1, t2⟩ := hsB s (List.mem_of_getElem? hxi)
    have hmss : (s.map (PV.int .u8)).length = 128 := by rw [List.length_map, t1]
    have p1 := get_calls (s.take 4) (t2.take 4) (by rw [List.length_take]; omega)
    have p2 := get_calls (s.drop 124) (t2.drop 124) (by rw [List.length_drop]; omega)
    have g1 : numB (s.take 4) < 4294967296 := numB_lt 4 (s.take 4) (by rw [List.length_take]; omega) (t2.take 4)
    have g2 : numB (s.drop 124) < 4294967296 := numB_lt 4 (s.drop 124) (by rw [List.length_drop]; omega) (t2.drop 124)
    rw [show eB (s.take 4) = .sl 1 false (List.drop (Int.toNat 0) (List.take (Int.toNat 4) (s.map (PV.int .u8)))) from eB_sl s 0 4] at p1
    have e2 : eB (s.drop 124) = .sl 1 false (List.drop (Int.toNat 124) (List.take ((s.map (PV.int .u8)).length : Int).toNat (s.map (PV.int .u8)))) := by
      show PV.sl 1 false _ = PV.sl 1 false _
      rw [List.map_drop, Int.toNat_natCast, List.take_length]; rfl
    rw [e2] at p2
    repeat' (first | exact cl1 | ((with_reducible show Exists _); refine exU8 ?_) | ((with_reducible show callX _ _ _ _ _); (first | refine call_p (p1) (by kernel_rfl) rfl ?_ | refine call_p (p2) (by kernel_rfl) rfl ?_)) | ((fail_if_success with_reducible first | show LeG _ _ | show Lp _ _ _ _ | show Exists _ | show callX _ _ _ _ _ | show (_ : Int) ≤ _ | show (_ : Int) < _ | show (_ : Nat) ≤ _ | show (_ : Nat) < _); (conv => whnf) <;> (first | exact cl2 | refine Br.dec (fun hc => ?_) (fun hc => absurd hyes hc) | refine ix_b hxi ?_ | refine XAlt.l ?_ | refine Sq.pr ?_ | refine Br.dec (fun hc => ?_) (fun hc => ?_) | refine Br.tt ?_ | refine Br.ff ?_ | refine Br.not ?_ | refine Br.mk (fun hc => ?_) (fun hc => ?_) | refine Opt.nn ?_ | refine Opt.ss ?_ | refine AltA.l ?_ | exact PV.leL_nil | refine PV.leL_cons ?_ ?_ | refine And.intro ?_ ?_ | refine ix_map (fun x hx => ?_) | refine exU8 ?_ | refine nilc (fun hn => ?_) ?_ | exact cl3 | refine imp0 (fun hpos => ?_) | refine fits_i64 ?_ ?_ | exact rfl | (with_reducible first | show LeG _ _ | show Lp _ _ _ _ | show Exists _ | show callX _ _ _ _ _)))) <;> (try exact cl5)
    any_goals exact fits_u64 (by omega) (by omega)
    refine ⟨⟨i + 1, hlt⟩, by show d.secs.length - (i + 1) < d.secs.length - i; omega, ?_⟩
    (first | refine Ent.ofA [] ?_ | refine Ent.ofC [] ?_) <;> (repeat' (first | exact trivial | refine HpLe.dd ?_ | refine HpLe.mk rfl (by simp) rfl (fun h => AObj.noConfusion h) ?_ ?_ | refine And.intro ?_ ?_ | exact cl9 | refine VLe.pe ?_ | refine VLe.agg ?_ | refine VLe.tup ?_ | refine VLe.fn ?_ ?_ | refine VLeL.cons ?_ ?_ | exact VLeL.nil | exact OLe.row _ _ | rfl | refine VLe.rsle rfl ?_ ?_ ?_ | refine OLe.rowe2 ?_ ?_ | refine OLe.mape ?_ ?_ | refine OLe.iter0 ?_ | refine OLe.itere ?_ ?_)) <;> try (first | (simp; done) | (congr 1; omega) | (congr 1; (first | (simp; done) | (simp; omega))))
    all_goals exact congrArg (PV.int .u64) (genI_take hxi)
  | none =>
  have hge : d.secs.length ≤ i := List.getElem?_eq_none_iff.1 hxi
  have hno : ¬ ((i : Int) < ((d.secs.map eB).length : Int)) := by omega
  have e : i = d.secs.length := by omega
  subst e
  by_cases hr : recB d.secs = oldR j
  · rw [decide_eq_true hr] at f
    by_cases hgo : genL d.secs + 1 < 4294967296
    · have hsh : ¬ ((genL (d.secs.take d.secs.length) + 1 : Nat) : Int).fdiv (2 ^ min (Int.toNat 32) IntKind.u64.bits) ≠ 0 := by rw [List.take_length]; exact fun h => h (shr32a hgo)
      rw [if_neg (fun h => h ⟨hr, hgo⟩)]
      by_cases hy : j.sync = j.recs.length
      · rw [if_pos hy]
        have hy' : j.sync = ((j.recs.map eB).length : Int) := by rw [hmr]; exact hy
        repeat' (first | exact cl1 | ((with_reducible show Exists _); refine exU8 ?_) | ((with_reducible show callX _ _ _ _ _); (first | refine call_p (f) (by kernel_rfl) rfl ?_)) | ((fail_if_success with_reducible first | show LeG _ _ | show Lp _ _ _ _ | show Exists _ | show callX _ _ _ _ _ | show (_ : Int) ≤ _ | show (_ : Int) < _ | show (_ : Nat) ≤ _ | show (_ : Nat) < _); (conv => whnf) <;> (first | exact cl2 | refine Br.dec (fun hc => absurd hc hno) (fun hc => ?_) | refine Br.dec (fun hc => absurd hc hsh) (fun hc => ?_) | refine Br.dec (fun hc => ?_) (fun hc => absurd hy' hc) | refine XAlt.l ?_ | refine Sq.pr ?_ | refine Br.dec (fun hc => ?_) (fun hc => ?_) | refine Br.tt ?_ | refine Br.ff ?_ | refine Br.not ?_ | refine Br.mk (fun hc => ?_) (fun hc => ?_) | refine Opt.nn ?_ | refine Opt.ss ?_ | refine AltA.l ?_ | exact PV.leL_nil | refine PV.leL_cons ?_ ?_ | refine And.intro ?_ ?_ | refine ix_map (fun x hx => ?_) | refine exU8 ?_ | refine nilc (fun hn => ?_) ?_ | exact cl3 | refine imp0 (fun hpos => ?_) | refine fits_i64 ?_ ?_ | exact rfl | (with_reducible first | show LeG _ _ | show Lp _ _ _ _ | show Exists _ | show callX _ _ _ _ _)))) <;> (try exact cl5)
        all_goals ((all_goals (try refine LeG.mk ?_)); (repeat' (first | exact PV.le_refl _ | exact PV.le_nil _ _ _ | exact PV.le_clip _ _ _ | exact PV.le_nilF _ _ _ | refine PV.le_agg ?_ | refine PV.le_tup ?_ | exact PV.leL_nil | refine PV.leL_cons ?_ ?_ | refine PV.le_of ?_ | rfl)))
      · rw [if_neg hy]
        have hy' : ¬ j.sync = ((j.recs.map eB).length : Int) := by rw [hmr]; exact hy
        have hou := usedN_takeLe j.recs j.sync.toNat
        have hze := szL_takeLe j.recs j.sync.toNat
        have u := used_calls (oldR j) (by unfold oldR; omega)
        rw [e1] at u
        repeat' (first | exact cl1 | ((with_reducible show Exists _); refine exU8 ?_) | ((with_reducible show callX _ _ _ _ _); (first | refine call_p (f) (by kernel_rfl) rfl ?_ | refine call_p (u) (by kernel_rfl) rfl ?_)) | ((fail_if_success with_reducible first | show LeG _ _ | show Lp _ _ _ _ | show Exists _ | show callX _ _ _ _ _ | show (_ : Int) ≤ _ | show (_ : Int) < _ | show (_ : Nat) ≤ _ | show (_ : Nat) < _); (conv => whnf) <;> (first | exact cl2 | refine Br.dec (fun hc => absurd hc hno) (fun hc => ?_) | refine Br.dec (fun hc => absurd hc hsh) (fun hc => ?_) | refine Br.dec (fun hc => absurd hc hy') (fun hc => ?_) | refine XAlt.l ?_ | refine Sq.pr ?_ | refine Br.dec (fun hc => ?_) (fun hc => ?_) | refine Br.tt ?_ | refine Br.ff ?_ | refine Br.not ?_ | refine Br.mk (fun hc => ?_) (fun hc => ?_) | refine Opt.nn ?_ | refine Opt.ss ?_ | refine AltA.l ?_ | exact PV.leL_nil | refine PV.leL_cons ?_ ?_ | refine And.intro ?_ ?_ | refine ix_map (fun x hx => ?_) | refine exU8 ?_ | refine nilc (fun hn => ?_) ?_ | exact cl3 | refine imp0 (fun hpos => ?_) | refine fits_i64 ?_ ?_ | exact rfl | (with_reducible first | show LeG _ _ | show Lp _ _ _ _ | show Exists _ | show callX _ _ _ _ _)))) <;> (try exact cl5)
        generalize hgg : genL (d.secs.take d.secs.length) + 1 = g
        rw [List.take_length] at hgg
        have hg32 : g < 4294967296 := by omega
        have hFl : (newR j).length = j.recs.length - j.sync.toNat := by unfold newR; rw [List.length_drop]
        have hul : usedN j.recs = usedN (oldR j) + usedN (newR j) := by
          conv => lhs; rw [← List.take_append_drop j.sync.toNat j.recs]
          unfold usedN oldR newR; rw [List.map_append, List.sum_append]
        have hget : ∀ i b, (newR j)[i]? = some b → (List.drop (Int.toNat j.sync) (List.take (Int.toNat ((j.recs.map eB).length : Int)) (j.recs.map eB)))[i]? = some (eB b) := fun i b h => by
          rw [Int.toNat_natCast, List.take_length, ← List.map_drop, List.getElem?_map]
          show ((newR j)[i]?).map eB = _
          rw [h]; rfl
        have hlen : (List.drop (Int.toNat j.sync) (List.take (Int.toNat ((j.recs.map eB).length : Int)) (j.recs.map eB))).length = (newR j).length := by
          rw [List.length_drop, Int.toNat_natCast, List.take_length, hmr, hFl]
        have hFb : ∀ b ∈ newR j, B8 b := fun b h => hb b (List.mem_of_mem_drop h)
        have hFz : ∀ b ∈ newR j, b.length + 1 ≤ 50000000 := fun b h => Nat.le_trans (szL_mem (List.mem_of_mem_drop h)) hz
        have hpe : d.pend = [] := List.eq_nil_of_length_eq_zero (by omega)
        generalize hu0 : usedN (oldR j) = u0 at *
        generalize hF : newR j = F at *
        have hF4 : F.length ≤ 4096 := by have := usedN_ge F; omega
        have hwj : wrJ j d = wrs g u0 F := by unfold wrJ; rw [hu0, hF, hgg]
        rw [hwj]
        have hTok : ∀ i, ∀ w ∈ wrs g u0 (F.take i), (0 ≤ w.pos ∧ w.pos < d.secs.length) ∧ w.data.length = 128 := fun i w hw => by
          have h1 := wrs_ok g _ _ w hw
          have h2 := usedN_takeLe F i
          omega
        have hTl : ∀ i, (wrs g u0 (F.take i)).length ≤ 4096 := fun i => by
          rw [wrs_len]; have h2 := usedN_takeLe F i; omega
        refine Wpc.loopA (α := {i : Nat // i ≤ F.length}) mixed [0, 1, 2, 3, 4, 5, 6, 7, 8, 9, 10, 12, 13, 15, 16, 17, 18, 22, 29, 43, 52, 57, 58, 59, 60, 87, 95, 108, 109, 110, 111, 117, 121, 141, 157] (fun i => [(13, .p (eI (u0 + usedN (F.take i.1) : Nat))), (110, .p (eI i.1)), (6, .p (eE 0))]) (fun i => [(64, .cells [.p (eS d.secs), .p (eP (wrs g u0 (F.take i.1))), .p (eI d.left), .p (.bool false)])]) (fun _ => 0) (fun i => F.length - i.1) ⟨0, Nat.zero_le _⟩ ?_ ?_
        · (first | refine Ent.ofA [] ?_ | refine Ent.ofC [] ?_) <;> (repeat' (first | exact trivial | refine HpLe.dd ?_ | refine HpLe.mk rfl (by simp) rfl (fun h => AObj.noConfusion h) ?_ ?_ | refine And.intro ?_ ?_ | exact cl9 | refine VLe.pe ?_ | refine VLe.agg ?_ | refine VLe.tup ?_ | refine VLe.fn ?_ ?_ | refine VLeL.cons ?_ ?_ | exact VLeL.nil | exact OLe.row _ _ | rfl | refine VLe.rsle rfl ?_ ?_ ?_ | refine OLe.rowe2 ?_ ?_ | refine OLe.mape ?_ ?_ | refine OLe.iter0 ?_ | refine OLe.itere ?_ ?_)) <;> try (first | (simp; done) | (congr 1; omega) | (congr 1; (first | (simp; done) | (simp; omega))))
          all_goals first
          | (rw [hst]; done)
          | (rw [hpe]; rfl)
          | trace_state
        rintro ⟨i, hi⟩
        have hi : i ≤ F.length := hi
        cases hxi : F[i]? with
        | none =>
          have hge : F.length ≤ i := List.getElem?_eq_none_iff.1 hxi
          have hno : ¬ ((i : Int) < ((List.drop (Int.toNat j.sync) (List.take (Int.toNat ((j.recs.map eB).length : Int)) (j.recs.map eB))).length : Int)) := by omega
          have ef : F.take i = F := List.take_of_length_le hge
          have sy := sync_calls (dW d (wrs g u0 (F.take i))) h1 (by show (wrs g u0 (F.take i)).length < 1000000; have := hTl i; omega)
          rw [ef] at sy
          have ef' : eP (wrs g u0 (F.take i)) = eP (wrs g u0 F) := by rw [ef]
          have sy : PCalls Try.prog 27 [.agg [eS d.secs, eP (wrs g u0 (F.take i)), eI d.left, .bool false]] (eR (syncD (dW d (wrs g u0 F)))) := by rw [ef']; exact sy
          repeat' (first | exact cl1 | ((with_reducible show Exists _); refine exU8 ?_) | ((with_reducible show callX _ _ _ _ _); (first | refine call_p (sy) (by kernel_rfl) rfl ?_)) | ((fail_if_success with_reducible first | show LeG _ _ | show Lp _ _ _ _ | show Exists _ | show callX _ _ _ _ _ | show (_ : Int) ≤ _ | show (_ : Int) < _ | show (_ : Nat) ≤ _ | show (_ : Nat) < _); (conv => whnf) <;> (first | exact cl2 | refine Br.dec (fun hc => absurd hc hno) (fun hc => ?_) | refine XAlt.l ?_ | refine Sq.pr ?_ | refine Br.dec (fun hc => ?_) (fun hc => ?_) | refine Br.tt ?_ | refine Br.ff ?_ | refine Br.not ?_ | refine Br.mk (fun hc => ?_) (fun hc => ?_) | refine Opt.nn ?_ | refine Opt.ss ?_ | refine AltA.l ?_ | exact PV.leL_nil | refine PV.leL_cons ?_ ?_ | refine And.intro ?_ ?_ | refine ix_map (fun x hx => ?_) | refine exU8 ?_ | refine nilc (fun hn => ?_) ?_ | exact cl3 | refine imp0 (fun hpos => ?_) | refine fits_i64 ?_ ?_ | exact rfl | (with_reducible first | show LeG _ _ | show Lp _ _ _ _ | show Exists _ | show callX _ _ _ _ _)))) <;> (try exact cl5)
          · show LeG _ (eJD (if (syncD (dW d (wrs g u0 F))).2 ≠ 0 then _ else _))
            rw [if_pos hc]
            ((all_goals (try refine LeG.mk ?_)); (repeat' (first | exact PV.le_refl _ | exact PV.le_nil _ _ _ | exact PV.le_clip _ _ _ | exact PV.le_nilF _ _ _ | refine PV.le_agg ?_ | refine PV.le_tup ?_ | exact PV.leL_nil | refine PV.leL_cons ?_ ?_ | refine PV.le_of ?_ | rfl)))
          · show LeG _ (eJD (if (syncD (dW d (wrs g u0 F))).2 ≠ 0 then _ else _))
            rw [if_neg hc]
            rw [hmr]
            ((all_goals (try refine LeG.mk ?_)); (repeat' (first | exact PV.le_refl _ | exact PV.le_nil _ _ _ | exact PV.le_clip _ _ _ | exact PV.le_nilF _ _ _ | refine PV.le_agg ?_ | refine PV.le_tup ?_ | exact PV.leL_nil | refine PV.leL_cons ?_ ?_ | refine PV.le_of ?_ | rfl)))
        | some b =>
          have hlt : i < F.length := (List.getElem?_eq_some_iff.1 hxi).1
          have hyes : ((i : Int) < ((List.drop (Int.toNat j.sync) (List.take (Int.toNat ((j.recs.map eB).length : Int)) (j.recs.map eB))).length : Int)) := by omega
          have hbB := hFb b (List.mem_of_getElem? hxi)
          have hbz := hFz b (List.mem_of_getElem? hxi)
          have se := sectors_calls b (by omega)
          have hut := usedN_take hxi
          have hsn : secN b.length ≤ b.length + 1 := secN_le _
          have hT : wrs g u0 (F.take (i + 1)) = wrs g u0 (F.take i) ++ wrR g (u0 + usedN (F.take i)) true (secN b.length) b := by
            rw [List.take_add_one, hxi]
            show wrs g u0 (F.take i ++ [b]) = _
            rw [wrs_append]
            show _ ++ (wrR g _ true _ b ++ []) = _
            rw [List.append_nil]
          have hTo := hTok (i + 1)
          have hTn : (wrs g u0 (F.take (i + 1))).length = usedN (F.take (i + 1)) := wrs_len g _ _
          have hP0 : (wrs g u0 (F.take i)).length = usedN (F.take i) := wrs_len g _ _
          have hul1 := usedN_takeLe F (i + 1)
          have hgetb := hget i b hxi
          repeat' (first | exact cl1 | ((with_reducible show Exists _); refine exU8 ?_) | ((with_reducible show callX _ _ _ _ _); (first | refine call_p (se) (by kernel_rfl) rfl ?_)) | ((fail_if_success with_reducible first | show LeG _ _ | show Lp _ _ _ _ | show Exists _ | show callX _ _ _ _ _ | show (_ : Int) ≤ _ | show (_ : Int) < _ | show (_ : Nat) ≤ _ | show (_ : Nat) < _); (conv => whnf) <;> (first | exact cl2 | refine Br.dec (fun hc => ?_) (fun hc => absurd hyes hc) | refine ix_q hgetb ?_ | refine XAlt.l ?_ | refine Sq.pr ?_ | refine Br.dec (fun hc => ?_) (fun hc => ?_) | refine Br.tt ?_ | refine Br.ff ?_ | refine Br.not ?_ | refine Br.mk (fun hc => ?_) (fun hc => ?_) | refine Opt.nn ?_ | refine Opt.ss ?_ | refine AltA.l ?_ | exact PV.leL_nil | refine PV.leL_cons ?_ ?_ | refine And.intro ?_ ?_ | refine ix_map (fun x hx => ?_) | refine exU8 ?_ | refine nilc (fun hn => ?_) ?_ | exact cl3 | refine imp0 (fun hpos => ?_) | refine fits_i64 ?_ ?_ | exact rfl | (with_reducible first | show LeG _ _ | show Lp _ _ _ _ | show Exists _ | show callX _ _ _ _ _)))) <;> (try exact cl5)
          refine Wpc.loopA (α := {x : Nat × Bs × Bool × List Wr // x.1 ≤ secN b.length ∧ x.2.1.length ≤ 112 * x.1 ∧ B8 x.2.1 ∧ x.2.2.2 ++ wrR g (u0 + usedN (F.take i) + (secN b.length - x.1)) x.2.2.1 x.1 x.2.1 = wrs g u0 (F.take (i + 1))}) mixed [0, 1, 2, 3, 4, 5, 6, 7, 8, 9, 10, 12, 13, 15, 16, 17, 18, 22, 29, 43, 52, 57, 58, 59, 60, 87, 95, 108, 109, 110, 111, 117, 121, 141, 157] (fun x => [(13, .p (eI (u0 + usedN (F.take i) + (secN b.length - x.1.1) : Nat))), (15, .p (eB x.1.2.1)), (16, .p (eC (if x.1.2.2.1 then 1 else 0))), (17, .p (eI x.1.1)), (6, .p (eE 0))]) (fun x => [(64, .cells [.p (eS d.secs), .p (eP x.1.2.2.2), .p (eI d.left), .p (.bool false)])]) (fun _ => 0) (fun x => x.1.1) ⟨(secN b.length, b, true, wrs g u0 (F.take i)), Nat.le_refl _, by show b.length ≤ 112 * secN b.length; unfold secN; omega, hbB, by rw [hT, Nat.sub_self]; rfl⟩ ?_ ?_
          · (first | refine Ent.ofA [] ?_ | refine Ent.ofC [] ?_) <;> (repeat' (first | exact trivial | refine HpLe.dd ?_ | refine HpLe.mk rfl (by simp) rfl (fun h => AObj.noConfusion h) ?_ ?_ | refine And.intro ?_ ?_ | exact cl9 | refine VLe.pe ?_ | refine VLe.agg ?_ | refine VLe.tup ?_ | refine VLe.fn ?_ ?_ | refine VLeL.cons ?_ ?_ | exact VLeL.nil | exact OLe.row _ _ | rfl | refine VLe.rsle rfl ?_ ?_ ?_ | refine OLe.rowe2 ?_ ?_ | refine OLe.mape ?_ ?_ | refine OLe.iter0 ?_ | refine OLe.itere ?_ ?_)) <;> try (first | (simp; done) | (congr 1; omega) | (congr 1; (first | (simp; done) | (simp; omega))))
            all_goals trace_state
          rintro ⟨⟨m, r, first, P⟩, hm, hrl, hrB8, hPT⟩
          have hm : m ≤ secN b.length := hm
          have hrl : r.length ≤ 112 * m := hrl
          have hrB8 : B8 r := hrB8
          have hPT : P ++ wrR g (u0 + usedN (F.take i) + (secN b.length - m)) first m r = wrs g u0 (F.take (i + 1)) := hPT
          have hPl : P.length + m = usedN (F.take (i + 1)) := by
            have := congrArg List.length hPT
            rw [List.length_append, wrR_len, hTn] at this; exact this
          have hPok : ∀ w ∈ P, (0 ≤ w.pos ∧ w.pos < d.secs.length) ∧ w.data.length = 128 := fun w hw => hTo w (by rw [← hPT]; exact List.mem_append_left _ hw)
          cases m with
          | zero =>
            have hno : ¬ ((0 : Nat) : Int) > 0 := by omega
            have hPT : P = wrs g u0 (F.take (i + 1)) := by rw [← hPT]; show P = P ++ []; rw [List.append_nil]
            repeat' (first | exact cl1 | ((with_reducible show Exists _); refine exU8 ?_) | ((fail_if_success with_reducible first | show LeG _ _ | show Lp _ _ _ _ | show Exists _ | show callX _ _ _ _ _ | show (_ : Int) ≤ _ | show (_ : Int) < _ | show (_ : Nat) ≤ _ | show (_ : Nat) < _); (conv => whnf) <;> (first | exact cl2 | refine Br.dec (fun hc => absurd hc hno) (fun hc => ?_) | refine XAlt.l ?_ | refine Sq.pr ?_ | refine Br.dec (fun hc => ?_) (fun hc => ?_) | refine Br.tt ?_ | refine Br.ff ?_ | refine Br.not ?_ | refine Br.mk (fun hc => ?_) (fun hc => ?_) | refine Opt.nn ?_ | refine Opt.ss ?_ | refine AltA.l ?_ | exact PV.leL_nil | refine PV.leL_cons ?_ ?_ | refine And.intro ?_ ?_ | refine ix_map (fun x hx => ?_) | refine exU8 ?_ | refine nilc (fun hn => ?_) ?_ | exact cl3 | refine imp0 (fun hpos => ?_) | refine fits_i64 ?_ ?_ | exact rfl | (with_reducible first | show LeG _ _ | show Lp _ _ _ _ | show Exists _ | show callX _ _ _ _ _)))) <;> (try exact cl5)
            refine ⟨⟨i + 1, hlt⟩, by show F.length - (i + 1) < F.length - i; omega, ?_⟩
            (first | refine Ent.ofA [] ?_ | refine Ent.ofC [] ?_) <;> (repeat' (first | exact trivial | refine HpLe.dd ?_ | refine HpLe.mk rfl (by simp) rfl (fun h => AObj.noConfusion h) ?_ ?_ | refine And.intro ?_ ?_ | exact cl9 | refine VLe.pe ?_ | refine VLe.agg ?_ | refine VLe.tup ?_ | refine VLe.fn ?_ ?_ | refine VLeL.cons ?_ ?_ | exact VLeL.nil | exact OLe.row _ _ | rfl | refine VLe.rsle rfl ?_ ?_ ?_ | refine OLe.rowe2 ?_ ?_ | refine OLe.mape ?_ ?_ | refine OLe.iter0 ?_ | refine OLe.itere ?_ ?_)) <;> try (first | (simp; done) | (congr 1; omega) | (congr 1; (first | (simp; done) | (simp; omega))))
            all_goals first
            | (show PV.int .i64 ((u0 + usedN (F.take i) + (secN b.length - 0) : Nat) : Int) = eI (u0 + usedN (F.take (i + 1)) : Nat); rw [hut, Nat.sub_zero, Nat.add_assoc]; rfl)
            | (show eP P = eP (wrs g u0 (F.take (i + 1))); rw [hPT]; done)
            | trace_state
          | succ m =>
            have hyes2 : ((m + 1 : Nat) : Int) > 0 := by omega
            have hr : r.length ≤ 50000000 := by omega
            have ek : ∀ kd, kd ≤ 3 → PCalls Try.prog 44 [eU g, eI (u0 + usedN (F.take i) + (secN b.length - (m + 1)) : Nat), eC kd, eB (r.take 112)] (eB (secS g (u0 + usedN (F.take i) + (secN b.length - (m + 1))) kd (r.take 112))) := fun kd hkd => encode_calls g _ kd (r.take 112) hg32 (by omega) hkd (by rw [List.length_take]; omega) (hrB8.take 112)
            have hw := fun kd => dW_write (p := u0 + usedN (F.take i) + (secN b.length - (m + 1))) (b := secS g (u0 + usedN (F.take i) + (secN b.length - (m + 1))) kd (r.take 112)) hd (P := P) (by omega) hPok (by omega) (secS_len (by rw [List.length_take]; omega))
            have wk := fun kd => write_calls (dW d P) (u0 + usedN (F.take i) + (secN b.length - (m + 1)) : Nat) (secS g (u0 + usedN (F.take i) + (secN b.length - (m + 1))) kd (r.take 112)) h1 (by show P.length < 1000000; omega) (by rw [secS_len (by rw [List.length_take]; omega)]; decide)
            have ek := ek (kdW first m) (kdW_le first m)
            have wk := wk (kdW first m)
            rw [hw (kdW first m)] at wk
            have hmn : mnI ((r.map (PV.int .u8)).length : Int) ≤ ((r.map (PV.int .u8)).length : Int) := by rw [mnI_eq]; omega
            have hmn0 : 0 ≤ mnI ((r.map (PV.int .u8)).length : Int) := by rw [mnI_eq]; omega
            have hPT2 : (P ++ [⟨((u0 + usedN (F.take i) + (secN b.length - (m + 1)) : Nat) : Int), secS g (u0 + usedN (F.take i) + (secN b.length - (m + 1))) (kdW first m) (r.take 112)⟩]) ++ wrR g (u0 + usedN (F.take i) + (secN b.length - m)) false m (r.drop 112) = wrs g u0 (F.take (i + 1)) := by
              rw [← hPT, List.append_assoc, show secN b.length - m = secN b.length - (m + 1) + 1 by omega]; rfl
            rw [mn_take] at ek
            by_cases h1m : m = 0
            · subst h1m
              rw [kd_or] at ek
              have h1yes : ((0 + 1 : Nat) : Int) = 1 := rfl
              repeat' (first | exact cl1 | ((with_reducible show Exists _); refine exU8 ?_) | ((with_reducible show callX _ _ _ _ _); (first | refine call_p (ek) (by kernel_rfl) rfl ?_ | refine call_p (wk) (by kernel_rfl) rfl ?_)) | ((fail_if_success with_reducible first | show LeG _ _ | show Lp _ _ _ _ | show Exists _ | show callX _ _ _ _ _ | show (_ : Int) ≤ _ | show (_ : Int) < _ | show (_ : Nat) ≤ _ | show (_ : Nat) < _); (conv => whnf) <;> (first | exact cl2 | refine Br.dec (fun hc => ?_) (fun hc => absurd hyes2 hc) | refine Br.dec (fun hc => ?_) (fun hc => absurd h1yes hc) | refine XAlt.l ?_ | refine Sq.pr ?_ | refine Br.dec (fun hc => ?_) (fun hc => ?_) | refine Br.tt ?_ | refine Br.ff ?_ | refine Br.not ?_ | refine Br.mk (fun hc => ?_) (fun hc => ?_) | refine Opt.nn ?_ | refine Opt.ss ?_ | refine AltA.l ?_ | exact PV.leL_nil | refine PV.leL_cons ?_ ?_ | refine And.intro ?_ ?_ | refine ix_map (fun x hx => ?_) | refine exU8 ?_ | refine nilc (fun hn => ?_) ?_ | exact cl3 | refine imp0 (fun hpos => ?_) | refine fits_i64 ?_ ?_ | exact rfl | (with_reducible first | show LeG _ _ | show Lp _ _ _ _ | show Exists _ | show callX _ _ _ _ _)))) <;> (try exact cl5)
              all_goals first
              | exact hmn
              | exact hmn0
              | skip
              refine ⟨⟨(0, r.drop 112, false, P ++ [⟨((u0 + usedN (F.take i) + (secN b.length - (0 + 1)) : Nat) : Int), secS g (u0 + usedN (F.take i) + (secN b.length - (0 + 1))) (kdW first 0) (r.take 112)⟩]), by show 0 ≤ secN b.length; omega, by show (r.drop 112).length ≤ 112 * 0; rw [List.length_drop]; omega, hrB8.drop 112, hPT2⟩, by show 0 < 0 + 1; omega, ?_⟩
              (first | refine Ent.ofA [] ?_ | refine Ent.ofC [] ?_) <;> (repeat' (first | exact trivial | refine HpLe.dd ?_ | refine HpLe.mk rfl (by simp) rfl (fun h => AObj.noConfusion h) ?_ ?_ | refine And.intro ?_ ?_ | exact cl9 | refine VLe.pe ?_ | refine VLe.agg ?_ | refine VLe.tup ?_ | refine VLe.fn ?_ ?_ | refine VLeL.cons ?_ ?_ | exact VLeL.nil | exact OLe.row _ _ | rfl | refine VLe.rsle rfl ?_ ?_ ?_ | refine OLe.rowe2 ?_ ?_ | refine OLe.mape ?_ ?_ | refine OLe.iter0 ?_ | refine OLe.itere ?_ ?_)) <;> try (first | (simp; done) | (congr 1; omega) | (congr 1; (first | (simp; done) | (simp; omega))))
              all_goals first
              | (show PV.int .i64 (((u0 + usedN (F.take i) + (secN b.length - (0 + 1)) : Nat) : Int) + 1) = eI (u0 + usedN (F.take i) + (secN b.length - 0) : Nat); refine congrArg (PV.int .i64) ?_; omega)
              | exact mn_drop r
              | (show PV.int .i64 (((0 + 1 : Nat) : Int) - 1) = eI (0 : Nat); refine congrArg (PV.int .i64) ?_; omega)
              | trace_state
            · rw [kd_no first h1m] at ek
              have h1m' : ¬ ((m + 1 : Nat) : Int) = 1 := by omega
              repeat' (first | exact cl1 | ((with_reducible show Exists _); refine exU8 ?_) | ((with_reducible show callX _ _ _ _ _); (first | refine call_p (ek) (by kernel_rfl) rfl ?_ | refine call_p (wk) (by kernel_rfl) rfl ?_)) | ((fail_if_success with_reducible first | show LeG _ _ | show Lp _ _ _ _ | show Exists _ | show callX _ _ _ _ _ | show (_ : Int) ≤ _ | show (_ : Int) < _ | show (_ : Nat) ≤ _ | show (_ : Nat) < _); (conv => whnf) <;> (first | exact cl2 | refine Br.dec (fun hc => ?_) (fun hc => absurd hyes2 hc) | refine Br.dec (fun hc => absurd hc h1m') (fun hc => ?_) | refine XAlt.l ?_ | refine Sq.pr ?_ | refine Br.dec (fun hc => ?_) (fun hc => ?_) | refine Br.tt ?_ | refine Br.ff ?_ | refine Br.not ?_ | refine Br.mk (fun hc => ?_) (fun hc => ?_) | refine Opt.nn ?_ | refine Opt.ss ?_ | refine AltA.l ?_ | exact PV.leL_nil | refine PV.leL_cons ?_ ?_ | refine And.intro ?_ ?_ | refine ix_map (fun x hx => ?_) | refine exU8 ?_ | refine nilc (fun hn => ?_) ?_ | exact cl3 | refine imp0 (fun hpos => ?_) | refine fits_i64 ?_ ?_ | exact rfl | (with_reducible first | show LeG _ _ | show Lp _ _ _ _ | show Exists _ | show callX _ _ _ _ _)))) <;> (try exact cl5)
              all_goals first
              | exact hmn
              | exact hmn0
              | skip
              refine ⟨⟨(m, r.drop 112, false, P ++ [⟨((u0 + usedN (F.take i) + (secN b.length - (m + 1)) : Nat) : Int), secS g (u0 + usedN (F.take i) + (secN b.length - (m + 1))) (kdW first m) (r.take 112)⟩]), by show m ≤ secN b.length; omega, by show (r.drop 112).length ≤ 112 * m; rw [List.length_drop]; omega, hrB8.drop 112, hPT2⟩, by show m < m + 1; omega, ?_⟩
              (first | refine Ent.ofA [] ?_ | refine Ent.ofC [] ?_) <;> (repeat' (first | exact trivial | refine HpLe.dd ?_ | refine HpLe.mk rfl (by simp) rfl (fun h => AObj.noConfusion h) ?_ ?_ | refine And.intro ?_ ?_ | exact cl9 | refine VLe.pe ?_ | refine VLe.agg ?_ | refine VLe.tup ?_ | refine VLe.fn ?_ ?_ | refine VLeL.cons ?_ ?_ | exact VLeL.nil | exact OLe.row _ _ | rfl | refine VLe.rsle rfl ?_ ?_ ?_ | refine OLe.rowe2 ?_ ?_ | refine OLe.mape ?_ ?_ | refine OLe.iter0 ?_ | refine OLe.itere ?_ ?_)) <;> try (first | (simp; done) | (congr 1; omega) | (congr 1; (first | (simp; done) | (simp; omega))))
              all_goals first
              | (show PV.int .i64 (((u0 + usedN (F.take i) + (secN b.length - (m + 1)) : Nat) : Int) + 1) = eI (u0 + usedN (F.take i) + (secN b.length - m) : Nat); refine congrArg (PV.int .i64) ?_; omega)
              | exact mn_drop r
              | (show PV.int .i64 (((m + 1 : Nat) : Int) - 1) = eI (m : Nat); refine congrArg (PV.int .i64) ?_; omega)
              | trace_state
    · have hsh : ((genL (d.secs.take d.secs.length) + 1 : Nat) : Int).fdiv (2 ^ min (Int.toNat 32) IntKind.u64.bits) ≠ 0 := by
        rw [List.take_length, show genL d.secs + 1 = 4294967296 by omega]; decide
      rw [if_pos (fun h => hgo h.2)]
      repeat' (first | exact cl1 | ((with_reducible show Exists _); refine exU8 ?_) | ((with_reducible show callX _ _ _ _ _); (first | refine call_p (f) (by kernel_rfl) rfl ?_)) | ((fail_if_success with_reducible first | show LeG _ _ | show Lp _ _ _ _ | show Exists _ | show callX _ _ _ _ _ | show (_ : Int) ≤ _ | show (_ : Int) < _ | show (_ : Nat) ≤ _ | show (_ : Nat) < _); (conv => whnf) <;> (first | exact cl2 | refine Br.dec (fun hc => absurd hc hno) (fun hc => ?_) | refine Br.dec (fun hc => ?_) (fun hc => absurd hsh hc) | refine XAlt.l ?_ | refine Sq.pr ?_ | refine Br.dec (fun hc => ?_) (fun hc => ?_) | refine Br.tt ?_ | refine Br.ff ?_ | refine Br.not ?_ | refine Br.mk (fun hc => ?_) (fun hc => ?_) | refine Opt.nn ?_ | refine Opt.ss ?_ | refine AltA.l ?_ | exact PV.leL_nil | refine PV.leL_cons ?_ ?_ | refine And.intro ?_ ?_ | refine ix_map (fun x hx => ?_) | refine exU8 ?_ | refine nilc (fun hn => ?_) ?_ | exact cl3 | refine imp0 (fun hpos => ?_) | refine fits_i64 ?_ ?_ | exact rfl | (with_reducible first | show LeG _ _ | show Lp _ _ _ _ | show Exists _ | show callX _ _ _ _ _)))) <;> (try exact cl5)
      all_goals ((all_goals (try refine LeG.mk ?_)); (repeat' (first | exact PV.le_refl _ | exact PV.le_nil _ _ _ | exact PV.le_clip _ _ _ | exact PV.le_nilF _ _ _ | refine PV.le_agg ?_ | refine PV.le_tup ?_ | exact PV.leL_nil | refine PV.leL_cons ?_ ?_ | refine PV.le_of ?_ | rfl)))
  · rw [decide_eq_false hr] at f
    rw [if_pos (fun h => hr h.1)]
    repeat' (first | exact cl1 | ((with_reducible show Exists _); refine exU8 ?_) | ((with_reducible show callX _ _ _ _ _); (first | refine call_p (f) (by kernel_rfl) rfl ?_)) | ((fail_if_success with_reducible first | show LeG _ _ | show Lp _ _ _ _ | show Exists _ | show callX _ _ _ _ _ | show (_ : Int) ≤ _ | show (_ : Int) < _ | show (_ : Nat) ≤ _ | show (_ : Nat) < _); (conv => whnf) <;> (first | exact cl2 | refine Br.dec (fun hc => absurd hc hno) (fun hc => ?_) | refine XAlt.l ?_ | refine Sq.pr ?_ | refine Br.dec (fun hc => ?_) (fun hc => ?_) | refine Br.tt ?_ | refine Br.ff ?_ | refine Br.not ?_ | refine Br.mk (fun hc => ?_) (fun hc => ?_) | refine Opt.nn ?_ | refine Opt.ss ?_ | refine AltA.l ?_ | exact PV.leL_nil | refine PV.leL_cons ?_ ?_ | refine And.intro ?_ ?_ | refine ix_map (fun x hx => ?_) | refine exU8 ?_ | refine nilc (fun hn => ?_) ?_ | exact cl3 | refine imp0 (fun hpos => ?_) | refine fits_i64 ?_ ?_ | exact rfl | (with_reducible first | show LeG _ _ | show Lp _ _ _ _ | show Exists _ | show callX _ _ _ _ _)))) <;> (try exact cl5)
    all_goals ((all_goals (try refine LeG.mk ?_)); (repeat' (first | exact PV.le_refl _ | exact PV.le_nil _ _ _ | exact PV.le_clip _ _ _ | exact PV.le_nilF _ _ _ | refine PV.le_agg ?_ | refine PV.le_tup ?_ | exact PV.leL_nil | refine PV.leL_cons ?_ ?_ | refine PV.le_of ?_ | rfl)))
end Go.Proofs.Ytijkiolobmkhhaa

namespace Go.Proofs.Ytijkiolobmkhhaa
open Go Go.Sg
set_option maxRecDepth 100000
set_option maxHeartbeats 40000000
def sD1 : Dk := ⟨[zB], [], -1, false⟩
def sJ1 : Jn := ⟨[], 1, 0⟩
def sJ2 : Jn := ⟨[[97, 98]], 1, 0⟩
def sJ3 : Jn := ⟨[[97, 98]], 1, 1⟩
def sD2 : Dk := ⟨[secS 1 0 3 [97, 98]], [], -1, false⟩
theorem sn1 : newD 1 = (sD1, 0) := by kernel_rfl
theorem sn2 : openJ sD1 = (sJ1, 0) := by kernel_rfl
theorem sn3 : appJ sJ1 (List.replicate 113 0) = (j0, 2) := by kernel_rfl
theorem sn4 : appJ sJ1 [97, 98] = (sJ2, 0) := by kernel_rfl
theorem sn5 : syncJ sJ2 sD1 = (sJ3, sD2, 0) := by kernel_rfl
theorem sn6 : openJ sD2 = (sJ3, 0) := by kernel_rfl
theorem sn7 : syncJ sJ2 sD2 = (j0, d0, 50) := by kernel_rfl
theorem sn8 : roomJ sJ1 = 112 := by kernel_rfl
theorem sn9 : chkJ j0 = false := by kernel_rfl
theorem sane_calls : PCalls Try.prog 10 [] (.bool true) := by
  have b1 : ∀ s ∈ sD1.secs, B8 s := by
    intro s hs
    have : s = zB := by simpa [sD1] using hs
    subst this; intro c hc; have := List.eq_of_mem_replicate hc; omega
  have b2 : ∀ s ∈ sD2.secs, B8 s := by
    intro s hs
    have : s = secS 1 0 3 [97, 98] := by simpa [sD2] using hs
    subst this; exact secS_B8 (by decide) (by decide) (fun c hc => by simp at hc; omega)
  have bj : ∀ b ∈ sJ2.recs, B8 b := by
    intro b hb
    have : b = [97, 98] := by simpa [sJ2] using hb
    subst this; intro c hc; simp at hc; omega
  have z2 : szL sJ2.recs ≤ 50000000 := by decide
  have z1 : szL sJ1.recs ≤ 50000000 := by decide
  have c1 := new_calls 1
  rw [sn1] at c1
  have c2 := open_calls sD1 (by decide) (by decide) b1
  rw [sn2] at c2
  have c3 := append_calls sJ1 (List.replicate 113 0) z1 (by decide)
  rw [sn3] at c3
  have c4 := append_calls sJ1 [97, 98] z1 (by decide)
  rw [sn4] at c4
  have c5 := jsync_calls sJ2 sD1 z2 bj (by decide) (by decide) b1
  rw [sn5] at c5
  have c6 := open_calls sD2 (by decide) (by decide) b2
  rw [sn6] at c6
  have c7 := jsync_calls sJ2 sD2 z2 bj (by decide) (by decide) b2
  rw [sn7] at c7
  have c8 := room_calls sJ1 z1
  rw [sn8] at c8
  have c9 := check5_calls j0 (by decide)
  rw [sn9, if_neg Bool.false_ne_true] at c9
  refine PCalls.of (N := 119) (res := [.tmp 0]) mixed Try.func10 rfl rfl rfl (by kernel_rfl) (by simp) [0, 1, 2, 3, 4, 6, 7, 8, 9, 10, 11, 12, 13, 16] ?_
  repeat' (first | exact cl1 | ((with_reducible show Exists _); refine exU8 ?_) | ((with_reducible show callX _ _ _ _ _); (first | refine call_p (c1) (by kernel_rfl) rfl ?_ | refine call_p (c2) (by kernel_rfl) rfl ?_ | (refine call_z (c3) (by kernel_rfl) rfl ?_; (repeat' (first | exact PV.leL_nil | refine PV.leL_cons ?_ ?_ | refine And.intro ?_ ?_ | exact Nat.zero_lt_succ _ | exact Nat.le_of_ble_eq_true rfl | exact PV.le_refl _ | exact PV.le_nil _ _ _ | exact PV.le_clip _ _ _ | refine PV.le_agg ?_ | refine PV.le_tup ?_ | rfl)); fail_if_success (any_goals (refine PV.le_of ?_))) | (refine call_z (c4) (by kernel_rfl) rfl ?_; (repeat' (first | exact PV.leL_nil | refine PV.leL_cons ?_ ?_ | refine And.intro ?_ ?_ | exact Nat.zero_lt_succ _ | exact Nat.le_of_ble_eq_true rfl | exact PV.le_refl _ | exact PV.le_nil _ _ _ | exact PV.le_clip _ _ _ | refine PV.le_agg ?_ | refine PV.le_tup ?_ | rfl)); fail_if_success (any_goals (refine PV.le_of ?_))) | refine call_p (c5) (by kernel_rfl) rfl ?_ | refine call_p (c6) (by kernel_rfl) rfl ?_ | refine call_p (c7) (by kernel_rfl) rfl ?_ | refine call_p (c8) (by kernel_rfl) rfl ?_ | (refine call_z (c9) (by kernel_rfl) rfl ?_; (repeat' (first | exact PV.leL_nil | refine PV.leL_cons ?_ ?_ | refine And.intro ?_ ?_ | exact Nat.zero_lt_succ _ | exact Nat.le_of_ble_eq_true rfl | exact PV.le_refl _ | exact PV.le_nil _ _ _ | exact PV.le_clip _ _ _ | refine PV.le_agg ?_ | refine PV.le_tup ?_ | rfl)); fail_if_success (any_goals (refine PV.le_of ?_))))) | ((fail_if_success with_reducible first | show LeG _ _ | show Lp _ _ _ _ | show Exists _ | show callX _ _ _ _ _ | show (_ : Int) ≤ _ | show (_ : Int) < _ | show (_ : Nat) ≤ _ | show (_ : Nat) < _); (conv => whnf) <;> (first | exact cl2 | refine XAlt.l ?_ | refine Sq.pr ?_ | refine Br.dec (fun hc => ?_) (fun hc => ?_) | refine Br.tt ?_ | refine Br.ff ?_ | refine Br.not ?_ | refine Br.mk (fun hc => ?_) (fun hc => ?_) | refine Opt.nn ?_ | refine Opt.ss ?_ | refine AltA.l ?_ | exact PV.leL_nil | refine PV.leL_cons ?_ ?_ | refine And.intro ?_ ?_ | refine ix_map (fun x hx => ?_) | refine exU8 ?_ | refine nilc (fun hn => ?_) ?_ | exact cl3 | refine imp0 (fun hpos => ?_) | refine fits_i64 ?_ ?_ | exact rfl | (with_reducible first | show LeG _ _ | show Lp _ _ _ _ | show Exists _ | show callX _ _ _ _ _)))) <;> (try exact cl5)
  refine ⟨[97, 98], rfl, ?_⟩
  repeat' (first | exact cl1 | ((with_reducible show Exists _); refine exU8 ?_) | ((with_reducible show callX _ _ _ _ _); (first | refine call_p (c1) (by kernel_rfl) rfl ?_ | refine call_p (c2) (by kernel_rfl) rfl ?_ | (refine call_z (c3) (by kernel_rfl) rfl ?_; (repeat' (first | exact PV.leL_nil | refine PV.leL_cons ?_ ?_ | refine And.intro ?_ ?_ | exact Nat.zero_lt_succ _ | exact Nat.le_of_ble_eq_true rfl | exact PV.le_refl _ | exact PV.le_nil _ _ _ | exact PV.le_clip _ _ _ | refine PV.le_agg ?_ | refine PV.le_tup ?_ | rfl)); fail_if_success (any_goals (refine PV.le_of ?_))) | refine call_p (c4) (by kernel_rfl) rfl ?_ | refine call_p (c5) (by kernel_rfl) rfl ?_ | refine call_p (c6) (by kernel_rfl) rfl ?_ | refine call_p (c7) (by kernel_rfl) rfl ?_ | refine call_p (c8) (by kernel_rfl) rfl ?_ | (refine call_z (c9) (by kernel_rfl) rfl ?_; (repeat' (first | exact PV.leL_nil | refine PV.leL_cons ?_ ?_ | refine And.intro ?_ ?_ | exact Nat.zero_lt_succ _ | exact Nat.le_of_ble_eq_true rfl | exact PV.le_refl _ | exact PV.le_nil _ _ _ | exact PV.le_clip _ _ _ | refine PV.le_agg ?_ | refine PV.le_tup ?_ | rfl)); fail_if_success (any_goals (refine PV.le_of ?_))))) | ((fail_if_success with_reducible first | show LeG _ _ | show Lp _ _ _ _ | show Exists _ | show callX _ _ _ _ _ | show (_ : Int) ≤ _ | show (_ : Int) < _ | show (_ : Nat) ≤ _ | show (_ : Nat) < _); (conv => whnf) <;> (first | exact cl2 | refine XAlt.l ?_ | refine Sq.pr ?_ | refine Br.dec (fun hc => ?_) (fun hc => ?_) | refine Br.tt ?_ | refine Br.ff ?_ | refine Br.not ?_ | refine Br.mk (fun hc => ?_) (fun hc => ?_) | refine Opt.nn ?_ | refine Opt.ss ?_ | refine AltA.l ?_ | exact PV.leL_nil | refine PV.leL_cons ?_ ?_ | refine And.intro ?_ ?_ | refine ix_map (fun x hx => ?_) | refine exU8 ?_ | refine nilc (fun hn => ?_) ?_ | exact cl3 | refine imp0 (fun hpos => ?_) | refine fits_i64 ?_ ?_ | exact rfl | (with_reducible first | show LeG _ _ | show Lp _ _ _ _ | show Exists _ | show callX _ _ _ _ _)))) <;> (try exact cl5)
  all_goals first
  | (exfalso; exact hc rfl)
  | (exfalso
     have e : some [97, 98] = some x := hx
     injection e with e
     subst e
     exact hc (by decide))
  | trace_state
end Go.Proofs.Ytijkiolobmkhhaa

namespace Go.Proofs.Ytijkiolobmkhhaa
open Go Go.Sg
set_option maxRecDepth 100000
theorem bulk_one {H : Type} (d : DataW H) : 1 ≤ Rows.uptoBulk d := by
  cases d with
  | lit l => cases l <;> simp [Rows.uptoBulk]
  | nil => simp [Rows.uptoBulk]
  | ptr d => simp [Rows.uptoBulk]
  | slice elems spare => simp [Rows.uptoBulk]
  | agg parts => simp [Rows.uptoBulk]
  | iface t d => simp [Rows.uptoBulk]
  | map entries => simp [Rows.uptoBulk]
  | held h => simp [Rows.uptoBulk]
/-- The rows' measure. -/
def UB : Bulk where
  one := Rows.uptoBulk
  all := Rows.uptoBulkAll
  cons := fun d r => by simp only [Rows.uptoBulkAll]
  slice := fun e s => by simp only [Rows.uptoBulk]; omega
  nil := bulk_one _
  agg := fun ps => by simp only [Rows.uptoBulk]; omega
  lit := fun l => bulk_one _
theorem rI : Rdc Try.prog 3 Int (fun n => [eI n]) (fun n => (Lit.int .i64 n).wf = true) := Rdc.int (by kernel_rfl) (by kernel_rfl)
theorem rU8 : Rdc Try.prog 5 Int (fun n => [.int .u8 n]) (fun n => (Lit.int .u8 n).wf = true) := Rdc.int (by kernel_rfl) (by kernel_rfl)
theorem rBool : Rdc Try.prog 4 Bool (fun n => [.bool n]) (fun _ => True) := Rdc.bool (by kernel_rfl) (by kernel_rfl)
theorem wf_u8 {n : Int} (h : (Lit.int .u8 n).wf = true) : 0 ≤ n ∧ n ≤ 255 := by
  simp only [Lit.wf, Bool.and_eq_true, decide_eq_true_eq] at h
  have h1 : IntKind.u8.min = 0 := rfl
  have h2 : IntKind.u8.max = 255 := rfl
  omega
def okBs (b : Bs) : Prop := b.length ≤ reachBytes ∧ ∀ n ∈ b, (Lit.int .u8 n).wf = true
theorem okBs.B8 {b : Bs} (h : okBs b) : B8 b := fun c hc => wf_u8 (h.2 c hc)
theorem rB : Rdc Try.prog 35 Bs (fun b => [eB b]) okBs :=
  Rdc.slice (e := 5) (sz := 1) (by kernel_rfl) (by kernel_rfl) rU8 (by kernel_rfl) (by decide) (of_decide_eq_true (by kernel_rfl)) (fun _ _ => rfl)
def okSs (l : List Bs) : Prop := l.length ≤ reachBytes ∧ ∀ b ∈ l, okBs b
theorem okSs.B8 {l : List Bs} (h : okSs l) : ∀ b ∈ l, B8 b := fun b hb => (h.2 b hb).B8
theorem rS : Rdc Try.prog 22 (List Bs) (fun b => [eS b]) okSs :=
  Rdc.slice (e := 35) (sz := 1) (by kernel_rfl) (by kernel_rfl) rB (by kernel_rfl) (by decide) (of_decide_eq_true (by kernel_rfl)) (fun _ _ => rfl)
def okWr (w : Wr) : Prop := (Lit.int .i64 w.pos).wf = true ∧ okBs w.data
theorem rW : Rdc Try.prog 76 Wr (fun w => [eI w.pos, eB w.data]) okWr := by
  have h := Rdc.struct (P := Try.prog) (t := 76) Try.underlying76 (Rdf.cons rI (Rdf.cons rB Rdf.nil (by kernel_rfl) rfl) (by kernel_rfl) rfl) (by kernel_rfl)
  exact h.map (fun x => (⟨x.1, x.2.1⟩ : Wr)) (fun w => (w.pos, w.data, ())) (fun _ => rfl) (fun _ _ => rfl) (fun x h => ⟨h.1, h.2.1⟩) (fun y h => ⟨h.1, h.2, trivial⟩)
def okPs (l : List Wr) : Prop := l.length ≤ reachBytes ∧ ∀ b ∈ l, okWr b
theorem rP : Rdc Try.prog 23 (List Wr) (fun b => [eP b]) okPs :=
  Rdc.slice (e := 76) (sz := 2) (by kernel_rfl) (by kernel_rfl) rW (by kernel_rfl) (by decide) (of_decide_eq_true (by kernel_rfl)) (fun _ _ => rfl)
def okDk (d : Dk) : Prop := okSs d.secs ∧ okPs d.pend ∧ (Lit.int .i64 d.left).wf = true
theorem rDc : Rdc Try.prog 25 Dk (fun d => [eS d.secs, eP d.pend, eI d.left, .bool d.stop]) okDk := by
  have h := Rdc.struct (P := Try.prog) (t := 25) Try.underlying25 (Rdf.cons rS (Rdf.cons rP (Rdf.cons rI (Rdf.cons rBool Rdf.nil (by kernel_rfl) rfl) (by kernel_rfl) rfl) (by kernel_rfl) rfl) (by kernel_rfl) rfl) (by kernel_rfl)
  exact h.map (fun x => (⟨x.1, x.2.1, x.2.2.1, x.2.2.2.1⟩ : Dk)) (fun w => (w.secs, w.pend, w.left, w.stop, ())) (fun _ => rfl) (fun _ _ => rfl) (fun x h => ⟨h.1, h.2.1, h.2.2.1⟩) (fun y h => ⟨h.1, h.2.1, h.2.2, trivial, trivial⟩)
theorem aD : Rda Try.prog 25 Dk eD okDk := Rda.agg rDc (by kernel_rfl)
theorem aI : Rda Try.prog 3 Int eI (fun n => (Lit.int .i64 n).wf = true) := Rda.one rI (by kernel_rfl)
theorem aU8 : Rda Try.prog 5 Int (fun n => .int .u8 n) (fun n => (Lit.int .u8 n).wf = true) := Rda.one rU8 (by kernel_rfl)
theorem aB : Rda Try.prog 35 Bs eB okBs := Rda.one rB (by kernel_rfl)
theorem own : ownKnob Try.prog.godebug = none := by kernel_rfl
/-! ### With a measure -/
theorem bU8 : RdcB UB Try.prog 5 Int (fun n => [.int .u8 n]) (fun n => (Lit.int .u8 n).wf = true) (fun _ => 1) := RdcB.int (by kernel_rfl) (by kernel_rfl)
theorem bB : RdcB UB Try.prog 35 Bs (fun b => [eB b]) okBs (fun b => (b.map fun _ => 1).sum + 1) :=
  RdcB.slice (e := 5) (sz := 1) (by kernel_rfl) (by kernel_rfl) bU8 (by kernel_rfl) (by decide) (of_decide_eq_true (by kernel_rfl)) (fun _ _ => rfl)
theorem bS : RdcB UB Try.prog 22 (List Bs) (fun b => [eS b]) okSs (fun l => (l.map fun b => (b.map fun _ => 1).sum + 1).sum + 1) :=
  RdcB.slice (e := 35) (sz := 1) (by kernel_rfl) (by kernel_rfl) bB (by kernel_rfl) (by decide) (of_decide_eq_true (by kernel_rfl)) (fun _ _ => rfl)
theorem sum1 (b : Bs) : (b.map fun _ => 1).sum = b.length := by
  induction b with
  | nil => rfl
  | cons c r ih => rw [List.map_cons, List.sum_cons, ih, List.length_cons]; omega
theorem szL_bd (l : List Bs) : (l.map fun b => (b.map fun _ => 1).sum + 1).sum = szL l := by
  unfold szL
  congr 1
  exact List.map_congr_left fun b _ => by rw [sum1]
def okJn (j : Jn) : Prop := okSs j.recs ∧ (Lit.int .i64 j.many).wf = true ∧ (Lit.int .i64 j.sync).wf = true
theorem bJc : RdcB UB Try.prog 29 Jn (fun j => [eS j.recs, eI j.many, eI j.sync]) okJn (fun j => szL j.recs) := by
  have h := RdcB.struct (B := UB) (P := Try.prog) (t := 29) Try.underlying29 (RdfB.cons bS (RdfB.cons rI.toB (RdfB.cons rI.toB RdfB.nil (by kernel_rfl) rfl) (by kernel_rfl) rfl) (by kernel_rfl) rfl) (by kernel_rfl)
  exact h.map (fun x => (⟨x.1, x.2.1, x.2.2.1⟩ : Jn)) (fun w => (w.recs, w.many, w.sync, ())) (fun _ => rfl) (fun _ _ => rfl) (fun x h => ⟨h.1, h.2.1, h.2.2.1⟩) (fun y h => ⟨h.1, h.2.1, h.2.2, trivial⟩) (fun x => by
    show szL x.1 ≤ _
    rw [← szL_bd]; omega)
theorem kJ : RdaB UB Try.prog 29 Jn eJ okJn (fun j => szL j.recs) := RdaB.agg bJc (by kernel_rfl)
theorem kB : RdaB UB Try.prog 35 Bs eB okBs (fun b => (b.map fun _ => 1).sum + 1) := RdaB.one bB (by kernel_rfl)
theorem kS : RdaB UB Try.prog 22 (List Bs) eS okSs (fun l => (l.map fun b => (b.map fun _ => 1).sum + 1).sum + 1) := RdaB.one bS (by kernel_rfl)
theorem kI : RdaB UB Try.prog 3 Int eI (fun n => (Lit.int .i64 n).wf = true) (fun _ => 0) := Rda.toB aI
theorem kU8 : RdaB UB Try.prog 5 Int (fun n => .int .u8 n) (fun n => (Lit.int .u8 n).wf = true) (fun _ => 0) := Rda.toB aU8
theorem kD : RdaB UB Try.prog 25 Dk eD okDk (fun _ => 0) := Rda.toB aD
end Go.Proofs.Ytijkiolobmkhhaa

namespace Go.Proofs.Ytijkiolobmkhhaa
open Go Go.Sg
set_option maxRecDepth 100000
set_option maxHeartbeats 40000000
theorem fewJ0 (l : List Bs) : fewJ d0 l = decide (szL l ≤ 4000) := by
  unfold fewJ
  exact decide_eq_decide.2 ⟨fun h => h.2.2, fun h => ⟨Nat.zero_le _, Nat.zero_le _, h⟩⟩
theorem sameR_self (l : List Bs) (hl : l.length < 100000000) (hb : ∀ b ∈ l, B8 b) : PCalls Try.prog 24 [eS l, eS l] (.bool true) := by
  have := sameR_calls l l hl hb hb
  rwa [decide_eq_true rfl] at this
theorem room_law_calls (j : Jn) (b : Bs) (hj : okJn j) (hb : okBs b) (hz : szL j.recs ≤ 1048576) : PCalls Try.prog 6 [eJ j, eB b] (.bool true) := by
  have hB := hj.1.B8
  have hbB := hb.B8
  have f := few5_calls d0 j.recs (by omega)
  rw [fewJ0] at f
  have hbm : (b.map (PV.int .u8)).length = b.length := List.length_map _
  have c := check5_calls j (by omega)
  have r := room_calls j (by omega)
  have hlz := szL_len j.recs
  have hul := usedN_le j.recs
  cases hc : chkJ j with
  | false =>
    rw [hc, if_neg Bool.false_ne_true] at c
    refine PCalls.of (N := 109) (res := [.tmp 4]) mixed Try.func6 rfl rfl rfl (by kernel_rfl) (by simp) [0, 1, 2, 4, 5, 6, 7, 8, 10, 25, 44, 46] ?_
    repeat' (first | exact cl1 | ((with_reducible show Exists _); refine exU8 ?_) | ((with_reducible show callX _ _ _ _ _); (first | refine call_p (sane_calls) (by kernel_rfl) rfl ?_ | (refine call_z (f) (by kernel_rfl) rfl ?_; (repeat' (first | exact PV.leL_nil | refine PV.leL_cons ?_ ?_ | refine And.intro ?_ ?_ | exact Nat.zero_lt_succ _ | exact Nat.le_of_ble_eq_true rfl | exact PV.le_refl _ | exact PV.le_nil _ _ _ | exact PV.le_clip _ _ _ | refine PV.le_agg ?_ | refine PV.le_tup ?_ | rfl)); fail_if_success (any_goals (refine PV.le_of ?_))) | refine call_p (c) (by kernel_rfl) rfl ?_)) | ((fail_if_success with_reducible first | show LeG _ _ | show Lp _ _ _ _ | show Exists _ | show callX _ _ _ _ _ | show (_ : Int) ≤ _ | show (_ : Int) < _ | show (_ : Nat) ≤ _ | show (_ : Nat) < _); (conv => whnf) <;> (first | exact cl2 | refine XAlt.l ?_ | refine Sq.pr ?_ | refine Br.dec (fun hc => ?_) (fun hc => ?_) | refine Br.tt ?_ | refine Br.ff ?_ | refine Br.not ?_ | refine Br.mk (fun hc => ?_) (fun hc => ?_) | refine Opt.nn ?_ | refine Opt.ss ?_ | refine AltA.l ?_ | exact PV.leL_nil | refine PV.leL_cons ?_ ?_ | refine And.intro ?_ ?_ | refine ix_map (fun x hx => ?_) | refine exU8 ?_ | refine nilc (fun hn => ?_) ?_ | exact cl3 | refine imp0 (fun hpos => ?_) | refine fits_i64 ?_ ?_ | exact rfl | (with_reducible first | show LeG _ _ | show Lp _ _ _ _ | show Exists _ | show callX _ _ _ _ _)))) <;> (try exact cl5)
  | true =>
    rw [hc, if_pos rfl] at c
    obtain ⟨c1, c2, c3, c4, c5⟩ := chkJ_iff.1 hc
    unfold roomJ at r
    rw [hc, if_pos rfl] at r
    by_cases h7 : b.length ≤ 70000
    · have a := append_calls j b (by omega) (by omega)
      unfold appJ at a
      rw [hc, if_pos rfl] at a
      by_cases hf : j.many - ((usedN j.recs : Nat) : Int) < ((secN b.length : Nat) : Int)
      · rw [if_pos hf] at a
        have h1 : ¬ (112 * (j.many - ((usedN j.recs : Nat) : Int)) > 0 ∧ ((b.map (PV.int .u8)).length : Int) ≤ 112 * (j.many - ((usedN j.recs : Nat) : Int))) := by
          rw [hbm]; unfold secN at hf; omega
        refine PCalls.of (N := 109) (res := [.tmp 4]) mixed Try.func6 rfl rfl rfl (by kernel_rfl) (by simp) [0, 1, 2, 4, 5, 6, 7, 8, 10, 25, 44, 46] ?_
        repeat' (first | exact cl1 | ((with_reducible show Exists _); refine exU8 ?_) | ((with_reducible show callX _ _ _ _ _); (first | refine call_p (sane_calls) (by kernel_rfl) rfl ?_ | (refine call_z (f) (by kernel_rfl) rfl ?_; (repeat' (first | exact PV.leL_nil | refine PV.leL_cons ?_ ?_ | refine And.intro ?_ ?_ | exact Nat.zero_lt_succ _ | exact Nat.le_of_ble_eq_true rfl | exact PV.le_refl _ | exact PV.le_nil _ _ _ | exact PV.le_clip _ _ _ | refine PV.le_agg ?_ | refine PV.le_tup ?_ | rfl)); fail_if_success (any_goals (refine PV.le_of ?_))) | refine call_p (c) (by kernel_rfl) rfl ?_ | refine call_p (a) (by kernel_rfl) rfl ?_ | refine call_p (r) (by kernel_rfl) rfl ?_)) | ((fail_if_success with_reducible first | show LeG _ _ | show Lp _ _ _ _ | show Exists _ | show callX _ _ _ _ _ | show (_ : Int) ≤ _ | show (_ : Int) < _ | show (_ : Nat) ≤ _ | show (_ : Nat) < _); (conv => whnf) <;> (first | exact cl2 | refine XAlt.l ?_ | refine Sq.pr ?_ | refine Br.dec (fun hc => ?_) (fun hc => ?_) | refine Br.tt ?_ | refine Br.ff ?_ | refine Br.not ?_ | refine Br.mk (fun hc => ?_) (fun hc => ?_) | refine Opt.nn ?_ | refine Opt.ss ?_ | refine AltA.l ?_ | exact PV.leL_nil | refine PV.leL_cons ?_ ?_ | refine And.intro ?_ ?_ | refine ix_map (fun x hx => ?_) | refine exU8 ?_ | refine nilc (fun hn => ?_) ?_ | exact cl3 | refine imp0 (fun hpos => ?_) | refine fits_i64 ?_ ?_ | exact rfl | (with_reducible first | show LeG _ _ | show Lp _ _ _ _ | show Exists _ | show callX _ _ _ _ _)))) <;> (try exact cl5)
        all_goals exact absurd (decide_eq_decide.2 ⟨fun h => absurd h (by decide), fun h => absurd ⟨by assumption, h⟩ h1⟩) hc
      · rw [if_neg hf] at a
        have h1 : (112 * (j.many - ((usedN j.recs : Nat) : Int)) > 0 ∧ ((b.map (PV.int .u8)).length : Int) ≤ 112 * (j.many - ((usedN j.recs : Nat) : Int))) := by
          rw [hbm]; unfold secN at hf; omega
        have hB2 : ∀ c ∈ j.recs ++ [b], B8 c := fun c hc => by
          rcases List.mem_append.1 hc with h | h
          · exact hB c h
          · rw [List.mem_singleton.1 h]; exact hbB
        have hsz : szL (j.recs ++ [b]) = szL j.recs + (b.length + 1) := by unfold szL; rw [List.map_append, List.sum_append]; rfl
        have hus : usedN (j.recs ++ [b]) = usedN j.recs + secN b.length := by unfold usedN; rw [List.map_append, List.sum_append]; rfl
        have hx : chkJ { j with recs := j.recs ++ [b] } = true := chkJ_iff.2 ⟨c1, c2, c3, by show j.sync ≤ ((j.recs ++ [b]).length : Int); rw [List.length_append]; omega, by show ((usedN (j.recs ++ [b]) : Nat) : Int) ≤ j.many; rw [hus]; omega⟩
        have cx := check5_calls { j with recs := j.recs ++ [b] } (by show szL (j.recs ++ [b]) ≤ _; omega)
        rw [hx, if_pos rfl] at cx
        have rx := room_calls { j with recs := j.recs ++ [b] } (by show szL (j.recs ++ [b]) ≤ _; omega)
        unfold roomJ at rx
        rw [hx, if_pos rfl] at rx
        have rx : PCalls Try.prog 19 [eJ { j with recs := j.recs ++ [b] }] (eI (112 * (j.many - ((usedN (j.recs ++ [b]) : Nat) : Int)))) := rx
        rw [hus] at rx
        have hsp := secN_pos b.length
        have sm := sameR_self j.recs (by omega) hB
        have hmm : (j.recs.map eB).length = j.recs.length := List.length_map _
        have hm2 : ((j.recs ++ [b]).map eB).length = j.recs.length + 1 := by rw [List.length_map, List.length_append]; rfl
        have es : eS j.recs = .sl 1 false (List.drop (Int.toNat 0) (List.take (Int.toNat ((j.recs.map eB).length : Int)) ((j.recs ++ [b]).map eB))) := by
          show PV.sl 1 false _ = PV.sl 1 false _
          rw [show Int.toNat 0 = 0 from rfl, List.drop_zero, Int.toNat_natCast, hmm, ← List.map_take, List.take_left' rfl]
        have sm2 : PCalls Try.prog 24 [.sl 1 false (List.drop (Int.toNat 0) (List.take (Int.toNat ((j.recs.map eB).length : Int)) ((j.recs ++ [b]).map eB))), eS j.recs] (.bool true) := by rw [← es]; exact sm
        have hix : (j.recs ++ [b])[Int.toNat ((j.recs.map eB).length : Int)]? = some b := by
          rw [Int.toNat_natCast, hmm, List.getElem?_append_right (Nat.le_refl _), Nat.sub_self]; rfl
        refine PCalls.of (N := 109) (res := [.tmp 4]) mixed Try.func6 rfl rfl rfl (by kernel_rfl) (by simp) [0, 1, 2, 4, 5, 6, 7, 8, 10, 25, 44, 46] ?_
        repeat' (first | exact cl1 | ((with_reducible show Exists _); refine exU8 ?_) | ((with_reducible show callX _ _ _ _ _); (first | refine call_p (sane_calls) (by kernel_rfl) rfl ?_ | (refine call_z (f) (by kernel_rfl) rfl ?_; (repeat' (first | exact PV.leL_nil | refine PV.leL_cons ?_ ?_ | refine And.intro ?_ ?_ | exact Nat.zero_lt_succ _ | exact Nat.le_of_ble_eq_true rfl | exact PV.le_refl _ | exact PV.le_nil _ _ _ | exact PV.le_clip _ _ _ | refine PV.le_agg ?_ | refine PV.le_tup ?_ | rfl)); fail_if_success (any_goals (refine PV.le_of ?_))) | refine call_p (c) (by kernel_rfl) rfl ?_ | refine call_p (a) (by kernel_rfl) rfl ?_ | refine call_p (r) (by kernel_rfl) rfl ?_ | refine call_p (cx) (by kernel_rfl) rfl ?_ | refine call_p (rx) (by kernel_rfl) rfl ?_ | refine call_p (sm2) (by kernel_rfl) rfl ?_)) | ((fail_if_success with_reducible first | show LeG _ _ | show Lp _ _ _ _ | show Exists _ | show callX _ _ _ _ _ | show (_ : Int) ≤ _ | show (_ : Int) < _ | show (_ : Nat) ≤ _ | show (_ : Nat) < _); (conv => whnf) <;> (first | exact cl2 | refine ix_b hix ?_ | refine XAlt.l ?_ | refine Sq.pr ?_ | refine Br.dec (fun hc => ?_) (fun hc => ?_) | refine Br.tt ?_ | refine Br.ff ?_ | refine Br.not ?_ | refine Br.mk (fun hc => ?_) (fun hc => ?_) | refine Opt.nn ?_ | refine Opt.ss ?_ | refine AltA.l ?_ | exact PV.leL_nil | refine PV.leL_cons ?_ ?_ | refine And.intro ?_ ?_ | refine ix_map (fun x hx => ?_) | refine exU8 ?_ | refine nilc (fun hn => ?_) ?_ | exact cl3 | refine imp0 (fun hpos => ?_) | refine fits_i64 ?_ ?_ | exact rfl | (with_reducible first | show LeG _ _ | show Lp _ _ _ _ | show Exists _ | show callX _ _ _ _ _)))) <;> (try exact cl5)
        all_goals first
        | exact (hc rfl).elim
        | exact absurd (decide_eq_decide.2 ⟨fun _ => h1.2, fun _ => rfl⟩) hc
        | exact LeG.of (congrArg PV.bool (decide_eq_true (by omega)))
        | (exfalso
           have hc' : ¬ (((j.recs ++ [b]).map eB).length : Int) = ((j.recs.map eB).length : Int) + 1 := hc
           omega)
    · refine PCalls.of (N := 109) (res := [.tmp 4]) mixed Try.func6 rfl rfl rfl (by kernel_rfl) (by simp) [0, 1, 2, 4, 5, 6, 7, 8, 10, 25, 44, 46] ?_
      repeat' (first | exact cl1 | ((with_reducible show Exists _); refine exU8 ?_) | ((with_reducible show callX _ _ _ _ _); (first | refine call_p (sane_calls) (by kernel_rfl) rfl ?_ | (refine call_z (f) (by kernel_rfl) rfl ?_; (repeat' (first | exact PV.leL_nil | refine PV.leL_cons ?_ ?_ | refine And.intro ?_ ?_ | exact Nat.zero_lt_succ _ | exact Nat.le_of_ble_eq_true rfl | exact PV.le_refl _ | exact PV.le_nil _ _ _ | exact PV.le_clip _ _ _ | refine PV.le_agg ?_ | refine PV.le_tup ?_ | rfl)); fail_if_success (any_goals (refine PV.le_of ?_))) | refine call_p (c) (by kernel_rfl) rfl ?_)) | ((fail_if_success with_reducible first | show LeG _ _ | show Lp _ _ _ _ | show Exists _ | show callX _ _ _ _ _ | show (_ : Int) ≤ _ | show (_ : Int) < _ | show (_ : Nat) ≤ _ | show (_ : Nat) < _); (conv => whnf) <;> (first | exact cl2 | refine XAlt.l ?_ | refine Sq.pr ?_ | refine Br.dec (fun hc => ?_) (fun hc => ?_) | refine Br.tt ?_ | refine Br.ff ?_ | refine Br.not ?_ | refine Br.mk (fun hc => ?_) (fun hc => ?_) | refine Opt.nn ?_ | refine Opt.ss ?_ | refine AltA.l ?_ | exact PV.leL_nil | refine PV.leL_cons ?_ ?_ | refine And.intro ?_ ?_ | refine ix_map (fun x hx => ?_) | refine exU8 ?_ | refine nilc (fun hn => ?_) ?_ | exact cl3 | refine imp0 (fun hpos => ?_) | refine fits_i64 ?_ ?_ | exact rfl | (with_reducible first | show LeG _ _ | show Lp _ _ _ _ | show Exists _ | show callX _ _ _ _ _)))) <;> (try exact cl5)
end Go.Proofs.Ytijkiolobmkhhaa
