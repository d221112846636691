/- A part of the proof: contracts of the functions that the statement reaches. -/
import Derived.Test.YtcfkbohjnghelaaChp0
import Derived.Test.YtcfkbohjnghelaaRows
set_option linter.unusedSimpArgs false
set_option linter.unusedVariables false
set_option linter.unnecessarySimpa false
namespace Go.Proofs.Ytcfkbohjnghelaa
open Go Go.Sg
set_option maxRecDepth 100000
set_option maxHeartbeats 4000000
structure Ac where
  sync : Bool
  pos : Int
  byte : Int
def eA (a : Ac) : PV := .agg [.bool a.sync, .int .u8 a.pos, .int .u8 a.byte]
def eAs (l : List Ac) : PV := .sl 3 false (l.map eA)
/-- The write of an act. -/
def wA (d : Dk) (a : Ac) : Wr := ⟨(IntKind.i64.wrap a.pos).tmod ((d.secs.map eB).length : Int), fillB [a.byte]⟩
/-- After i writes, each with its sync. -/
def tst (d : Dk) (ws : List Wr) (i : Nat) : Dk × Int :=
  if 0 ≤ d.left ∧ d.left < i then (⟨tornW (perf d.secs (ws.take d.left.toNat)) (ws.getD d.left.toNat ⟨0, []⟩), [], 0, true⟩, 40)
  else (⟨perf d.secs (ws.take i), [], if 0 ≤ d.left then d.left - i else d.left, false⟩, 0)
theorem tst_sync (d : Dk) (ws : List Wr) (h : okD ⟨d.secs, ws, d.left, false⟩ = true) : syncD ⟨d.secs, ws, d.left, false⟩ = tst d ws ws.length := by
  unfold syncD tst
  have h1 : runD ⟨d.secs, ws, d.left, false⟩ = true := by simp [runD, h]
  rw [if_pos h1]
  simp only [List.length_map]
  by_cases e : 0 ≤ d.left
  · by_cases f : d.left < ws.length
    · rw [if_pos e, if_pos f, if_pos ⟨e, f⟩]
    · rw [if_pos e, if_neg f, if_neg (fun g => f g.2), List.take_of_length_le (Nat.le_refl _), if_pos e]
  · rw [if_neg e, if_neg (fun g => e g.1), List.take_of_length_le (Nat.le_refl _), if_neg e]
theorem tst_ok {d : Dk} {ws : List Wr} {i : Nat} (h : okD d = true) (hi : i ≤ ws.length) (hw : ∀ w ∈ ws, (0 ≤ w.pos ∧ w.pos < d.secs.length) ∧ w.data.length = 128) (hs : ¬ (0 ≤ d.left ∧ d.left < i)) : tst d ws i = (⟨perf d.secs (ws.take i), [], if 0 ≤ d.left then d.left - i else d.left, false⟩, 0) ∧ okD (tst d ws i).1 = true := by
  obtain ⟨⟨k1, k2⟩, k3, k4, k5, k6⟩ := okD_spec h
  have e : tst d ws i = (⟨perf d.secs (ws.take i), [], if 0 ≤ d.left then d.left - i else d.left, false⟩, 0) := if_neg hs
  refine ⟨e, ?_⟩
  rw [e]
  have hq := perf_all (Q := fun b => b.length = 128) (ws.take i) d.secs k6 (fun w hm => (hw w (List.mem_of_mem_take hm)).2)
  refine okD_in (by rw [perf_len]; omega) (by rw [perf_len]; omega) (by simp) ?_ ?_ (by simp) hq
  · show -1 ≤ (if 0 ≤ d.left then d.left - i else d.left); split <;> omega
  · show (if 0 ≤ d.left then d.left - i else d.left) ≤ 65536; split <;> omega
theorem tst_step {d : Dk} {ws : List Wr} {i : Nat} {w : Wr} {n : Int} {b : Bs} (h : okD d = true) (hi : ws[i]? = some w) (he : w = ⟨n, fillB b⟩) (hb : b.length ≤ 128) (hw : ∀ w ∈ ws, (0 ≤ w.pos ∧ w.pos < d.secs.length) ∧ w.data.length = 128) (hs : ¬ (0 ≤ d.left ∧ d.left < i)) :
    writeD (tst d ws i).1 n b = (addD (tst d ws i).1 n b, 0) ∧ syncD (addD (tst d ws i).1 n b) = tst d ws (i + 1) := by
  have hl : i < ws.length := (List.getElem?_eq_some_iff.1 hi).1
  obtain ⟨e, o⟩ := tst_ok h (by omega) hw hs
  have hm := hw w (List.mem_of_getElem? hi)
  have hst : (tst d ws i).1.stop = false := by rw [e]
  have hp : (tst d ws i).1.pend = [] := by rw [e]
  have hsl : (tst d ws i).1.secs = perf d.secs (ws.take i) := by rw [e]
  have hr : runD (tst d ws i).1 = true := by simp [runD, o, hst]
  have hh : hasD (tst d ws i).1 n = true := by
    simp only [hasD, hsl, perf_len, Bool.and_eq_true, decide_eq_true_eq]
    subst he; exact hm.1
  refine ⟨writeD_ok hr hh hb (by rw [hp]; simp), ?_⟩
  have ho : okD (addD (tst d ws i).1 n b) = true := addD_ok o hh hb (by rw [hp]; simp)
  have ha : addD (tst d ws i).1 n b = ⟨perf d.secs (ws.take i), [w], if 0 ≤ d.left then d.left - i else d.left, false⟩ := by
    rw [e]; subst he; rfl
  rw [ha] at ho ⊢
  have hr : runD ⟨perf d.secs (ws.take i), [w], if 0 ≤ d.left then d.left - i else d.left, false⟩ = true := by simp [runD, ho]
  have hpt := perf_take d.secs ws i w hi
  have hp1 : perf (perf d.secs (ws.take i)) [w] = perf d.secs (ws.take (i + 1)) := by rw [hpt]; rfl
  unfold syncD
  rw [if_pos hr]
  unfold tst
  simp only [List.length_map, List.length_cons, List.length_nil]
  by_cases f : 0 ≤ d.left
  · simp only [if_pos f]
    rw [if_pos (by omega)]
    by_cases g : d.left = i
    · have g2 : d.left.toNat = i := by omega
      rw [if_pos (by omega), if_pos (by omega), g2]
      have : (d.left - i).toNat = 0 := by omega
      rw [this]
      simp [List.getD, hi, perf]
    · rw [if_neg (by omega), if_neg (by omega), hp1]
      congr 2
      omega
  · simp only [if_neg f]
    rw [if_neg (fun g => f g.1), hp1]
theorem wA_ok {d : Dk} {a : Ac} (h : 0 ≤ a.pos ∧ a.pos < 256) (hs : 0 < d.secs.length) : (0 ≤ (wA d a).pos ∧ (wA d a).pos < d.secs.length) ∧ (wA d a).data.length = 128 := by
  have e : IntKind.i64.wrap a.pos = a.pos := by
    have : 0 ≤ a.pos := h.1
    have : a.pos < 256 := h.2
    simp only [IntKind.wrap, IntKind.bits, IntKind.signed, Bool.true_and, decide_eq_true_eq, Nat.reduceSub, Int.reducePow, ge_iff_le]
    split <;> omega
  refine ⟨?_, fillB_len _ (by simp)⟩
  show 0 ≤ (IntKind.i64.wrap a.pos).tmod ((d.secs.map eB).length : Int) ∧ (IntKind.i64.wrap a.pos).tmod ((d.secs.map eB).length : Int) < d.secs.length
  rw [e, List.length_map, Int.tmod_eq_emod_of_nonneg h.1]
  exact ⟨Int.emod_nonneg _ (by omega), Int.emod_lt_of_pos _ (by omega)⟩
theorem tst_zero {d : Dk} (ws : List Wr) (hp : d.pend = []) (hs : d.stop = false) : tst d ws 0 = (d, 0) := by
  unfold tst
  rw [if_neg (by simp)]
  cases d
  simp_all [perf]
theorem together_calls (d : Dk) (l : List Ac) (hr : rdD d) (ha : ∀ a ∈ l, 0 ≤ a.pos ∧ a.pos < 256) : PCalls Try.prog 8 [eD d, eAs l] (.bool true) := by
  by_cases hfew : fewW d.pend (fewS d.secs 0) ≤ 9000
  · obtain ⟨l1, l2⟩ := few_len hfew
    have q1 := check_calls d l1 l2
    cases ho : okD d with
    | false =>
      simp only [ho, Bool.false_eq_true, ↓reduceIte] at q1
      refine PCalls.of (N := 131) (res := [.tmp 4]) mixed Try.func8 rfl rfl rfl (by kernel_rfl) (by simp) [0, 1, 2, 4, 5, 6, 7, 8, 9, 10, 11, 12, 13, 14, 15, 17, 46, 56, 82, 91, 116] ?_
      repeat' (first | ((with_reducible show _ = _); exact rfl) | ((with_reducible show (_ : Nat) < _); exact Nat.zero_lt_succ _) | ((with_reducible show (_ : Nat) ≤ _); exact Nat.le_of_ble_eq_true rfl) | ((with_reducible show Exists _); refine exU8 ?_) | ((with_reducible show callX _ _ _ _ _); (first | refine call_p (sane_calls) (by kernel_rfl) rfl ?_ | refine call_p (few_calls d hr.s hr.p) (by kernel_rfl) rfl ?_ | refine call_p (q1) (by kernel_rfl) rfl ?_)) | ((fail_if_success (first | (with_reducible show LeG _ _) | (with_reducible show Lp _ _ _ _) | (with_reducible show Exists _) | (with_reducible show callX _ _ _ _ _) | (with_reducible show (_ : Int) ≤ _) | (with_reducible show (_ : Int) < _) | (with_reducible show (_ : Nat) ≤ _) | (with_reducible show (_ : Nat) < _))); (conv => whnf) <;> (first | exact OkR.mk (by kernel_rfl) | refine Sq.pr ?_ | refine Br.dec (fun hc => ?_) (fun hc => ?_) | refine Br.tt ?_ | refine Br.ff ?_ | refine Br.not ?_ | refine Br.mk (fun hc => ?_) (fun hc => ?_) | refine Opt.nn ?_ | refine Opt.ss ?_ | exact PV.leL_nil | refine PV.leL_cons ?_ ?_ | refine And.intro ?_ ?_ | refine ix_map (fun x hx => ?_) | refine exU8 ?_ | refine nilc (fun hn => ?_) ?_ | refine call_p (sane_calls) (by kernel_rfl) rfl ?_ | refine call_p (few_calls d hr.s hr.p) (by kernel_rfl) rfl ?_ | refine call_p (q1) (by kernel_rfl) rfl ?_ | exact PV.le_refl _ | exact Nat.zero_lt_succ _ | exact Nat.le_of_ble_eq_true rfl | exact onesOf rfl | exact Or.inl rfl | exact noMem | exact onesOfP rfl | exact okAll rfl | exact okMap (fun _ => ⟨rfl, onesOfP rfl⟩) | exact nonz | refine imp0 (fun hpos => ?_) | refine fits_i64 ?_ ?_ | exact rfl | (with_reducible show LeG _ _) | (with_reducible show Lp _ _ _ _) | (with_reducible show Exists _) | (with_reducible show callX _ _ _ _ _)))) <;> (try (first | exact LeG.refl _ | omega | ((first | (with_reducible show (_ : Int) ≤ _) | (with_reducible show (_ : Int) < _) | (with_reducible show (_ : Nat) ≤ _) | (with_reducible show (_ : Nat) < _) | (with_reducible show ¬ _) | (with_reducible show (_ : Int) = _) | (with_reducible show (_ : Nat) = _)); (simp only [List.length_map, List.length_append, List.length_cons, List.length_nil, List.length_replicate, List.length_take, List.length_drop, List.length_set, Int.toNat_natCast, Int.reduceToNat] <;> omega)) | exact of_decide_eq_true rfl))
    | true =>
      simp only [ho, Bool.false_eq_true, ↓reduceIte] at q1
      refine PCalls.of (N := 131) (res := [.tmp 4]) mixed Try.func8 rfl rfl rfl (by kernel_rfl) (by simp) [0, 1, 2, 4, 5, 6, 7, 8, 9, 10, 11, 12, 13, 14, 15, 17, 46, 56, 82, 91, 116] ?_
      repeat' (first | ((with_reducible show _ = _); exact rfl) | ((with_reducible show (_ : Nat) < _); exact Nat.zero_lt_succ _) | ((with_reducible show (_ : Nat) ≤ _); exact Nat.le_of_ble_eq_true rfl) | ((with_reducible show Exists _); refine exU8 ?_) | ((with_reducible show callX _ _ _ _ _); (first | refine call_p (sane_calls) (by kernel_rfl) rfl ?_ | refine call_p (few_calls d hr.s hr.p) (by kernel_rfl) rfl ?_ | refine call_p (q1) (by kernel_rfl) rfl ?_)) | ((fail_if_success (first | (with_reducible show LeG _ _) | (with_reducible show Lp _ _ _ _) | (with_reducible show Exists _) | (with_reducible show callX _ _ _ _ _) | (with_reducible show (_ : Int) ≤ _) | (with_reducible show (_ : Int) < _) | (with_reducible show (_ : Nat) ≤ _) | (with_reducible show (_ : Nat) < _))); (conv => whnf) <;> (first | exact OkR.mk (by kernel_rfl) | refine Sq.pr ?_ | refine Br.dec (fun hc => ?_) (fun hc => ?_) | refine Br.tt ?_ | refine Br.ff ?_ | refine Br.not ?_ | refine Br.mk (fun hc => ?_) (fun hc => ?_) | refine Opt.nn ?_ | refine Opt.ss ?_ | exact PV.leL_nil | refine PV.leL_cons ?_ ?_ | refine And.intro ?_ ?_ | refine ix_map (fun x hx => ?_) | refine exU8 ?_ | refine nilc (fun hn => ?_) ?_ | refine call_p (sane_calls) (by kernel_rfl) rfl ?_ | refine call_p (few_calls d hr.s hr.p) (by kernel_rfl) rfl ?_ | refine call_p (q1) (by kernel_rfl) rfl ?_ | exact PV.le_refl _ | exact Nat.zero_lt_succ _ | exact Nat.le_of_ble_eq_true rfl | exact onesOf rfl | exact Or.inl rfl | exact noMem | exact onesOfP rfl | exact okAll rfl | exact okMap (fun _ => ⟨rfl, onesOfP rfl⟩) | exact nonz | refine imp0 (fun hpos => ?_) | refine fits_i64 ?_ ?_ | exact rfl | (with_reducible show LeG _ _) | (with_reducible show Lp _ _ _ _) | (with_reducible show Exists _) | (with_reducible show callX _ _ _ _ _)))) <;> (try (first | exact LeG.refl _ | omega | ((first | (with_reducible show (_ : Int) ≤ _) | (with_reducible show (_ : Int) < _) | (with_reducible show (_ : Nat) ≤ _) | (with_reducible show (_ : Nat) < _) | (with_reducible show ¬ _) | (with_reducible show (_ : Int) = _) | (with_reducible show (_ : Nat) = _)); (simp only [List.length_map, List.length_append, List.length_cons, List.length_nil, List.length_replicate, List.length_take, List.length_drop, List.length_set, Int.toNat_natCast, Int.reduceToNat] <;> omega)) | exact of_decide_eq_true rfl))
      have hp0 : d.pend = [] := by
        have h : ¬ 0 < ((d.pend.map eW).length : Int) := by assumption
        simp only [List.length_map] at h
        exact List.length_eq_zero_iff.1 (by omega)
      have hs1 : 0 < d.secs.length := by have := (okD_spec ho).1.1; omega
      have hw : ∀ w ∈ l.map (wA d), (0 ≤ w.pos ∧ w.pos < d.secs.length) ∧ w.data.length = 128 := fun w hm => by
        obtain ⟨a, ham, e⟩ := List.mem_map.1 hm
        subst e
        exact wA_ok (ha a ham) hs1
      refine Wpc.loopA (α := {i : Nat // i ≤ l.length ∧ (0 ≤ d.left → (i : Int) ≤ d.left + 1)}) mixed [0, 1, 2, 4, 5, 6, 7, 8, 9, 10, 11, 12, 13, 14, 15, 17, 46, 56, 82, 91, 116] (fun i => [(7, .p (eE (tst d (l.map (wA d)) i.1).2)), (8, .p (eI i.1))]) (fun i => [(2240, .cells [.p (eS (tst d (l.map (wA d)) i.1).1.secs), .p (eP (tst d (l.map (wA d)) i.1).1.pend), .p (eI (tst d (l.map (wA d)) i.1).1.left), .p (.bool (tst d (l.map (wA d)) i.1).1.stop)])]) (fun _ => 0) (fun i => l.length - i.1) ⟨0, by omega, by omega⟩ ?_ ?_
      · have e0 := tst_zero (l.map (wA d)) hp0 (by assumption)
        show Ent _ _ (hdS [0, 1, 2, 4, 5, 6, 7, 8, 9, 10, 11, 12, 13, 14, 15, 17, 46, 56, 82, 91, 116] _ _ _ [(7, .p (eE (tst d (l.map (wA d)) 0).2)), (8, .p (eI 0))] [(2240, .cells [.p (eS (tst d (l.map (wA d)) 0).1.secs), .p (eP (tst d (l.map (wA d)) 0).1.pend), .p (eI (tst d (l.map (wA d)) 0).1.left), .p (.bool (tst d (l.map (wA d)) 0).1.stop)])] _)
        rw [e0]
        (first | refine Ent.ofA [] ?_ | refine Ent.ofC [] ?_) <;> (repeat' (first | exact trivial | refine HpLe.mk rfl (by simp) rfl (fun h => AObj.noConfusion h) ?_ ?_ | refine And.intro ?_ ?_ | exact VLe.refl _ | exact VLe.msl rfl | exact VLe.rsl rfl | exact VLe.csl rfl | exact VLe.cslr rfl | exact VLe.mp rfl | exact VLe.eptr rfl | exact VLe.ptr rfl | exact VLe.any _ | refine VLe.pe ?_ | refine VLe.agg ?_ | refine VLeL.cons ?_ ?_ | exact VLeL.nil | exact OLe.row _ _ | rfl | refine VLe.rsle rfl ?_ ?_ ?_ | refine OLe.rowe2 ?_ ?_ | refine OLe.mape ?_ ?_)) <;> try (first | (simp; done) | (congr 1; omega) | (congr 1; (first | (simp; done) | (simp; omega))))
      rintro ⟨i, hi, hi2⟩
      have hlt : ∀ a, l[i]? = some a → i < l.length := fun a h => (List.getElem?_eq_some_iff.1 h).1
      have hns : (tst d (l.map (wA d)) i).2 = 0 → ¬ (0 ≤ d.left ∧ d.left < i) := fun h e => by
        unfold tst at h; rw [if_pos e] at h; exact absurd (show (40 : Int) = 0 from h) (by decide)
      have hsp : ∀ a, l[i]? = some a → (tst d (l.map (wA d)) i).2 = 0 → _ := fun a h h2 => tst_step (n := (IntKind.i64.wrap a.pos).tmod ((d.secs.map eB).length : Int)) (b := [a.byte]) ho (show (l.map (wA d))[i]? = some (wA d a) by rw [List.getElem?_map, h]; rfl) rfl (by simp) hw (hns h2)
      have hts : (tst d (l.map (wA d)) i).2 = 0 → (tst d (l.map (wA d)) i).1.secs.length < 1000000 ∧ (tst d (l.map (wA d)) i).1.pend = [] := fun h => by
        rw [(tst_ok ho (by rw [List.length_map]; omega) hw (hns h)).1]
        exact ⟨by rw [perf_len]; omega, rfl⟩
      have q2 : ∀ a, l[i]? = some a → (tst d (l.map (wA d)) i).2 = 0 → PCalls Try.prog 19 [eD (tst d (l.map (wA d)) i).1, eI ((IntKind.i64.wrap a.pos).tmod ((d.secs.map eB).length : Int)), eB [a.byte]] (eR (addD (tst d (l.map (wA d)) i).1 ((IntKind.i64.wrap a.pos).tmod ((d.secs.map eB).length : Int)) [a.byte], 0)) := fun a h h2 => by
        have := write_calls (tst d (l.map (wA d)) i).1 ((IntKind.i64.wrap a.pos).tmod ((d.secs.map eB).length : Int)) [a.byte] (hts h2).1 (by rw [(hts h2).2]; simp) (by simp)
        rwa [(hsp a h h2).1] at this
      have q3 : ∀ a, l[i]? = some a → (tst d (l.map (wA d)) i).2 = 0 → PCalls Try.prog 23 [eD (addD (tst d (l.map (wA d)) i).1 ((IntKind.i64.wrap a.pos).tmod ((d.secs.map eB).length : Int)) [a.byte])] (eR (tst d (l.map (wA d)) (i + 1))) := fun a h h2 => by
        have := sync_calls (addD (tst d (l.map (wA d)) i).1 ((IntKind.i64.wrap a.pos).tmod ((d.secs.map eB).length : Int)) [a.byte]) (hts h2).1 (by show ((tst d (l.map (wA d)) i).1.pend ++ [_]).length < _; rw [(hts h2).2]; simp)
        rwa [(hsp a h h2).2] at this
      repeat' (first | ((with_reducible show _ = _); exact rfl) | ((with_reducible show (_ : Nat) < _); exact Nat.zero_lt_succ _) | ((with_reducible show (_ : Nat) ≤ _); exact Nat.le_of_ble_eq_true rfl) | ((with_reducible show Exists _); refine exU8 ?_) | ((fail_if_success (first | (with_reducible show LeG _ _) | (with_reducible show Lp _ _ _ _) | (with_reducible show Exists _) | (with_reducible show callX _ _ _ _ _) | (with_reducible show (_ : Int) ≤ _) | (with_reducible show (_ : Int) < _) | (with_reducible show (_ : Nat) ≤ _) | (with_reducible show (_ : Nat) < _))); (conv => whnf) <;> (first | exact OkR.mk (by kernel_rfl) | refine Sq.pr ?_ | refine Br.dec (fun hc => ?_) (fun hc => ?_) | refine Br.tt ?_ | refine Br.ff ?_ | refine Br.not ?_ | refine Br.mk (fun hc => ?_) (fun hc => ?_) | refine Opt.nn ?_ | refine Opt.ss ?_ | exact PV.leL_nil | refine PV.leL_cons ?_ ?_ | refine And.intro ?_ ?_ | refine ix_map (fun x hx => ?_) | refine exU8 ?_ | refine nilc (fun hn => ?_) ?_ | exact PV.le_refl _ | exact Nat.zero_lt_succ _ | exact Nat.le_of_ble_eq_true rfl | exact onesOf rfl | exact Or.inl rfl | exact noMem | exact onesOfP rfl | exact okAll rfl | exact okMap (fun _ => ⟨rfl, onesOfP rfl⟩) | exact nonz | refine imp0 (fun hpos => ?_) | refine fits_i64 ?_ ?_ | exact rfl | (with_reducible show LeG _ _) | (with_reducible show Lp _ _ _ _) | (with_reducible show Exists _) | (with_reducible show callX _ _ _ _ _)))) <;> (try (first | exact LeG.refl _ | omega | ((first | (with_reducible show (_ : Int) ≤ _) | (with_reducible show (_ : Int) < _) | (with_reducible show (_ : Nat) ≤ _) | (with_reducible show (_ : Nat) < _) | (with_reducible show ¬ _) | (with_reducible show (_ : Int) = _) | (with_reducible show (_ : Nat) = _)); (simp only [List.length_map, List.length_append, List.length_cons, List.length_nil, List.length_replicate, List.length_take, List.length_drop, List.length_set, Int.toNat_natCast, Int.reduceToNat] <;> omega)) | exact of_decide_eq_true rfl))
      · rename_i a h1
        have h1 : l[i]? = some a := h1
        have hx : l[i]? = some x := hx
        rw [h1] at hx; injection hx with hx; subst hx
        have hz : (tst d (l.map (wA d)) i).2 = 0 := hc
        repeat' (first | ((with_reducible show _ = _); exact rfl) | ((with_reducible show (_ : Nat) < _); exact Nat.zero_lt_succ _) | ((with_reducible show (_ : Nat) ≤ _); exact Nat.le_of_ble_eq_true rfl) | ((with_reducible show Exists _); refine exU8 ?_) | ((with_reducible show callX _ _ _ _ _); (first | (refine call_z (q2 a h1 hz) (by kernel_rfl) rfl ?_; (repeat' (first | exact PV.leL_nil | refine PV.leL_cons ?_ ?_ | refine And.intro ?_ ?_ | exact Nat.zero_lt_succ _ | exact Nat.le_of_ble_eq_true rfl | exact PV.le_refl _ | exact PV.le_nil _ _ _ | exact PV.le_clip _ _ _ | refine PV.le_agg ?_ | refine PV.le_tup ?_ | rfl)); fail_if_success (any_goals (refine PV.le_of ?_))) | refine call_p (q3 a h1 hz) (by kernel_rfl) rfl ?_)) | ((fail_if_success (first | (with_reducible show LeG _ _) | (with_reducible show Lp _ _ _ _) | (with_reducible show Exists _) | (with_reducible show callX _ _ _ _ _) | (with_reducible show (_ : Int) ≤ _) | (with_reducible show (_ : Int) < _) | (with_reducible show (_ : Nat) ≤ _) | (with_reducible show (_ : Nat) < _))); (conv => whnf) <;> (first | exact OkR.mk (by kernel_rfl) | refine Sq.pr ?_ | refine Br.dec (fun hc => ?_) (fun hc => ?_) | refine Br.tt ?_ | refine Br.ff ?_ | refine Br.not ?_ | refine Br.mk (fun hc => ?_) (fun hc => ?_) | refine Opt.nn ?_ | refine Opt.ss ?_ | exact PV.leL_nil | refine PV.leL_cons ?_ ?_ | refine And.intro ?_ ?_ | refine ix_map (fun x hx => ?_) | refine exU8 ?_ | refine nilc (fun hn => ?_) ?_ | (refine call_z (q2 a h1 hz) (by kernel_rfl) rfl ?_; (repeat' (first | exact PV.leL_nil | refine PV.leL_cons ?_ ?_ | refine And.intro ?_ ?_ | exact Nat.zero_lt_succ _ | exact Nat.le_of_ble_eq_true rfl | exact PV.le_refl _ | exact PV.le_nil _ _ _ | exact PV.le_clip _ _ _ | refine PV.le_agg ?_ | refine PV.le_tup ?_ | rfl)); fail_if_success (any_goals (refine PV.le_of ?_))) | refine call_p (q3 a h1 hz) (by kernel_rfl) rfl ?_ | exact PV.le_refl _ | exact Nat.zero_lt_succ _ | exact Nat.le_of_ble_eq_true rfl | exact onesOf rfl | exact Or.inl rfl | exact noMem | exact onesOfP rfl | exact okAll rfl | exact okMap (fun _ => ⟨rfl, onesOfP rfl⟩) | exact nonz | refine imp0 (fun hpos => ?_) | refine fits_i64 ?_ ?_ | exact rfl | (with_reducible show LeG _ _) | (with_reducible show Lp _ _ _ _) | (with_reducible show Exists _) | (with_reducible show callX _ _ _ _ _)))) <;> (try (first | exact LeG.refl _ | omega | ((first | (with_reducible show (_ : Int) ≤ _) | (with_reducible show (_ : Int) < _) | (with_reducible show (_ : Nat) ≤ _) | (with_reducible show (_ : Nat) < _) | (with_reducible show ¬ _) | (with_reducible show (_ : Int) = _) | (with_reducible show (_ : Nat) = _)); (simp only [List.length_map, List.length_append, List.length_cons, List.length_nil, List.length_replicate, List.length_take, List.length_drop, List.length_set, Int.toNat_natCast, Int.reduceToNat] <;> omega)) | exact of_decide_eq_true rfl))
        refine ⟨⟨i + 1, hlt a h1, fun h => by have := hns hz; omega⟩, by show l.length - (i + 1) < l.length - i; have := hlt a h1; omega, ?_⟩
        (first | refine Ent.ofA [] ?_ | refine Ent.ofC [] ?_) <;> (repeat' (first | exact trivial | refine HpLe.mk rfl (by simp) rfl (fun h => AObj.noConfusion h) ?_ ?_ | refine And.intro ?_ ?_ | exact VLe.refl _ | exact VLe.msl rfl | exact VLe.rsl rfl | exact VLe.csl rfl | exact VLe.cslr rfl | exact VLe.mp rfl | exact VLe.eptr rfl | exact VLe.ptr rfl | exact VLe.any _ | refine VLe.pe ?_ | refine VLe.agg ?_ | refine VLeL.cons ?_ ?_ | exact VLeL.nil | exact OLe.row _ _ | rfl | refine VLe.rsle rfl ?_ ?_ ?_ | refine OLe.rowe2 ?_ ?_ | refine OLe.mape ?_ ?_)) <;> try (first | (simp; done) | (congr 1; omega) | (congr 1; (first | (simp; done) | (simp; omega))))
      all_goals (
        have he : tst d (l.map (wA d)) i = tst d (l.map (wA d)) (l.map (wA d)).length := by
          rw [List.length_map]
          by_cases e : 0 ≤ d.left ∧ d.left < i
          · have e2 : 0 ≤ d.left ∧ d.left < l.length := ⟨e.1, by omega⟩
            unfold tst; rw [if_pos e, if_pos e2]
          · have hz := (tst_ok ho (show i ≤ (l.map (wA d)).length by rw [List.length_map]; omega) hw e).1
            have : ¬ i < l.length := fun f => by
              first
              | exact absurd (show (tst d (l.map (wA d)) i).2 = 0 by rw [hz]) (by assumption)
              | (have hc : ¬ (i : Int) < ((l.map eA).length : Int) := by assumption
                 simp only [List.length_map] at hc; omega)
            have : i = l.length := by omega
            rw [this]
        have hst : d.stop = false := by assumption
        have yok : ∀ k, k ≤ l.length → l.length ≤ 20 → okD ⟨d.secs, (l.map (wA d)).take k, d.left, false⟩ = true := fun k h h2 => by
          obtain ⟨⟨k1, k2⟩, k3, k4, k5, k6⟩ := okD_spec ho
          exact okD_in k1 k2 (by simp; omega) k4.1 k4.2 (fun w hm => hw w (List.mem_of_mem_take hm)) k6
        have h20 : l.length ≤ 20 := by
          have h : ¬ 20 < ((l.map eA).length : Int) := by assumption
          simp only [List.length_map] at h; omega
        have q4 : ∀ k a, l[k]? = some a → PCalls Try.prog 19 [eD ⟨d.secs, (l.map (wA d)).take k, d.left, false⟩, eI ((IntKind.i64.wrap a.pos).tmod ((d.secs.map eB).length : Int)), eB [a.byte]] (eR (⟨d.secs, (l.map (wA d)).take (k + 1), d.left, false⟩, 0)) := fun k a h => by
          have hk := (List.getElem?_eq_some_iff.1 h).1
          have := write_calls ⟨d.secs, (l.map (wA d)).take k, d.left, false⟩ ((IntKind.i64.wrap a.pos).tmod ((d.secs.map eB).length : Int)) [a.byte] l1 (by simp; omega) (by simp)
          have hm := hw (wA d a) (List.mem_map.2 ⟨a, List.mem_of_getElem? h, rfl⟩)
          rw [writeD_ok (by simp [runD, yok k (by omega) h20]) (by simp only [hasD, Bool.and_eq_true, decide_eq_true_eq]; exact hm.1) (by simp) (by simp; omega)] at this
          have e : addD ⟨d.secs, (l.map (wA d)).take k, d.left, false⟩ ((IntKind.i64.wrap a.pos).tmod ((d.secs.map eB).length : Int)) [a.byte] = ⟨d.secs, (l.map (wA d)).take (k + 1), d.left, false⟩ := by
            unfold addD
            rw [List.take_add_one, List.getElem?_map, h]; rfl
          rwa [e] at this
        have q5 : PCalls Try.prog 23 [eD ⟨d.secs, (l.map (wA d)).take l.length, d.left, false⟩] (eR (tst d (l.map (wA d)) i)) := by
          have := sync_calls ⟨d.secs, (l.map (wA d)).take l.length, d.left, false⟩ l1 (by simp; omega)
          rw [he, ← tst_sync d _ (by have := yok l.length (by omega) h20; rwa [List.take_of_length_le (by simp)] at this)]
          rwa [List.take_of_length_le (by simp)] at this ⊢
        have hsl : (tst d (l.map (wA d)) i).1.secs.length < 1000000 ∧ (tst d (l.map (wA d)) i).1.pend.length < 1000000 := by
          unfold tst; split
          · exact ⟨by simp [tornW, perf_len]; omega, by simp⟩
          · exact ⟨by simp [perf_len]; omega, by simp⟩
        refine Wpc.loopA (α := {k : Nat // k ≤ l.length}) mixed [0, 1, 2, 4, 5, 6, 7, 8, 9, 10, 11, 12, 13, 14, 15, 17, 46, 56, 82, 91, 116] (fun k => [(12, .p (eI k.1))]) (fun k => [(2304, .cells [.p (eS d.secs), .p (eP ((l.map (wA d)).take k.1)), .p (eI d.left), .p (.bool false)])]) (fun _ => 0) (fun k => l.length - k.1) ⟨0, by omega⟩ ?_ ?_
        · show Ent _ _ (hdS [0, 1, 2, 4, 5, 6, 7, 8, 9, 10, 11, 12, 13, 14, 15, 17, 46, 56, 82, 91, 116] _ _ _ [(12, .p (eI 0))] [(2304, .cells [.p (eS d.secs), .p (eP []), .p (eI d.left), .p (.bool false)])] _)
          rw [hst, hp0]
          (first | refine Ent.ofA [] ?_ | refine Ent.ofC [] ?_) <;> (repeat' (first | exact trivial | refine HpLe.mk rfl (by simp) rfl (fun h => AObj.noConfusion h) ?_ ?_ | refine And.intro ?_ ?_ | exact VLe.refl _ | exact VLe.msl rfl | exact VLe.rsl rfl | exact VLe.csl rfl | exact VLe.cslr rfl | exact VLe.mp rfl | exact VLe.eptr rfl | exact VLe.ptr rfl | exact VLe.any _ | refine VLe.pe ?_ | refine VLe.agg ?_ | refine VLeL.cons ?_ ?_ | exact VLeL.nil | exact OLe.row _ _ | rfl | refine VLe.rsle rfl ?_ ?_ ?_ | refine OLe.rowe2 ?_ ?_ | refine OLe.mape ?_ ?_)) <;> try (first | (simp; done) | (congr 1; omega) | (congr 1; (first | (simp; done) | (simp; omega))))
        rintro ⟨k, hk⟩
        repeat' (first | ((with_reducible show _ = _); exact rfl) | ((with_reducible show (_ : Nat) < _); exact Nat.zero_lt_succ _) | ((with_reducible show (_ : Nat) ≤ _); exact Nat.le_of_ble_eq_true rfl) | ((with_reducible show Exists _); refine exU8 ?_) | ((fail_if_success (first | (with_reducible show LeG _ _) | (with_reducible show Lp _ _ _ _) | (with_reducible show Exists _) | (with_reducible show callX _ _ _ _ _) | (with_reducible show (_ : Int) ≤ _) | (with_reducible show (_ : Int) < _) | (with_reducible show (_ : Nat) ≤ _) | (with_reducible show (_ : Nat) < _))); (conv => whnf) <;> (first | exact OkR.mk (by kernel_rfl) | refine Sq.pr ?_ | refine Br.dec (fun hc => ?_) (fun hc => ?_) | refine Br.tt ?_ | refine Br.ff ?_ | refine Br.not ?_ | refine Br.mk (fun hc => ?_) (fun hc => ?_) | refine Opt.nn ?_ | refine Opt.ss ?_ | exact PV.leL_nil | refine PV.leL_cons ?_ ?_ | refine And.intro ?_ ?_ | refine ix_map (fun x hx => ?_) | refine exU8 ?_ | refine nilc (fun hn => ?_) ?_ | exact PV.le_refl _ | exact Nat.zero_lt_succ _ | exact Nat.le_of_ble_eq_true rfl | exact onesOf rfl | exact Or.inl rfl | exact noMem | exact onesOfP rfl | exact okAll rfl | exact okMap (fun _ => ⟨rfl, onesOfP rfl⟩) | exact nonz | refine imp0 (fun hpos => ?_) | refine fits_i64 ?_ ?_ | exact rfl | (with_reducible show LeG _ _) | (with_reducible show Lp _ _ _ _) | (with_reducible show Exists _) | (with_reducible show callX _ _ _ _ _)))) <;> (try (first | exact LeG.refl _ | omega | ((first | (with_reducible show (_ : Int) ≤ _) | (with_reducible show (_ : Int) < _) | (with_reducible show (_ : Nat) ≤ _) | (with_reducible show (_ : Nat) < _) | (with_reducible show ¬ _) | (with_reducible show (_ : Int) = _) | (with_reducible show (_ : Nat) = _)); (simp only [List.length_map, List.length_append, List.length_cons, List.length_nil, List.length_replicate, List.length_take, List.length_drop, List.length_set, Int.toNat_natCast, Int.reduceToNat] <;> omega)) | exact of_decide_eq_true rfl))
        · rename_i a h1
          have h1 : l[k]? = some a := h1
          have hx : l[k]? = some x := hx
          rw [h1] at hx; injection hx with hx; subst hx
          have hk2 := (List.getElem?_eq_some_iff.1 h1).1
          repeat' (first | ((with_reducible show _ = _); exact rfl) | ((with_reducible show (_ : Nat) < _); exact Nat.zero_lt_succ _) | ((with_reducible show (_ : Nat) ≤ _); exact Nat.le_of_ble_eq_true rfl) | ((with_reducible show Exists _); refine exU8 ?_) | ((with_reducible show callX _ _ _ _ _); (first | (refine call_z (q4 k a h1) (by kernel_rfl) rfl ?_; (repeat' (first | exact PV.leL_nil | refine PV.leL_cons ?_ ?_ | refine And.intro ?_ ?_ | exact Nat.zero_lt_succ _ | exact Nat.le_of_ble_eq_true rfl | exact PV.le_refl _ | exact PV.le_nil _ _ _ | exact PV.le_clip _ _ _ | refine PV.le_agg ?_ | refine PV.le_tup ?_ | rfl)); fail_if_success (any_goals (refine PV.le_of ?_))))) | ((fail_if_success (first | (with_reducible show LeG _ _) | (with_reducible show Lp _ _ _ _) | (with_reducible show Exists _) | (with_reducible show callX _ _ _ _ _) | (with_reducible show (_ : Int) ≤ _) | (with_reducible show (_ : Int) < _) | (with_reducible show (_ : Nat) ≤ _) | (with_reducible show (_ : Nat) < _))); (conv => whnf) <;> (first | exact OkR.mk (by kernel_rfl) | refine Sq.pr ?_ | refine Br.dec (fun hc => ?_) (fun hc => ?_) | refine Br.tt ?_ | refine Br.ff ?_ | refine Br.not ?_ | refine Br.mk (fun hc => ?_) (fun hc => ?_) | refine Opt.nn ?_ | refine Opt.ss ?_ | exact PV.leL_nil | refine PV.leL_cons ?_ ?_ | refine And.intro ?_ ?_ | refine ix_map (fun x hx => ?_) | refine exU8 ?_ | refine nilc (fun hn => ?_) ?_ | (refine call_z (q4 k a h1) (by kernel_rfl) rfl ?_; (repeat' (first | exact PV.leL_nil | refine PV.leL_cons ?_ ?_ | refine And.intro ?_ ?_ | exact Nat.zero_lt_succ _ | exact Nat.le_of_ble_eq_true rfl | exact PV.le_refl _ | exact PV.le_nil _ _ _ | exact PV.le_clip _ _ _ | refine PV.le_agg ?_ | refine PV.le_tup ?_ | rfl)); fail_if_success (any_goals (refine PV.le_of ?_))) | exact PV.le_refl _ | exact Nat.zero_lt_succ _ | exact Nat.le_of_ble_eq_true rfl | exact onesOf rfl | exact Or.inl rfl | exact noMem | exact onesOfP rfl | exact okAll rfl | exact okMap (fun _ => ⟨rfl, onesOfP rfl⟩) | exact nonz | refine imp0 (fun hpos => ?_) | refine fits_i64 ?_ ?_ | exact rfl | (with_reducible show LeG _ _) | (with_reducible show Lp _ _ _ _) | (with_reducible show Exists _) | (with_reducible show callX _ _ _ _ _)))) <;> (try (first | exact LeG.refl _ | omega | ((first | (with_reducible show (_ : Int) ≤ _) | (with_reducible show (_ : Int) < _) | (with_reducible show (_ : Nat) ≤ _) | (with_reducible show (_ : Nat) < _) | (with_reducible show ¬ _) | (with_reducible show (_ : Int) = _) | (with_reducible show (_ : Nat) = _)); (simp only [List.length_map, List.length_append, List.length_cons, List.length_nil, List.length_replicate, List.length_take, List.length_drop, List.length_set, Int.toNat_natCast, Int.reduceToNat] <;> omega)) | exact of_decide_eq_true rfl))
          refine ⟨⟨k + 1, hk2⟩, by show l.length - (k + 1) < l.length - k; omega, ?_⟩
          (first | refine Ent.ofA [] ?_ | refine Ent.ofC [] ?_) <;> (repeat' (first | exact trivial | refine HpLe.mk rfl (by simp) rfl (fun h => AObj.noConfusion h) ?_ ?_ | refine And.intro ?_ ?_ | exact VLe.refl _ | exact VLe.msl rfl | exact VLe.rsl rfl | exact VLe.csl rfl | exact VLe.cslr rfl | exact VLe.mp rfl | exact VLe.eptr rfl | exact VLe.ptr rfl | exact VLe.any _ | refine VLe.pe ?_ | refine VLe.agg ?_ | refine VLeL.cons ?_ ?_ | exact VLeL.nil | exact OLe.row _ _ | rfl | refine VLe.rsle rfl ?_ ?_ ?_ | refine OLe.rowe2 ?_ ?_ | refine OLe.mape ?_ ?_)) <;> try (first | (simp; done) | (congr 1; omega) | (congr 1; (first | (simp; done) | (simp; omega))))
        have hk3 : k = l.length := by
          have hc : ¬ (k : Int) < ((l.map eA).length : Int) := hc
          simp only [List.length_map] at hc; omega
        subst hk3
        repeat' (first | ((with_reducible show _ = _); exact rfl) | ((with_reducible show (_ : Nat) < _); exact Nat.zero_lt_succ _) | ((with_reducible show (_ : Nat) ≤ _); exact Nat.le_of_ble_eq_true rfl) | ((with_reducible show Exists _); refine exU8 ?_) | ((with_reducible show callX _ _ _ _ _); (first | refine call_p (q5) (by kernel_rfl) rfl ?_ | refine call_p (same_calls (tst d (l.map (wA d)) i).1 hsl.1 hsl.2) (by kernel_rfl) rfl ?_)) | ((fail_if_success (first | (with_reducible show LeG _ _) | (with_reducible show Lp _ _ _ _) | (with_reducible show Exists _) | (with_reducible show callX _ _ _ _ _) | (with_reducible show (_ : Int) ≤ _) | (with_reducible show (_ : Int) < _) | (with_reducible show (_ : Nat) ≤ _) | (with_reducible show (_ : Nat) < _))); (conv => whnf) <;> (first | exact OkR.mk (by kernel_rfl) | refine Sq.pr ?_ | refine Br.dec (fun hc => ?_) (fun hc => ?_) | refine Br.tt ?_ | refine Br.ff ?_ | refine Br.not ?_ | refine Br.mk (fun hc => ?_) (fun hc => ?_) | refine Opt.nn ?_ | refine Opt.ss ?_ | exact PV.leL_nil | refine PV.leL_cons ?_ ?_ | refine And.intro ?_ ?_ | refine ix_map (fun x hx => ?_) | refine exU8 ?_ | refine nilc (fun hn => ?_) ?_ | refine call_p (q5) (by kernel_rfl) rfl ?_ | refine call_p (same_calls (tst d (l.map (wA d)) i).1 hsl.1 hsl.2) (by kernel_rfl) rfl ?_ | exact PV.le_refl _ | exact Nat.zero_lt_succ _ | exact Nat.le_of_ble_eq_true rfl | exact onesOf rfl | exact Or.inl rfl | exact noMem | exact onesOfP rfl | exact okAll rfl | exact okMap (fun _ => ⟨rfl, onesOfP rfl⟩) | exact nonz | refine imp0 (fun hpos => ?_) | refine fits_i64 ?_ ?_ | exact rfl | (with_reducible show LeG _ _) | (with_reducible show Lp _ _ _ _) | (with_reducible show Exists _) | (with_reducible show callX _ _ _ _ _)))) <;> (try (first | exact LeG.refl _ | omega | ((first | (with_reducible show (_ : Int) ≤ _) | (with_reducible show (_ : Int) < _) | (with_reducible show (_ : Nat) ≤ _) | (with_reducible show (_ : Nat) < _) | (with_reducible show ¬ _) | (with_reducible show (_ : Int) = _) | (with_reducible show (_ : Nat) = _)); (simp only [List.length_map, List.length_append, List.length_cons, List.length_nil, List.length_replicate, List.length_take, List.length_drop, List.length_set, Int.toNat_natCast, Int.reduceToNat] <;> omega)) | exact of_decide_eq_true rfl))
        all_goals exact absurd rfl hc)
  · refine PCalls.of (N := 131) (res := [.tmp 4]) mixed Try.func8 rfl rfl rfl (by kernel_rfl) (by simp) [0, 1, 2, 4, 5, 6, 7, 8, 9, 10, 11, 12, 13, 14, 15, 17, 46, 56, 82, 91, 116] ?_
    repeat' (first | ((with_reducible show _ = _); exact rfl) | ((with_reducible show (_ : Nat) < _); exact Nat.zero_lt_succ _) | ((with_reducible show (_ : Nat) ≤ _); exact Nat.le_of_ble_eq_true rfl) | ((with_reducible show Exists _); refine exU8 ?_) | ((with_reducible show callX _ _ _ _ _); (first | refine call_p (sane_calls) (by kernel_rfl) rfl ?_ | refine call_p (few_calls d hr.s hr.p) (by kernel_rfl) rfl ?_)) | ((fail_if_success (first | (with_reducible show LeG _ _) | (with_reducible show Lp _ _ _ _) | (with_reducible show Exists _) | (with_reducible show callX _ _ _ _ _) | (with_reducible show (_ : Int) ≤ _) | (with_reducible show (_ : Int) < _) | (with_reducible show (_ : Nat) ≤ _) | (with_reducible show (_ : Nat) < _))); (conv => whnf) <;> (first | exact OkR.mk (by kernel_rfl) | refine Sq.pr ?_ | refine Br.dec (fun hc => ?_) (fun hc => ?_) | refine Br.tt ?_ | refine Br.ff ?_ | refine Br.not ?_ | refine Br.mk (fun hc => ?_) (fun hc => ?_) | refine Opt.nn ?_ | refine Opt.ss ?_ | exact PV.leL_nil | refine PV.leL_cons ?_ ?_ | refine And.intro ?_ ?_ | refine ix_map (fun x hx => ?_) | refine exU8 ?_ | refine nilc (fun hn => ?_) ?_ | refine call_p (sane_calls) (by kernel_rfl) rfl ?_ | refine call_p (few_calls d hr.s hr.p) (by kernel_rfl) rfl ?_ | exact PV.le_refl _ | exact Nat.zero_lt_succ _ | exact Nat.le_of_ble_eq_true rfl | exact onesOf rfl | exact Or.inl rfl | exact noMem | exact onesOfP rfl | exact okAll rfl | exact okMap (fun _ => ⟨rfl, onesOfP rfl⟩) | exact nonz | refine imp0 (fun hpos => ?_) | refine fits_i64 ?_ ?_ | exact rfl | (with_reducible show LeG _ _) | (with_reducible show Lp _ _ _ _) | (with_reducible show Exists _) | (with_reducible show callX _ _ _ _ _)))) <;> (try (first | exact LeG.refl _ | omega | ((first | (with_reducible show (_ : Int) ≤ _) | (with_reducible show (_ : Int) < _) | (with_reducible show (_ : Nat) ≤ _) | (with_reducible show (_ : Nat) < _) | (with_reducible show ¬ _) | (with_reducible show (_ : Int) = _) | (with_reducible show (_ : Nat) = _)); (simp only [List.length_map, List.length_append, List.length_cons, List.length_nil, List.length_replicate, List.length_take, List.length_drop, List.length_set, Int.toNat_natCast, Int.reduceToNat] <;> omega)) | exact of_decide_eq_true rfl))
end Go.Proofs.Ytcfkbohjnghelaa

namespace Go.Proofs.Ytcfkbohjnghelaa
open Go Go.Sg
/-- A sector, the halves of which begin with these. -/
def dbl2 (a b : Int) : Bs := a :: List.replicate 63 0 ++ b :: List.replicate 63 0
def tup4 (l : List Int) : Int × Int × Int × Int := (l.getD 0 0, l.getD 1 0, l.getD 2 0, l.getD 3 0)
theorem rev_ind {α : Type} {Q : List α → Prop} (h0 : Q []) (h1 : ∀ l a, Q l → Q (l ++ [a])) (l : List α) : Q l := by
  have : ∀ r : List α, Q r.reverse := fun r => by
    induction r with
    | nil => exact h0
    | cons a r ih => rw [List.reverse_cons]; exact h1 _ _ ih
  simpa using this l.reverse
theorem dbl2_len (a b : Int) : (dbl2 a b).length = 128 := by simp [dbl2]
theorem fill_dbl (a b : Int) : fillB (dbl2 a b) = dbl2 a b := by
  unfold fillB; rw [dbl2_len]; simp
/-- Where an act writes. -/
def pA (a : Ac) : Int := a.pos.tmod 4
theorem pA_ok {a : Ac} (h : 0 ≤ a.pos ∧ a.pos < 256) : 0 ≤ pA a ∧ pA a < 4 := by
  unfold pA; rw [Int.tmod_eq_emod_of_nonneg h.1]; omega
def wr (a : Ac) : Wr := ⟨pA a, dbl2 a.byte a.byte⟩
def stA (l : List Int) (a : Ac) : List Int := l.set (pA a).toNat a.byte
def foldA (l : List Int) (ws : List Ac) : List Int := ws.foldl stA l
theorem foldA_len (ws : List Ac) : ∀ l : List Int, (foldA l ws).length = l.length := by
  induction ws with
  | nil => intro l; rfl
  | cons a ws ih => intro l; exact (ih _).trans (by simp [stA])
theorem foldA_take {ws : List Ac} {k : Nat} {a : Ac} (h : ws[k]? = some a) (l : List Int) : foldA l (ws.take (k + 1)) = stA (foldA l (ws.take k)) a := by
  rw [List.take_add_one, h]; simp [foldA, List.foldl_append]
theorem foldA_snoc (l : List Int) (ws : List Ac) (a : Ac) : foldA l (ws ++ [a]) = stA (foldA l ws) a := by simp [foldA, List.foldl_append]
/-- The sectors of which the halves begin with these. -/
def secZ (f s : List Int) : List Bs := List.zipWith dbl2 f s
theorem secZ_len (f s : List Int) : (secZ f s).length = min f.length s.length := by simp [secZ]
theorem secZ_get {f s : List Int} {k : Nat} (h1 : k < f.length) (h2 : k < s.length) : (secZ f s).getD k [] = dbl2 (f.getD k 0) (s.getD k 0) := by
  simp [secZ, List.getD, List.getElem?_zipWith, List.getElem?_eq_getElem h1, List.getElem?_eq_getElem h2]
theorem secZ_128 (f s : List Int) : ∀ b ∈ secZ f s, b.length = 128 := fun b hb => by
  unfold secZ at hb
  rw [List.mem_iff_getElem?] at hb
  obtain ⟨i, hi⟩ := hb
  rw [List.getElem?_zipWith] at hi
  cases hf : f[i]? <;> cases hs : s[i]? <;> simp [hf, hs] at hi
  rw [← hi]; exact dbl2_len _ _
theorem secZ_set (f s : List Int) (n : Nat) (a b : Int) : (secZ f s).set n (dbl2 a b) = secZ (f.set n a) (s.set n b) := by
  unfold secZ
  apply List.ext_getElem?
  intro i
  rw [List.getElem?_set, List.getElem?_zipWith, List.getElem?_zipWith, List.getElem?_set, List.getElem?_set]
  by_cases h : n = i
  · subst h
    simp only [if_true, List.length_zipWith]
    by_cases h1 : n < f.length <;> by_cases h2 : n < s.length
    · rw [if_pos (by omega), if_pos h1, if_pos h2]
    · rw [if_neg (by omega), if_pos h1, if_neg h2]
    · rw [if_neg (by omega), if_neg h1]
    · rw [if_neg (by omega), if_neg h1]
  · simp [h]
theorem perf_wr (ws : List Ac) : ∀ f s : List Int, perf (secZ f s) (ws.map wr) = secZ (foldA f ws) (foldA s ws) := by
  induction ws with
  | nil => intro f s; rfl
  | cons a ws ih =>
    intro f s
    show perf ((secZ f s).set (wr a).pos.toNat (wr a).data) (ws.map wr) = _
    rw [show (wr a).data = dbl2 a.byte a.byte from rfl, secZ_set, ih]
    rfl
theorem hold1_of {d : Dk} {f s : List Int} {k : Nat} (hk : k < 4) (h : readD d k = (dbl2 (f.getD k 0) (s.getD k 0), 0)) : hold1 d (tup4 f) (tup4 s) k = true := by
  unfold hold1
  rw [h]
  have e1 : ∀ l : List Int, at4 (tup4 l) k = l.getD k 0 := fun l => by
    have : k = 0 ∨ k = 1 ∨ k = 2 ∨ k = 3 := by omega
    rcases this with rfl | rfl | rfl | rfl <;> rfl
  rw [e1, e1]
  simp [dbl2]
theorem holdsD_of {d : Dk} {f s : List Int} (h : ∀ k : Nat, k < 4 → readD d k = (dbl2 (f.getD k 0) (s.getD k 0), 0)) : holdsD d (tup4 f) (tup4 s) = true := by
  unfold holdsD
  have := fun k hk => hold1_of hk (h k hk)
  rw [this 0 (by omega), this 1 (by omega), this 2 (by omega), this 3 (by omega)]
  rfl
/-- The disk, while it runs. -/
def hD (z : List Int) (ws : List Ac) (room : Int) : Dk := ⟨secZ z z, ws.map wr, room, false⟩
theorem hD_ok {z : List Int} {ws : List Ac} {room : Int} (hz : z.length = 4) (hw : ws.length ≤ 40) (hp : ∀ a ∈ ws, 0 ≤ pA a ∧ pA a < 4) (hr : 0 ≤ room ∧ room < 256) : okD (hD z ws room) = true := by
  refine okD_in ?_ ?_ ?_ ?_ ?_ ?_ (secZ_128 _ _)
  · show 1 ≤ (secZ z z).length; rw [secZ_len]; omega
  · show (secZ z z).length ≤ 4096; rw [secZ_len]; omega
  · show (ws.map wr).length ≤ 4096; simp; omega
  · show -1 ≤ room; omega
  · show room ≤ 65536; omega
  · intro w hm
    obtain ⟨a, ha, rfl⟩ := List.mem_map.1 hm
    refine ⟨?_, dbl2_len _ _⟩
    show 0 ≤ pA a ∧ pA a < (secZ z z).length
    rw [secZ_len]; have := hp a ha; omega
theorem hD_run {z : List Int} {ws : List Ac} {room : Int} (hz : z.length = 4) (hw : ws.length ≤ 40) (hp : ∀ a ∈ ws, 0 ≤ pA a ∧ pA a < 4) (hr : 0 ≤ room ∧ room < 256) : runD (hD z ws room) = true := by
  unfold runD; rw [hD_ok hz hw hp hr]; rfl
theorem hD_has {z : List Int} {ws : List Ac} {room : Int} (hz : z.length = 4) {p : Int} (h : 0 ≤ p ∧ p < 4) : hasD (hD z ws room) p = true := by
  have : (hD z ws room).secs.length = 4 := by show (secZ z z).length = 4; rw [secZ_len]; omega
  simp only [hasD, this, Bool.and_eq_true, decide_eq_true_eq]; omega
theorem hD_write {z : List Int} {ws : List Ac} {room : Int} {a : Ac} (hz : z.length = 4) (hw : ws.length ≤ 40) (hp : ∀ a ∈ ws, 0 ≤ pA a ∧ pA a < 4) (hr : 0 ≤ room ∧ room < 256) (ha : 0 ≤ pA a ∧ pA a < 4) :
    writeD (hD z ws room) (pA a) (dbl2 a.byte a.byte) = (hD z (ws ++ [a]) room, 0) := by
  rw [writeD_ok (hD_run hz hw hp hr) (hD_has hz ha) (by rw [dbl2_len]; exact Nat.le_refl _) (by show (ws.map wr).length ≠ 4096; simp; omega)]
  unfold addD hD
  rw [fill_dbl]
  simp [wr]
theorem hD_last {z : List Int} : ∀ (ws : List Ac) (k : Nat), k < z.length → (∀ a ∈ ws, 0 ≤ pA a) → (lastW (ws.map wr) k).getD (dbl2 (z.getD k 0) (z.getD k 0)) = dbl2 ((foldA z ws).getD k 0) ((foldA z ws).getD k 0) := by
  refine rev_ind (fun k _ _ => rfl) fun ws a ih => ?_
  · intro k hk hp
    have ih := ih k hk (fun b hb => hp b (by simp [hb]))
    rw [List.map_append, foldA_snoc]
    show (lastW (ws.map wr ++ [wr a]) k).getD _ = _
    rw [lastW_snoc]
    have ha := hp a (by simp)
    unfold stA
    by_cases e : (wr a).pos = k
    · rw [if_pos e]
      have e2 : (pA a).toNat = k := by have : pA a = k := e; omega
      simp only [List.getD, e2, List.getElem?_set_self (show k < (foldA z ws).length by rw [foldA_len]; exact hk), Option.getD_some]
      rfl
    · rw [if_neg e, ih]
      have e2 : (pA a).toNat ≠ k := fun h => e (by show pA a = k; omega)
      simp only [List.getD, List.getElem?_set_ne e2]
theorem hD_holds {z : List Int} {ws : List Ac} {room : Int} (hz : z.length = 4) (hw : ws.length ≤ 40) (hp : ∀ a ∈ ws, 0 ≤ pA a ∧ pA a < 4) (hr : 0 ≤ room ∧ room < 256) : holdsD (hD z ws room) (tup4 (foldA z ws)) (tup4 (foldA z ws)) = true := by
  refine holdsD_of fun k hk => ?_
  rw [readD_ok (hD_run hz hw hp hr) (hD_has hz (by omega))]
  unfold valD
  congr 1
  show (lastW (ws.map wr) k).getD ((secZ z z).getD ((k : Int).toNat) []) = _
  rw [show ((k : Int).toNat) = k from rfl, secZ_get (by omega) (by omega)]
  exact hD_last ws k (by omega) (fun a ha => (hp a ha).1)
theorem zD_holds {f s : List Int} {n : Int} (hf : f.length = 4) (hs : s.length = 4) (hn : -1 ≤ n ∧ n ≤ 65536) : holdsD ⟨secZ f s, [], n, false⟩ (tup4 f) (tup4 s) = true := by
  have hl : (secZ f s).length = 4 := by rw [secZ_len]; omega
  have ho : okD ⟨secZ f s, [], n, false⟩ = true := okD_in (by show 1 ≤ (secZ f s).length; omega) (by show (secZ f s).length ≤ 4096; omega) (by simp) hn.1 hn.2 (by simp) (secZ_128 _ _)
  refine holdsD_of fun k hk => ?_
  rw [readD_ok (by unfold runD; rw [ho]; rfl) (by simp only [hasD, hl, Bool.and_eq_true, decide_eq_true_eq]; omega)]
  unfold valD
  congr 1
  show (secZ f s).getD ((k : Int).toNat) [] = _
  rw [show ((k : Int).toNat) = k from rfl, secZ_get (by omega) (by omega)]
theorem hD_sync_ok {z : List Int} {ws : List Ac} {room : Int} (hz : z.length = 4) (hw : ws.length ≤ 40) (hp : ∀ a ∈ ws, 0 ≤ pA a ∧ pA a < 4) (hr : 0 ≤ room ∧ room < 256) (h : (ws.length : Int) ≤ room) : syncD (hD z ws room) = (hD (foldA z ws) [] (room - ws.length), 0) := by
  unfold syncD
  rw [if_pos (hD_run hz hw hp hr), if_pos (show 0 ≤ (hD z ws room).left from hr.1), if_neg (by show ¬ room < (((ws.map wr).map eW).length : Int); simp; omega)]
  show ((⟨perf (secZ z z) (ws.map wr), [], room - (((ws.map wr).map eW).length : Int), false⟩ : Dk), (0 : Int)) = _
  rw [perf_wr]
  simp [hD]
theorem hD_sync_stop {z : List Int} {ws : List Ac} {room : Int} (hz : z.length = 4) (hw : ws.length ≤ 40) (hp : ∀ a ∈ ws, 0 ≤ pA a ∧ pA a < 4) (hr : 0 ≤ room ∧ room < 256) (h : room < ws.length) :
    syncD (hD z ws room) = (⟨secZ (foldA z (ws.take (room.toNat + 1))) (foldA z (ws.take room.toNat)), [], 0, true⟩, 40) := by
  unfold syncD
  rw [if_pos (hD_run hz hw hp hr), if_pos (show 0 ≤ (hD z ws room).left from hr.1), if_pos (by show room < (((ws.map wr).map eW).length : Int); simp; omega)]
  have hlt : room.toNat < ws.length := by omega
  have hx := List.getElem?_eq_getElem hlt
  show ((⟨tornW (perf (secZ z z) ((ws.map wr).take room.toNat)) ((ws.map wr).getD room.toNat ⟨0, []⟩), [], 0, true⟩ : Dk), (40 : Int)) = _
  have e1 : (ws.map wr).getD room.toNat ⟨0, []⟩ = wr ws[room.toNat] := by simp [List.getD, hx]
  have e2 : (ws.map wr).take room.toNat = (ws.take room.toNat).map wr := by rw [List.map_take]
  rw [e1, e2, perf_wr, foldA_take hx]
  have hpa := hp _ (List.getElem_mem hlt)
  unfold tornW
  congr 2
  show (secZ (foldA z (ws.take room.toNat)) (foldA z (ws.take room.toNat))).set (pA ws[room.toNat]).toNat _ = _
  rw [show (wr ws[room.toNat]).pos = pA ws[room.toNat] from rfl, secZ_get (by rw [foldA_len]; omega) (by rw [foldA_len]; omega)]
  have e3 : ∀ a b c d : Int, (dbl2 a b).take 64 ++ (dbl2 c d).drop 64 = dbl2 a d := fun a b c d => rfl
  show (secZ _ _).set _ ((dbl2 _ _).take 64 ++ (dbl2 _ _).drop 64) = _
  rw [e3, secZ_set]
  unfold stA
  congr 1
  apply List.ext_getElem?
  intro i
  rw [List.getElem?_set]
  split
  · rename_i e
    subst e
    split
    · rename_i hl; simp [List.getD, List.getElem?_eq_getElem hl]
    · rename_i hl; rw [List.getElem?_eq_none (by omega)]
  · rfl
end Go.Proofs.Ytcfkbohjnghelaa

namespace Go.Proofs.Ytcfkbohjnghelaa
open Go Go.Sg
set_option maxRecDepth 100000
set_option maxHeartbeats 20000000
def z4 : List Int := [0, 0, 0, 0]
def D4 : Dk := ⟨secZ z4 z4, [], -1, false⟩
theorem hs1 : PCalls Try.prog 12 [eI 4] (eR (D4, 0)) := by have h := new_calls 4; rwa [show newD 4 = (D4, 0) from by kernel_rfl] at h
theorem hs2 (n : Int) (hn : 0 ≤ n ∧ n < 256) : PCalls Try.prog 25 [eD D4, eI (IntKind.i64.wrap n)] (eR (hD z4 [] n, 0)) := by
  have hw : IntKind.i64.wrap n = n := fits_i64 (by omega) (by omega)
  rw [hw]
  have h := stop_calls D4 n (by decide) (by decide)
  have e : stopD D4 n = (hD z4 [] n, 0) := by
    unfold stopD
    rw [show runD D4 = true from by kernel_rfl, if_pos rfl, if_neg (by omega), if_neg (by omega)]
    rfl
  rwa [e] at h
theorem hold4 (d : Dk) (L M : List PV) (f s : List Int) (hL : L = f.map (PV.int .u8)) (hM : M = s.map (PV.int .u8)) (hf : f.length = 4) (hs : s.length = 4) (h1 : d.secs.length < 1000000) (h2 : d.pend.length < 1000000) (hh : holdsD d (tup4 f) (tup4 s) = true) :
    PCalls Try.prog 28 [eD d, .agg (L.flatMap PV.cells), .agg (M.flatMap PV.cells)] (.bool true) := by
  have key : ∀ l : List Int, l.length = 4 → PV.agg ((l.map (PV.int .u8)).flatMap PV.cells) = e4 (tup4 l) := fun l hl => by
    match l, hl with
    | [a, b, c, d], _ => rfl
  subst hL; subst hM
  rw [key f hf, key s hs, ← hh]
  exact holds_calls d _ _ h1 h2
theorem map_stA (z : List Int) (a : Ac) : (z.map (PV.int .u8)).set (0 + (a.pos.tmod 4).toNat) (.int .u8 a.byte) = (stA z a).map (PV.int .u8) := by
  unfold stA pA; rw [List.map_set, Nat.zero_add]
theorem history_calls (l : List Ac) (n : Int) (ha : ∀ a ∈ l, 0 ≤ a.pos ∧ a.pos < 256) (hn : 0 ≤ n ∧ n < 256) : PCalls Try.prog 6 [eAs l, .int .u8 n] (.bool true) := by
  refine PCalls.of (N := 163) (res := [.tmp 4]) mixed Try.func6 rfl rfl rfl (by kernel_rfl) (by simp) [0, 1, 4, 5, 6, 7, 8, 9, 10, 11, 12, 13, 14, 15, 16, 17, 18, 19, 20, 22, 25, 42, 49, 58, 72, 101, 118, 131, 146, 157] ?_
  repeat' (first | ((with_reducible show _ = _); exact rfl) | ((with_reducible show (_ : Nat) < _); exact Nat.zero_lt_succ _) | ((with_reducible show (_ : Nat) ≤ _); exact Nat.le_of_ble_eq_true rfl) | ((with_reducible show Exists _); refine exU8 ?_) | ((with_reducible show callX _ _ _ _ _); (first | refine call_p (sane_calls) (by kernel_rfl) rfl ?_ | refine call_p (hs1) (by kernel_rfl) rfl ?_ | refine call_p (hs2 n hn) (by kernel_rfl) rfl ?_)) | ((fail_if_success (first | (with_reducible show LeG _ _) | (with_reducible show Lp _ _ _ _) | (with_reducible show Exists _) | (with_reducible show callX _ _ _ _ _) | (with_reducible show (_ : Int) ≤ _) | (with_reducible show (_ : Int) < _) | (with_reducible show (_ : Nat) ≤ _) | (with_reducible show (_ : Nat) < _))); (conv => whnf) <;> (first | exact OkR.mk (by kernel_rfl) | refine Sq.pr ?_ | refine Br.dec (fun hc => ?_) (fun hc => ?_) | refine Br.tt ?_ | refine Br.ff ?_ | refine Br.not ?_ | refine Br.mk (fun hc => ?_) (fun hc => ?_) | refine Opt.nn ?_ | refine Opt.ss ?_ | exact PV.leL_nil | refine PV.leL_cons ?_ ?_ | refine And.intro ?_ ?_ | refine ix_map (fun x hx => ?_) | refine exU8 ?_ | refine nilc (fun hn => ?_) ?_ | refine call_p (sane_calls) (by kernel_rfl) rfl ?_ | refine call_p (hs1) (by kernel_rfl) rfl ?_ | refine call_p (hs2 n hn) (by kernel_rfl) rfl ?_ | exact PV.le_refl _ | exact Nat.zero_lt_succ _ | exact Nat.le_of_ble_eq_true rfl | exact onesOf rfl | exact Or.inl rfl | exact noMem | exact onesOfP rfl | exact okAll rfl | exact okMap (fun _ => ⟨rfl, onesOfP rfl⟩) | exact nonz | refine imp0 (fun hpos => ?_) | refine fits_i64 ?_ ?_ | exact rfl | (with_reducible show LeG _ _) | (with_reducible show Lp _ _ _ _) | (with_reducible show Exists _) | (with_reducible show callX _ _ _ _ _)))) <;> (try (first | exact LeG.refl _ | omega | ((first | (with_reducible show (_ : Int) ≤ _) | (with_reducible show (_ : Int) < _) | (with_reducible show (_ : Nat) ≤ _) | (with_reducible show (_ : Nat) < _) | (with_reducible show ¬ _) | (with_reducible show (_ : Int) = _) | (with_reducible show (_ : Nat) = _)); (simp only [List.length_map, List.length_append, List.length_cons, List.length_nil, List.length_replicate, List.length_take, List.length_drop, List.length_set, Int.toNat_natCast, Int.reduceToNat] <;> omega)) | exact of_decide_eq_true rfl))
  have hl40 : l.length ≤ 40 := by
    have h : ¬ 40 < ((l.map eA).length : Int) := by assumption
    simp only [List.length_map] at h; omega
  refine Wpc.loopA (α := {s : Nat × List Int × List Ac × Int // s.1 ≤ l.length ∧ s.2.1.length = 4 ∧ s.2.2.1.length ≤ s.1 ∧ (∀ a ∈ s.2.2.1, 0 ≤ a.pos ∧ a.pos < 256) ∧ (0 ≤ s.2.2.2 ∧ s.2.2.2 < 256)}) mixed [0, 1, 4, 5, 6, 7, 8, 9, 10, 11, 12, 13, 14, 15, 16, 17, 18, 19, 20, 22, 25, 42, 49, 58, 72, 101, 118, 131, 146, 157]
    (fun s => [(11, .rsl 1984 3 0 s.1.2.2.1.length), (12, .p (eI s.1.2.2.2)), (13, .p (eI s.1.1))])
    (fun s => [(1984, .row 3 (s.1.2.2.1.map eA)), (1920, .row 1 (s.1.2.1.map (PV.int .u8))), (1856, .row 1 (s.1.2.1.map (PV.int .u8))), (1792, .row 1 ((foldA s.1.2.1 s.1.2.2.1).map (PV.int .u8))), (640, .cells [.p (eS (secZ s.1.2.1 s.1.2.1)), .p (eP (s.1.2.2.1.map wr)), .p (eI s.1.2.2.2), .p (.bool false)])])
    (fun _ => 0) (fun s => l.length - s.1.1) ⟨(0, z4, [], n), by simp, rfl, by simp, by simp, hn⟩ ?_ ?_
  · (first | refine Ent.ofA [] ?_ | refine Ent.ofC [] ?_) <;> (repeat' (first | exact trivial | refine HpLe.mk rfl (by simp) rfl (fun h => AObj.noConfusion h) ?_ ?_ | refine And.intro ?_ ?_ | exact VLe.refl _ | exact VLe.msl rfl | exact VLe.rsl rfl | exact VLe.csl rfl | exact VLe.cslr rfl | exact VLe.mp rfl | exact VLe.eptr rfl | exact VLe.ptr rfl | exact VLe.any _ | refine VLe.pe ?_ | refine VLe.agg ?_ | refine VLeL.cons ?_ ?_ | exact VLeL.nil | exact OLe.row _ _ | rfl | refine VLe.rsle rfl ?_ ?_ ?_ | refine OLe.rowe2 ?_ ?_ | refine OLe.mape ?_ ?_)) <;> try (first | (simp; done) | (congr 1; omega) | (congr 1; (first | (simp; done) | (simp; omega))))
    show PV.int .i64 (IntKind.i64.wrap n) = eI n
    rw [show IntKind.i64.wrap n = n from fits_i64 (by omega) (by omega)]; rfl
  rintro ⟨⟨i, z, ws, room⟩, h1, h2, h3, h4, h5⟩
  have h1 : i ≤ l.length := h1
  have h2 : z.length = 4 := h2
  have h3 : ws.length ≤ i := h3
  have h4 : ∀ a ∈ ws, 0 ≤ a.pos ∧ a.pos < 256 := h4
  have h5 : 0 ≤ room ∧ room < 256 := h5
  have hpp : ∀ a ∈ ws, 0 ≤ pA a ∧ pA a < 4 := fun a h => pA_ok (h4 a h)
  have hsl : ∀ ws' : List Ac, (hD z ws' room).secs.length < 1000000 := fun ws' => by show (secZ z z).length < 1000000; rw [secZ_len]; omega
  have qw : ∀ a ∈ l, PCalls Try.prog 19 [eD (hD z ws room), eI (IntKind.i64.wrap (a.pos.tmod 4)), eB (dbl2 a.byte a.byte)] (eR (hD z (ws ++ [a]) room, 0)) := fun a h => by
    have hp := pA_ok (ha a h)
    have e : IntKind.i64.wrap (a.pos.tmod 4) = pA a := fits_i64 (by show -9223372036854775808 ≤ pA a; omega) (by show pA a ≤ 9223372036854775807; omega)
    rw [e]
    have := write_calls (hD z ws room) (pA a) (dbl2 a.byte a.byte) (hsl _) (by show (ws.map wr).length < 1000000; simp; omega) (by rw [dbl2_len]; omega)
    rwa [hD_write h2 (by omega) hpp h5 hp] at this
  have qs := sync_calls (hD z ws room) (hsl _) (by show (ws.map wr).length < 1000000; simp; omega)
  have qh : ∀ a ∈ l, i < l.length → holdsD (hD z (ws ++ [a]) room) (tup4 (foldA z (ws ++ [a]))) (tup4 (foldA z (ws ++ [a]))) = true := fun a h hi =>
    hD_holds h2 (by simp; omega) (fun b hb => by rcases List.mem_append.1 hb with hb | hb; exact hpp b hb; simp only [List.mem_singleton] at hb; subst hb; exact pA_ok (ha b h)) h5
  have hfl : ∀ ws' : List Ac, (foldA z ws').length = 4 := fun ws' => by rw [foldA_len]; exact h2
  repeat' (first | ((with_reducible show _ = _); exact rfl) | ((with_reducible show (_ : Nat) < _); exact Nat.zero_lt_succ _) | ((with_reducible show (_ : Nat) ≤ _); exact Nat.le_of_ble_eq_true rfl) | ((with_reducible show Exists _); refine exU8 ?_) | ((with_reducible show callX _ _ _ _ _); (first | refine call_p (double_calls _) (by kernel_rfl) rfl ?_ | refine call_p (qw x (List.mem_of_getElem? hx)) (by kernel_rfl) rfl ?_ | refine call_p (restart_calls (hD z ws room)) (by kernel_rfl) rfl ?_ | refine call_p (hold4 (hD z (ws ++ [x]) room) _ _ (foldA z (ws ++ [x])) (foldA z (ws ++ [x])) (by rw [foldA_snoc]; exact map_stA _ _) (by rw [foldA_snoc]; exact map_stA _ _) (hfl _) (hfl _) (hsl _) (by show ((ws ++ [x]).map wr).length < 1000000; simp; omega) (qh x (List.mem_of_getElem? hx) (List.getElem?_eq_some_iff.1 hx).1)) (by kernel_rfl) rfl ?_ | refine call_p (hold4 ⟨secZ z z, [], -1, false⟩ _ _ z z rfl rfl h2 h2 (hsl []) (by simp) (zD_holds h2 h2 (by omega))) (by kernel_rfl) rfl ?_)) | ((fail_if_success (first | (with_reducible show LeG _ _) | (with_reducible show Lp _ _ _ _) | (with_reducible show Exists _) | (with_reducible show callX _ _ _ _ _) | (with_reducible show (_ : Int) ≤ _) | (with_reducible show (_ : Int) < _) | (with_reducible show (_ : Nat) ≤ _) | (with_reducible show (_ : Nat) < _))); (conv => whnf) <;> (first | exact OkR.mk (by kernel_rfl) | refine Sq.pr ?_ | refine Br.dec (fun hc => ?_) (fun hc => ?_) | refine Br.tt ?_ | refine Br.ff ?_ | refine Br.not ?_ | refine Br.mk (fun hc => ?_) (fun hc => ?_) | refine Opt.nn ?_ | refine Opt.ss ?_ | exact PV.leL_nil | refine PV.leL_cons ?_ ?_ | refine And.intro ?_ ?_ | refine ix_map (fun x hx => ?_) | refine exU8 ?_ | refine nilc (fun hn => ?_) ?_ | refine call_p (double_calls _) (by kernel_rfl) rfl ?_ | refine call_p (qw x (List.mem_of_getElem? hx)) (by kernel_rfl) rfl ?_ | refine call_p (restart_calls (hD z ws room)) (by kernel_rfl) rfl ?_ | refine call_p (hold4 (hD z (ws ++ [x]) room) _ _ (foldA z (ws ++ [x])) (foldA z (ws ++ [x])) (by rw [foldA_snoc]; exact map_stA _ _) (by rw [foldA_snoc]; exact map_stA _ _) (hfl _) (hfl _) (hsl _) (by show ((ws ++ [x]).map wr).length < 1000000; simp; omega) (qh x (List.mem_of_getElem? hx) (List.getElem?_eq_some_iff.1 hx).1)) (by kernel_rfl) rfl ?_ | refine call_p (hold4 ⟨secZ z z, [], -1, false⟩ _ _ z z rfl rfl h2 h2 (hsl []) (by simp) (zD_holds h2 h2 (by omega))) (by kernel_rfl) rfl ?_ | exact PV.le_refl _ | exact Nat.zero_lt_succ _ | exact Nat.le_of_ble_eq_true rfl | exact onesOf rfl | exact Or.inl rfl | exact noMem | exact onesOfP rfl | exact okAll rfl | exact okMap (fun _ => ⟨rfl, onesOfP rfl⟩) | exact nonz | refine imp0 (fun hpos => ?_) | refine fits_i64 ?_ ?_ | exact rfl | (with_reducible show LeG _ _) | (with_reducible show Lp _ _ _ _) | (with_reducible show Exists _) | (with_reducible show callX _ _ _ _ _)))) <;> (try (first | exact LeG.refl _ | omega | ((first | (with_reducible show (_ : Int) ≤ _) | (with_reducible show (_ : Int) < _) | (with_reducible show (_ : Nat) ≤ _) | (with_reducible show (_ : Nat) < _) | (with_reducible show ¬ _) | (with_reducible show (_ : Int) = _) | (with_reducible show (_ : Nat) = _)); (simp only [List.length_map, List.length_append, List.length_cons, List.length_nil, List.length_replicate, List.length_take, List.length_drop, List.length_set, Int.toNat_natCast, Int.reduceToNat] <;> omega)) | exact of_decide_eq_true rfl))
  rotate_left
  · exact (pA_ok (ha x (List.mem_of_getElem? hx))).1
  · exact (pA_ok (ha x (List.mem_of_getElem? hx))).2
  · have := pA_ok (ha x (List.mem_of_getElem? hx))
    show 0 + (pA x).toNat < ((foldA z ws).map (PV.int .u8)).length
    rw [List.length_map, hfl]; omega
  · show 4 = (((foldA z ws).map (PV.int .u8)).set _ _).length
    rw [List.length_set, List.length_map, hfl]
  · show 4 = (((foldA z ws).map (PV.int .u8)).set _ _).length
    rw [List.length_set, List.length_map, hfl]
  · have hi := (List.getElem?_eq_some_iff.1 hx).1
    refine ⟨⟨(i + 1, z, ws ++ [x], room), hi, h2, by simp; omega, fun b hb => ?_, h5⟩, by show l.length - (i + 1) < l.length - i; have : i < l.length := hi; omega, ?_⟩
    · rcases List.mem_append.1 hb with hb | hb
      · exact h4 b hb
      · simp only [List.mem_singleton] at hb; subst hb; exact ha b (List.mem_of_getElem? hx)
    (first | refine Ent.ofA [] ?_ | refine Ent.ofC [] ?_) <;> (repeat' (first | exact trivial | refine HpLe.mk rfl (by simp) rfl (fun h => AObj.noConfusion h) ?_ ?_ | refine And.intro ?_ ?_ | exact VLe.refl _ | exact VLe.msl rfl | exact VLe.rsl rfl | exact VLe.csl rfl | exact VLe.cslr rfl | exact VLe.mp rfl | exact VLe.eptr rfl | exact VLe.ptr rfl | exact VLe.any _ | refine VLe.pe ?_ | refine VLe.agg ?_ | refine VLeL.cons ?_ ?_ | exact VLeL.nil | exact OLe.row _ _ | rfl | refine VLe.rsle rfl ?_ ?_ ?_ | refine OLe.rowe2 ?_ ?_ | refine OLe.mape ?_ ?_)) <;> try (first | (simp; done) | (congr 1; omega) | (congr 1; (first | (simp; done) | (simp; omega))))
    · show ws.map eA ++ [eA x] = (ws ++ [x]).map eA
      rw [List.map_append]; rfl
    · show ((foldA z ws).map (PV.int .u8)).set (0 + (x.pos.tmod 4).toNat) (.int .u8 x.byte) = (foldA z (ws ++ [x])).map (PV.int .u8)
      rw [foldA_snoc]; exact map_stA _ _
  · show 4 = (z.map (PV.int .u8)).length
    rw [List.length_map, h2]
  · show 4 = (z.map (PV.int .u8)).length
    rw [List.length_map, h2]
  have hx0 := List.mem_of_getElem? hx
  have hi0 : i < l.length := (List.getElem?_eq_some_iff.1 hx).1
  clear hx
  have hst : ∀ (k : Nat) (y : Ac), ws[k]? = some y → ((foldA z (ws.take k)).map (PV.int .u8)).set (0 + (y.pos.tmod 4).toNat) (.int .u8 y.byte) = (foldA z (ws.take (k + 1))).map (PV.int .u8) := fun k y h => by
    rw [foldA_take h]; exact map_stA _ _
  have hp4 : ∀ (k : Nat) (y : Ac), ws[k]? = some y → 0 ≤ y.pos.tmod 4 ∧ y.pos.tmod 4 < 4 := fun k y h => hpp y (List.mem_of_getElem? h)
  by_cases hr : (ws.length : Int) ≤ room
  · rw [hD_sync_ok h2 (by omega) hpp h5 hr] at qs
    repeat' (first | ((with_reducible show _ = _); exact rfl) | ((with_reducible show (_ : Nat) < _); exact Nat.zero_lt_succ _) | ((with_reducible show (_ : Nat) ≤ _); exact Nat.le_of_ble_eq_true rfl) | ((with_reducible show Exists _); refine exU8 ?_) | ((with_reducible show callX _ _ _ _ _); (first | refine call_p qs (by kernel_rfl) rfl ?_)) | ((fail_if_success (first | (with_reducible show LeG _ _) | (with_reducible show Lp _ _ _ _) | (with_reducible show Exists _) | (with_reducible show callX _ _ _ _ _) | (with_reducible show (_ : Int) ≤ _) | (with_reducible show (_ : Int) < _) | (with_reducible show (_ : Nat) ≤ _) | (with_reducible show (_ : Nat) < _))); (conv => whnf) <;> (first | exact OkR.mk (by kernel_rfl) | refine Sq.pr ?_ | refine Br.dec (fun hc => ?_) (fun hc => ?_) | refine Br.tt ?_ | refine Br.ff ?_ | refine Br.not ?_ | refine Br.mk (fun hc => ?_) (fun hc => ?_) | refine Opt.nn ?_ | refine Opt.ss ?_ | exact PV.leL_nil | refine PV.leL_cons ?_ ?_ | refine And.intro ?_ ?_ | refine ix_map (fun x hx => ?_) | refine exU8 ?_ | refine nilc (fun hn => ?_) ?_ | refine call_p qs (by kernel_rfl) rfl ?_ | exact PV.le_refl _ | exact Nat.zero_lt_succ _ | exact Nat.le_of_ble_eq_true rfl | exact onesOf rfl | exact Or.inl rfl | exact noMem | exact onesOfP rfl | exact okAll rfl | exact okMap (fun _ => ⟨rfl, onesOfP rfl⟩) | exact nonz | refine imp0 (fun hpos => ?_) | refine fits_i64 ?_ ?_ | exact rfl | (with_reducible show LeG _ _) | (with_reducible show Lp _ _ _ _) | (with_reducible show Exists _) | (with_reducible show callX _ _ _ _ _)))) <;> (try (first | exact LeG.refl _ | omega | ((first | (with_reducible show (_ : Int) ≤ _) | (with_reducible show (_ : Int) < _) | (with_reducible show (_ : Nat) ≤ _) | (with_reducible show (_ : Nat) < _) | (with_reducible show ¬ _) | (with_reducible show (_ : Int) = _) | (with_reducible show (_ : Nat) = _)); (simp only [List.length_map, List.length_append, List.length_cons, List.length_nil, List.length_replicate, List.length_take, List.length_drop, List.length_set, Int.toNat_natCast, Int.reduceToNat] <;> omega)) | exact of_decide_eq_true rfl))
    refine Wpc.loopA (α := {k : Nat // k ≤ ws.length ∧ (k : Int) ≤ room + 1}) mixed [0, 1, 4, 5, 6, 7, 8, 9, 10, 11, 12, 13, 14, 15, 16, 17, 18, 19, 20, 22, 25, 42, 49, 58, 72, 101, 118, 131, 146, 157] (fun k => [(20, .p (eI k.1))]) (fun k => [(1856, .row 1 ((foldA z (ws.take k.1)).map (PV.int .u8))), (1920, .row 1 ((foldA z (ws.take (min k.1 room.toNat))).map (PV.int .u8)))]) (fun _ => 0) (fun k => ws.length - k.1) ⟨0, by omega, by omega⟩ ?_ ?_
    · (first | refine Ent.ofA [] ?_ | refine Ent.ofC [] ?_) <;> (repeat' (first | exact trivial | refine HpLe.mk rfl (by simp) rfl (fun h => AObj.noConfusion h) ?_ ?_ | refine And.intro ?_ ?_ | exact VLe.refl _ | exact VLe.msl rfl | exact VLe.rsl rfl | exact VLe.csl rfl | exact VLe.cslr rfl | exact VLe.mp rfl | exact VLe.eptr rfl | exact VLe.ptr rfl | exact VLe.any _ | refine VLe.pe ?_ | refine VLe.agg ?_ | refine VLeL.cons ?_ ?_ | exact VLeL.nil | exact OLe.row _ _ | rfl | refine VLe.rsle rfl ?_ ?_ ?_ | refine OLe.rowe2 ?_ ?_ | refine OLe.mape ?_ ?_)) <;> try (first | (simp; done) | (congr 1; omega) | (congr 1; (first | (simp; done) | (simp; omega))))
      all_goals (simp [foldA])
    rintro ⟨k, hk, hk2⟩
    have hk : k ≤ ws.length := hk
    have hk2 : (k : Int) ≤ room + 1 := hk2
    have q2 := hold4 (hD (foldA z ws) [] (room - ws.length)) ((foldA z ws).map (PV.int .u8)) ((foldA z ws).map (PV.int .u8)) (foldA z ws) (foldA z ws) rfl rfl (hfl _) (hfl _) (by show (secZ _ _).length < 1000000; rw [secZ_len, hfl]; omega) (by simp [hD]) (hD_holds (ws := []) (hfl _) (by simp) (by simp) (by omega))
    repeat' (first | ((with_reducible show _ = _); exact rfl) | ((with_reducible show (_ : Nat) < _); exact Nat.zero_lt_succ _) | ((with_reducible show (_ : Nat) ≤ _); exact Nat.le_of_ble_eq_true rfl) | ((with_reducible show Exists _); refine exU8 ?_) | ((with_reducible show callX _ _ _ _ _); (first | refine call_p (q2) (by kernel_rfl) rfl ?_)) | ((fail_if_success (first | (with_reducible show LeG _ _) | (with_reducible show Lp _ _ _ _) | (with_reducible show Exists _) | (with_reducible show callX _ _ _ _ _) | (with_reducible show (_ : Int) ≤ _) | (with_reducible show (_ : Int) < _) | (with_reducible show (_ : Nat) ≤ _) | (with_reducible show (_ : Nat) < _))); (conv => whnf) <;> (first | exact OkR.mk (by kernel_rfl) | refine Sq.pr ?_ | refine Br.dec (fun hc => ?_) (fun hc => ?_) | refine Br.tt ?_ | refine Br.ff ?_ | refine Br.not ?_ | refine Br.mk (fun hc => ?_) (fun hc => ?_) | refine Opt.nn ?_ | refine Opt.ss ?_ | exact PV.leL_nil | refine PV.leL_cons ?_ ?_ | refine And.intro ?_ ?_ | refine ix_map (fun x hx => ?_) | refine exU8 ?_ | refine nilc (fun hn => ?_) ?_ | refine call_p (q2) (by kernel_rfl) rfl ?_ | exact PV.le_refl _ | exact Nat.zero_lt_succ _ | exact Nat.le_of_ble_eq_true rfl | exact onesOf rfl | exact Or.inl rfl | exact noMem | exact onesOfP rfl | exact okAll rfl | exact okMap (fun _ => ⟨rfl, onesOfP rfl⟩) | exact nonz | refine imp0 (fun hpos => ?_) | refine fits_i64 ?_ ?_ | exact rfl | (with_reducible show LeG _ _) | (with_reducible show Lp _ _ _ _) | (with_reducible show Exists _) | (with_reducible show callX _ _ _ _ _)))) <;> (try (first | exact LeG.refl _ | omega | ((first | (with_reducible show (_ : Int) ≤ _) | (with_reducible show (_ : Int) < _) | (with_reducible show (_ : Nat) ≤ _) | (with_reducible show (_ : Nat) < _) | (with_reducible show ¬ _) | (with_reducible show (_ : Int) = _) | (with_reducible show (_ : Nat) = _)); (simp only [List.length_map, List.length_append, List.length_cons, List.length_nil, List.length_replicate, List.length_take, List.length_drop, List.length_set, Int.toNat_natCast, Int.reduceToNat] <;> omega)) | exact of_decide_eq_true rfl))
    (all_goals (try ((first | (with_reducible show (_ : Int) ≤ _) | (with_reducible show (_ : Int) < _) | (with_reducible show (_ : Nat) ≤ _) | (with_reducible show (_ : Nat) < _) | (with_reducible show ¬ _) | (with_reducible show (_ : Int) = _) | (with_reducible show (_ : Nat) = _) | (with_reducible show False)); (try dsimp only at *); (try simp only [List.length_map, List.length_append, List.length_cons, List.length_nil, List.length_replicate, List.length_take, List.length_drop, List.length_set, Int.toNat_natCast, Int.reduceToNat] at *); omega)))
    all_goals try (first | exact (hp4 _ _ (by assumption)).1 | exact (hp4 _ _ (by assumption)).2)
    · rename_i y hy
      have := hp4 _ _ hy
      show 0 + (y.pos.tmod 4).toNat < ((foldA z (ws.take k)).map (PV.int .u8)).length
      rw [List.length_map, hfl]; omega
    · rename_i y hy
      have := hp4 _ _ hy
      show 0 + (y.pos.tmod 4).toNat < ((foldA z (ws.take (min k room.toNat))).map (PV.int .u8)).length
      rw [List.length_map, hfl]; omega
    · rename_i c1 c2 x1 e1 x2 e2 x3 e3
      have c3 : (k : Int) < room := hc
      have g1 : ws[k]? = some x1 := by rw [← e1]; congr 1; simp
      have g2 : ws[k]? = some x2 := by rw [← e2]; congr 1; simp
      have g3 : ws[k]? = some x3 := by rw [← e3]; congr 1; simp
      have g4 : ws[k]? = some x := by rw [← hx]; congr 1; simp
      rw [g1] at g2 g3 g4; injection g2 with g2; injection g3 with g3; injection g4 with g4; subst g2; subst g3; subst g4
      have hkl := (List.getElem?_eq_some_iff.1 g1).1
      refine ⟨⟨k + 1, hkl, by show ((k + 1 : Nat) : Int) ≤ room + 1; omega⟩, by show ws.length - (k + 1) < ws.length - k; omega, ?_⟩
      (first | refine Ent.ofA [] ?_ | refine Ent.ofC [] ?_) <;> (repeat' (first | exact trivial | refine HpLe.mk rfl (by simp) rfl (fun h => AObj.noConfusion h) ?_ ?_ | refine And.intro ?_ ?_ | exact VLe.refl _ | exact VLe.msl rfl | exact VLe.rsl rfl | exact VLe.csl rfl | exact VLe.cslr rfl | exact VLe.mp rfl | exact VLe.eptr rfl | exact VLe.ptr rfl | exact VLe.any _ | refine VLe.pe ?_ | refine VLe.agg ?_ | refine VLeL.cons ?_ ?_ | exact VLeL.nil | exact OLe.row _ _ | rfl | refine VLe.rsle rfl ?_ ?_ ?_ | refine OLe.rowe2 ?_ ?_ | refine OLe.mape ?_ ?_)) <;> try (first | (simp; done) | (congr 1; omega) | (congr 1; (first | (simp; done) | (simp; omega))))
      · exact hst k _ g1
      · show ((foldA z (ws.take (min k room.toNat))).map (PV.int .u8)).set _ _ = (foldA z (ws.take (min (k + 1) room.toNat))).map (PV.int .u8)
        rw [show min k room.toNat = k by omega, show min (k + 1) room.toNat = k + 1 by omega]
        exact hst k _ g1
    · rename_i c1 c2 x1 e1
      have c3 : ¬ (k : Int) < room := hc
      have g1 : ws[k]? = some x1 := by rw [← e1]; congr 1; simp
      have g4 : ws[k]? = some x := by rw [← hx]; congr 1; simp
      rw [g1] at g4; injection g4 with g4; subst g4
      have hkl := (List.getElem?_eq_some_iff.1 g1).1
      refine ⟨⟨k + 1, hkl, by show ((k + 1 : Nat) : Int) ≤ room + 1; have : (k : Int) ≤ room := c2; omega⟩, by show ws.length - (k + 1) < ws.length - k; omega, ?_⟩
      (first | refine Ent.ofA [] ?_ | refine Ent.ofC [] ?_) <;> (repeat' (first | exact trivial | refine HpLe.mk rfl (by simp) rfl (fun h => AObj.noConfusion h) ?_ ?_ | refine And.intro ?_ ?_ | exact VLe.refl _ | exact VLe.msl rfl | exact VLe.rsl rfl | exact VLe.csl rfl | exact VLe.cslr rfl | exact VLe.mp rfl | exact VLe.eptr rfl | exact VLe.ptr rfl | exact VLe.any _ | refine VLe.pe ?_ | refine VLe.agg ?_ | refine VLeL.cons ?_ ?_ | exact VLeL.nil | exact OLe.row _ _ | rfl | refine VLe.rsle rfl ?_ ?_ ?_ | refine OLe.rowe2 ?_ ?_ | refine OLe.mape ?_ ?_)) <;> try (first | (simp; done) | (congr 1; omega) | (congr 1; (first | (simp; done) | (simp; omega))))
      all_goals first | exact hst k _ g1 | (show (foldA z (ws.take (min k room.toNat))).map (PV.int .u8) = (foldA z (ws.take (min (k + 1) room.toNat))).map (PV.int .u8); rw [show min k room.toNat = min (k + 1) room.toNat by omega])
    · have c1 : room < (ws.length : Int) := by assumption
      omega
    · have c1 : room < (ws.length : Int) := by assumption
      omega
    · show 4 = ((foldA z ws).map (PV.int .u8)).length
      rw [List.length_map, hfl]
    · show 4 = ((foldA z ws).map (PV.int .u8)).length
      rw [List.length_map, hfl]
    · rename_i c1 c2
      have c1 : ¬ (k : Int) < (ws.length : Int) := c1
      have hkl : k = ws.length := by omega
      subst hkl
      refine ⟨⟨(i + 1, foldA z ws, [], room - ws.length), by show i + 1 ≤ l.length; omega, hfl _, by simp, by simp, by show 0 ≤ room - (ws.length : Int) ∧ room - (ws.length : Int) < 256; omega⟩, by show l.length - (i + 1) < l.length - i; omega, ?_⟩
      (first | refine Ent.ofA [] ?_ | refine Ent.ofC [] ?_) <;> (repeat' (first | exact trivial | refine HpLe.mk rfl (by simp) rfl (fun h => AObj.noConfusion h) ?_ ?_ | refine And.intro ?_ ?_ | exact VLe.refl _ | exact VLe.msl rfl | exact VLe.rsl rfl | exact VLe.csl rfl | exact VLe.cslr rfl | exact VLe.mp rfl | exact VLe.eptr rfl | exact VLe.ptr rfl | exact VLe.any _ | refine VLe.pe ?_ | refine VLe.agg ?_ | refine VLeL.cons ?_ ?_ | exact VLeL.nil | exact OLe.row _ _ | rfl | refine VLe.rsle rfl ?_ ?_ ?_ | refine OLe.rowe2 ?_ ?_ | refine OLe.mape ?_ ?_)) <;> try (first | (simp; done) | (congr 1; omega) | (congr 1; (first | (simp; done) | (simp; omega))))
      all_goals first | (show (foldA z (ws.take (min ws.length room.toNat))).map (PV.int .u8) = (foldA z ws).map (PV.int .u8); rw [show min ws.length room.toNat = ws.length by omega, List.take_length]; done) | (show (foldA z (ws.take ws.length)).map (PV.int .u8) = (foldA z ws).map (PV.int .u8); rw [List.take_length]; done)
  · rw [hD_sync_stop h2 (by omega) hpp h5 (by omega)] at qs
    repeat' (first | ((with_reducible show _ = _); exact rfl) | ((with_reducible show (_ : Nat) < _); exact Nat.zero_lt_succ _) | ((with_reducible show (_ : Nat) ≤ _); exact Nat.le_of_ble_eq_true rfl) | ((with_reducible show Exists _); refine exU8 ?_) | ((with_reducible show callX _ _ _ _ _); (first | refine call_p qs (by kernel_rfl) rfl ?_)) | ((fail_if_success (first | (with_reducible show LeG _ _) | (with_reducible show Lp _ _ _ _) | (with_reducible show Exists _) | (with_reducible show callX _ _ _ _ _) | (with_reducible show (_ : Int) ≤ _) | (with_reducible show (_ : Int) < _) | (with_reducible show (_ : Nat) ≤ _) | (with_reducible show (_ : Nat) < _))); (conv => whnf) <;> (first | exact OkR.mk (by kernel_rfl) | refine Sq.pr ?_ | refine Br.dec (fun hc => ?_) (fun hc => ?_) | refine Br.tt ?_ | refine Br.ff ?_ | refine Br.not ?_ | refine Br.mk (fun hc => ?_) (fun hc => ?_) | refine Opt.nn ?_ | refine Opt.ss ?_ | exact PV.leL_nil | refine PV.leL_cons ?_ ?_ | refine And.intro ?_ ?_ | refine ix_map (fun x hx => ?_) | refine exU8 ?_ | refine nilc (fun hn => ?_) ?_ | refine call_p qs (by kernel_rfl) rfl ?_ | exact PV.le_refl _ | exact Nat.zero_lt_succ _ | exact Nat.le_of_ble_eq_true rfl | exact onesOf rfl | exact Or.inl rfl | exact noMem | exact onesOfP rfl | exact okAll rfl | exact okMap (fun _ => ⟨rfl, onesOfP rfl⟩) | exact nonz | refine imp0 (fun hpos => ?_) | refine fits_i64 ?_ ?_ | exact rfl | (with_reducible show LeG _ _) | (with_reducible show Lp _ _ _ _) | (with_reducible show Exists _) | (with_reducible show callX _ _ _ _ _)))) <;> (try (first | exact LeG.refl _ | omega | ((first | (with_reducible show (_ : Int) ≤ _) | (with_reducible show (_ : Int) < _) | (with_reducible show (_ : Nat) ≤ _) | (with_reducible show (_ : Nat) < _) | (with_reducible show ¬ _) | (with_reducible show (_ : Int) = _) | (with_reducible show (_ : Nat) = _)); (simp only [List.length_map, List.length_append, List.length_cons, List.length_nil, List.length_replicate, List.length_take, List.length_drop, List.length_set, Int.toNat_natCast, Int.reduceToNat] <;> omega)) | exact of_decide_eq_true rfl))
    refine Wpc.loopA (α := {k : Nat // k ≤ ws.length ∧ (k : Int) ≤ room + 1}) mixed [0, 1, 4, 5, 6, 7, 8, 9, 10, 11, 12, 13, 14, 15, 16, 17, 18, 19, 20, 22, 25, 42, 49, 58, 72, 101, 118, 131, 146, 157] (fun k => [(20, .p (eI k.1))]) (fun k => [(1856, .row 1 ((foldA z (ws.take k.1)).map (PV.int .u8))), (1920, .row 1 ((foldA z (ws.take (min k.1 room.toNat))).map (PV.int .u8)))]) (fun _ => 0) (fun k => ws.length - k.1) ⟨0, by omega, by omega⟩ ?_ ?_
    · (first | refine Ent.ofA [] ?_ | refine Ent.ofC [] ?_) <;> (repeat' (first | exact trivial | refine HpLe.mk rfl (by simp) rfl (fun h => AObj.noConfusion h) ?_ ?_ | refine And.intro ?_ ?_ | exact VLe.refl _ | exact VLe.msl rfl | exact VLe.rsl rfl | exact VLe.csl rfl | exact VLe.cslr rfl | exact VLe.mp rfl | exact VLe.eptr rfl | exact VLe.ptr rfl | exact VLe.any _ | refine VLe.pe ?_ | refine VLe.agg ?_ | refine VLeL.cons ?_ ?_ | exact VLeL.nil | exact OLe.row _ _ | rfl | refine VLe.rsle rfl ?_ ?_ ?_ | refine OLe.rowe2 ?_ ?_ | refine OLe.mape ?_ ?_)) <;> try (first | (simp; done) | (congr 1; omega) | (congr 1; (first | (simp; done) | (simp; omega))))
      all_goals (simp [foldA])
    rintro ⟨k, hk, hk2⟩
    have hk : k ≤ ws.length := hk
    have hk2 : (k : Int) ≤ room + 1 := hk2
    have q3 := restart_calls ⟨secZ (foldA z (ws.take (room.toNat + 1))) (foldA z (ws.take room.toNat)), [], 0, true⟩
    have q2 := fun L M hL hM => hold4 ⟨secZ (foldA z (ws.take (room.toNat + 1))) (foldA z (ws.take room.toNat)), [], -1, false⟩ L M (foldA z (ws.take (room.toNat + 1))) (foldA z (ws.take room.toNat)) hL hM (hfl _) (hfl _) (by show (secZ _ _).length < 1000000; rw [secZ_len, hfl]; omega) (by simp) (zD_holds (hfl _) (hfl _) (by omega))
    repeat' (first | ((with_reducible show _ = _); exact rfl) | ((with_reducible show (_ : Nat) < _); exact Nat.zero_lt_succ _) | ((with_reducible show (_ : Nat) ≤ _); exact Nat.le_of_ble_eq_true rfl) | ((with_reducible show Exists _); refine exU8 ?_) | ((with_reducible show callX _ _ _ _ _); (first | refine call_p (q3) (by kernel_rfl) rfl ?_)) | ((fail_if_success (first | (with_reducible show LeG _ _) | (with_reducible show Lp _ _ _ _) | (with_reducible show Exists _) | (with_reducible show callX _ _ _ _ _) | (with_reducible show (_ : Int) ≤ _) | (with_reducible show (_ : Int) < _) | (with_reducible show (_ : Nat) ≤ _) | (with_reducible show (_ : Nat) < _))); (conv => whnf) <;> (first | exact OkR.mk (by kernel_rfl) | refine Sq.pr ?_ | refine Br.dec (fun hc => ?_) (fun hc => ?_) | refine Br.tt ?_ | refine Br.ff ?_ | refine Br.not ?_ | refine Br.mk (fun hc => ?_) (fun hc => ?_) | refine Opt.nn ?_ | refine Opt.ss ?_ | exact PV.leL_nil | refine PV.leL_cons ?_ ?_ | refine And.intro ?_ ?_ | refine ix_map (fun x hx => ?_) | refine exU8 ?_ | refine nilc (fun hn => ?_) ?_ | refine call_p (q3) (by kernel_rfl) rfl ?_ | exact PV.le_refl _ | exact Nat.zero_lt_succ _ | exact Nat.le_of_ble_eq_true rfl | exact onesOf rfl | exact Or.inl rfl | exact noMem | exact onesOfP rfl | exact okAll rfl | exact okMap (fun _ => ⟨rfl, onesOfP rfl⟩) | exact nonz | refine imp0 (fun hpos => ?_) | refine fits_i64 ?_ ?_ | exact rfl | (with_reducible show LeG _ _) | (with_reducible show Lp _ _ _ _) | (with_reducible show Exists _) | (with_reducible show callX _ _ _ _ _)))) <;> (try (first | exact LeG.refl _ | omega | ((first | (with_reducible show (_ : Int) ≤ _) | (with_reducible show (_ : Int) < _) | (with_reducible show (_ : Nat) ≤ _) | (with_reducible show (_ : Nat) < _) | (with_reducible show ¬ _) | (with_reducible show (_ : Int) = _) | (with_reducible show (_ : Nat) = _)); (simp only [List.length_map, List.length_append, List.length_cons, List.length_nil, List.length_replicate, List.length_take, List.length_drop, List.length_set, Int.toNat_natCast, Int.reduceToNat] <;> omega)) | exact of_decide_eq_true rfl))
    (all_goals (try ((first | (with_reducible show (_ : Int) ≤ _) | (with_reducible show (_ : Int) < _) | (with_reducible show (_ : Nat) ≤ _) | (with_reducible show (_ : Nat) < _) | (with_reducible show ¬ _) | (with_reducible show (_ : Int) = _) | (with_reducible show (_ : Nat) = _) | (with_reducible show False)); (try dsimp only at *); (try simp only [List.length_map, List.length_append, List.length_cons, List.length_nil, List.length_replicate, List.length_take, List.length_drop, List.length_set, Int.toNat_natCast, Int.reduceToNat] at *); omega)))
    all_goals try (first | exact (hp4 _ _ (by assumption)).1 | exact (hp4 _ _ (by assumption)).2)
    · rename_i y hy
      have := hp4 _ _ hy
      show 0 + (y.pos.tmod 4).toNat < ((foldA z (ws.take k)).map (PV.int .u8)).length
      rw [List.length_map, hfl]; omega
    · rename_i y hy
      have := hp4 _ _ hy
      show 0 + (y.pos.tmod 4).toNat < ((foldA z (ws.take (min k room.toNat))).map (PV.int .u8)).length
      rw [List.length_map, hfl]; omega
    · rename_i c1 c2 x1 e1 x2 e2 x3 e3
      have c3 : (k : Int) < room := hc
      have g1 : ws[k]? = some x1 := by rw [← e1]; congr 1; simp
      have g2 : ws[k]? = some x2 := by rw [← e2]; congr 1; simp
      have g3 : ws[k]? = some x3 := by rw [← e3]; congr 1; simp
      have g4 : ws[k]? = some x := by rw [← hx]; congr 1; simp
      rw [g1] at g2 g3 g4; injection g2 with g2; injection g3 with g3; injection g4 with g4; subst g2; subst g3; subst g4
      have hkl := (List.getElem?_eq_some_iff.1 g1).1
      refine ⟨⟨k + 1, hkl, by show ((k + 1 : Nat) : Int) ≤ room + 1; omega⟩, by show ws.length - (k + 1) < ws.length - k; omega, ?_⟩
      (first | refine Ent.ofA [] ?_ | refine Ent.ofC [] ?_) <;> (repeat' (first | exact trivial | refine HpLe.mk rfl (by simp) rfl (fun h => AObj.noConfusion h) ?_ ?_ | refine And.intro ?_ ?_ | exact VLe.refl _ | exact VLe.msl rfl | exact VLe.rsl rfl | exact VLe.csl rfl | exact VLe.cslr rfl | exact VLe.mp rfl | exact VLe.eptr rfl | exact VLe.ptr rfl | exact VLe.any _ | refine VLe.pe ?_ | refine VLe.agg ?_ | refine VLeL.cons ?_ ?_ | exact VLeL.nil | exact OLe.row _ _ | rfl | refine VLe.rsle rfl ?_ ?_ ?_ | refine OLe.rowe2 ?_ ?_ | refine OLe.mape ?_ ?_)) <;> try (first | (simp; done) | (congr 1; omega) | (congr 1; (first | (simp; done) | (simp; omega))))
      · exact hst k _ g1
      · show ((foldA z (ws.take (min k room.toNat))).map (PV.int .u8)).set _ _ = (foldA z (ws.take (min (k + 1) room.toNat))).map (PV.int .u8)
        rw [show min k room.toNat = k by omega, show min (k + 1) room.toNat = k + 1 by omega]
        exact hst k _ g1
    · rename_i c1 c2 x1 e1
      have c3 : ¬ (k : Int) < room := hc
      have g1 : ws[k]? = some x1 := by rw [← e1]; congr 1; simp
      have g4 : ws[k]? = some x := by rw [← hx]; congr 1; simp
      rw [g1] at g4; injection g4 with g4; subst g4
      have hkl := (List.getElem?_eq_some_iff.1 g1).1
      refine ⟨⟨k + 1, hkl, by show ((k + 1 : Nat) : Int) ≤ room + 1; have : (k : Int) ≤ room := c2; omega⟩, by show ws.length - (k + 1) < ws.length - k; omega, ?_⟩
      (first | refine Ent.ofA [] ?_ | refine Ent.ofC [] ?_) <;> (repeat' (first | exact trivial | refine HpLe.mk rfl (by simp) rfl (fun h => AObj.noConfusion h) ?_ ?_ | refine And.intro ?_ ?_ | exact VLe.refl _ | exact VLe.msl rfl | exact VLe.rsl rfl | exact VLe.csl rfl | exact VLe.cslr rfl | exact VLe.mp rfl | exact VLe.eptr rfl | exact VLe.ptr rfl | exact VLe.any _ | refine VLe.pe ?_ | refine VLe.agg ?_ | refine VLeL.cons ?_ ?_ | exact VLeL.nil | exact OLe.row _ _ | rfl | refine VLe.rsle rfl ?_ ?_ ?_ | refine OLe.rowe2 ?_ ?_ | refine OLe.mape ?_ ?_)) <;> try (first | (simp; done) | (congr 1; omega) | (congr 1; (first | (simp; done) | (simp; omega))))
      all_goals first | exact hst k _ g1 | (show (foldA z (ws.take (min k room.toNat))).map (PV.int .u8) = (foldA z (ws.take (min (k + 1) room.toNat))).map (PV.int .u8); rw [show min k room.toNat = min (k + 1) room.toNat by omega])
    · show 4 = ((foldA z (ws.take k)).map (PV.int .u8)).length
      rw [List.length_map, hfl]
    · show 4 = ((foldA z (ws.take (min k room.toNat))).map (PV.int .u8)).length
      rw [List.length_map, hfl]
    · rename_i c1 c2 c3
      have c2 : ¬ (k : Int) ≤ room := c2
      have hkl : k = room.toNat + 1 := by omega
      have hkm : min k room.toNat = room.toNat := by omega
      have q2 := q2 ((foldA z (ws.take k)).map (PV.int .u8)) ((foldA z (ws.take (min k room.toNat))).map (PV.int .u8)) (by rw [hkl]) (by rw [hkm])
      repeat' (first | ((with_reducible show _ = _); exact rfl) | ((with_reducible show (_ : Nat) < _); exact Nat.zero_lt_succ _) | ((with_reducible show (_ : Nat) ≤ _); exact Nat.le_of_ble_eq_true rfl) | ((with_reducible show Exists _); refine exU8 ?_) | ((with_reducible show callX _ _ _ _ _); (first | refine call_p (q2) (by kernel_rfl) rfl ?_)) | ((fail_if_success (first | (with_reducible show LeG _ _) | (with_reducible show Lp _ _ _ _) | (with_reducible show Exists _) | (with_reducible show callX _ _ _ _ _) | (with_reducible show (_ : Int) ≤ _) | (with_reducible show (_ : Int) < _) | (with_reducible show (_ : Nat) ≤ _) | (with_reducible show (_ : Nat) < _))); (conv => whnf) <;> (first | exact OkR.mk (by kernel_rfl) | refine Sq.pr ?_ | refine Br.dec (fun hc => ?_) (fun hc => ?_) | refine Br.tt ?_ | refine Br.ff ?_ | refine Br.not ?_ | refine Br.mk (fun hc => ?_) (fun hc => ?_) | refine Opt.nn ?_ | refine Opt.ss ?_ | exact PV.leL_nil | refine PV.leL_cons ?_ ?_ | refine And.intro ?_ ?_ | refine ix_map (fun x hx => ?_) | refine exU8 ?_ | refine nilc (fun hn => ?_) ?_ | refine call_p (q2) (by kernel_rfl) rfl ?_ | exact PV.le_refl _ | exact Nat.zero_lt_succ _ | exact Nat.le_of_ble_eq_true rfl | exact onesOf rfl | exact Or.inl rfl | exact noMem | exact onesOfP rfl | exact okAll rfl | exact okMap (fun _ => ⟨rfl, onesOfP rfl⟩) | exact nonz | refine imp0 (fun hpos => ?_) | refine fits_i64 ?_ ?_ | exact rfl | (with_reducible show LeG _ _) | (with_reducible show Lp _ _ _ _) | (with_reducible show Exists _) | (with_reducible show callX _ _ _ _ _)))) <;> (try (first | exact LeG.refl _ | omega | ((first | (with_reducible show (_ : Int) ≤ _) | (with_reducible show (_ : Int) < _) | (with_reducible show (_ : Nat) ≤ _) | (with_reducible show (_ : Nat) < _) | (with_reducible show ¬ _) | (with_reducible show (_ : Int) = _) | (with_reducible show (_ : Nat) = _)); (simp only [List.length_map, List.length_append, List.length_cons, List.length_nil, List.length_replicate, List.length_take, List.length_drop, List.length_set, Int.toNat_natCast, Int.reduceToNat] <;> omega)) | exact of_decide_eq_true rfl))
    · show 4 = ((foldA z (ws.take k)).map (PV.int .u8)).length
      rw [List.length_map, hfl]
    · show 4 = ((foldA z (ws.take (min k room.toNat))).map (PV.int .u8)).length
      rw [List.length_map, hfl]
    · rename_i c1 c2
      have c1 : ¬ (k : Int) < ws.length := c1
      have hkl : k = room.toNat + 1 := by omega
      have hkm : min k room.toNat = room.toNat := by omega
      have q2 := q2 ((foldA z (ws.take k)).map (PV.int .u8)) ((foldA z (ws.take (min k room.toNat))).map (PV.int .u8)) (by rw [hkl]) (by rw [hkm])
      repeat' (first | ((with_reducible show _ = _); exact rfl) | ((with_reducible show (_ : Nat) < _); exact Nat.zero_lt_succ _) | ((with_reducible show (_ : Nat) ≤ _); exact Nat.le_of_ble_eq_true rfl) | ((with_reducible show Exists _); refine exU8 ?_) | ((with_reducible show callX _ _ _ _ _); (first | refine call_p (q2) (by kernel_rfl) rfl ?_)) | ((fail_if_success (first | (with_reducible show LeG _ _) | (with_reducible show Lp _ _ _ _) | (with_reducible show Exists _) | (with_reducible show callX _ _ _ _ _) | (with_reducible show (_ : Int) ≤ _) | (with_reducible show (_ : Int) < _) | (with_reducible show (_ : Nat) ≤ _) | (with_reducible show (_ : Nat) < _))); (conv => whnf) <;> (first | exact OkR.mk (by kernel_rfl) | refine Sq.pr ?_ | refine Br.dec (fun hc => ?_) (fun hc => ?_) | refine Br.tt ?_ | refine Br.ff ?_ | refine Br.not ?_ | refine Br.mk (fun hc => ?_) (fun hc => ?_) | refine Opt.nn ?_ | refine Opt.ss ?_ | exact PV.leL_nil | refine PV.leL_cons ?_ ?_ | refine And.intro ?_ ?_ | refine ix_map (fun x hx => ?_) | refine exU8 ?_ | refine nilc (fun hn => ?_) ?_ | refine call_p (q2) (by kernel_rfl) rfl ?_ | exact PV.le_refl _ | exact Nat.zero_lt_succ _ | exact Nat.le_of_ble_eq_true rfl | exact onesOf rfl | exact Or.inl rfl | exact noMem | exact onesOfP rfl | exact okAll rfl | exact okMap (fun _ => ⟨rfl, onesOfP rfl⟩) | exact nonz | refine imp0 (fun hpos => ?_) | refine fits_i64 ?_ ?_ | exact rfl | (with_reducible show LeG _ _) | (with_reducible show Lp _ _ _ _) | (with_reducible show Exists _) | (with_reducible show callX _ _ _ _ _)))) <;> (try (first | exact LeG.refl _ | omega | ((first | (with_reducible show (_ : Int) ≤ _) | (with_reducible show (_ : Int) < _) | (with_reducible show (_ : Nat) ≤ _) | (with_reducible show (_ : Nat) < _) | (with_reducible show ¬ _) | (with_reducible show (_ : Int) = _) | (with_reducible show (_ : Nat) = _)); (simp only [List.length_map, List.length_append, List.length_cons, List.length_nil, List.length_replicate, List.length_take, List.length_drop, List.length_set, Int.toNat_natCast, Int.reduceToNat] <;> omega)) | exact of_decide_eq_true rfl))
    · have c1 : ¬ room < (ws.length : Int) := by assumption
      omega
end Go.Proofs.Ytcfkbohjnghelaa

namespace Go.Proofs.Ytcfkbohjnghelaa
open Go Go.Sg
set_option maxRecDepth 100000
theorem rI : Rdc Try.prog 3 Int (fun n => [eI n]) (fun n => (Lit.int .i64 n).wf = true) := Rdc.int (by kernel_rfl) (by kernel_rfl)
theorem rU8 : Rdc Try.prog 5 Int (fun n => [.int .u8 n]) (fun n => (Lit.int .u8 n).wf = true) := Rdc.int (by kernel_rfl) (by kernel_rfl)
theorem rBool : Rdc Try.prog 4 Bool (fun n => [.bool n]) (fun _ => True) := Rdc.bool (by kernel_rfl) (by kernel_rfl)
def okBs (b : Bs) : Prop := b.length ≤ reachBytes ∧ ∀ n ∈ b, (Lit.int .u8 n).wf = true
theorem rB : Rdc Try.prog 35 Bs (fun b => [eB b]) okBs :=
  Rdc.slice (e := 5) (sz := 1) (by kernel_rfl) (by kernel_rfl) rU8 (by kernel_rfl) (by decide) (of_decide_eq_true (by kernel_rfl)) (fun _ _ => rfl)
def okSs (l : List Bs) : Prop := l.length ≤ reachBytes ∧ ∀ b ∈ l, okBs b
theorem rS : Rdc Try.prog 22 (List Bs) (fun b => [eS b]) okSs :=
  Rdc.slice (e := 35) (sz := 1) (by kernel_rfl) (by kernel_rfl) rB (by kernel_rfl) (by decide) (of_decide_eq_true (by kernel_rfl)) (fun _ _ => rfl)
def okWr (w : Wr) : Prop := (Lit.int .i64 w.pos).wf = true ∧ okBs w.data
theorem rW : Rdc Try.prog 54 Wr (fun w => [eI w.pos, eB w.data]) okWr := by
  have h := Rdc.struct (P := Try.prog) (t := 54) Try.underlying54 (Rdf.cons rI (Rdf.cons rB Rdf.nil (by kernel_rfl) rfl) (by kernel_rfl) rfl) (by kernel_rfl)
  exact h.map (fun x => (⟨x.1, x.2.1⟩ : Wr)) (fun w => (w.pos, w.data, ())) (fun _ => rfl) (fun _ _ => rfl) (fun x h => ⟨h.1, h.2.1⟩) (fun y h => ⟨h.1, h.2, trivial⟩)
def okPs (l : List Wr) : Prop := l.length ≤ reachBytes ∧ ∀ b ∈ l, okWr b
theorem rP : Rdc Try.prog 23 (List Wr) (fun b => [eP b]) okPs :=
  Rdc.slice (e := 54) (sz := 2) (by kernel_rfl) (by kernel_rfl) rW (by kernel_rfl) (by decide) (of_decide_eq_true (by kernel_rfl)) (fun _ _ => rfl)
def okDk (d : Dk) : Prop := okSs d.secs ∧ okPs d.pend ∧ (Lit.int .i64 d.left).wf = true
theorem rDc : Rdc Try.prog 25 Dk (fun d => [eS d.secs, eP d.pend, eI d.left, .bool d.stop]) okDk := by
  have h := Rdc.struct (P := Try.prog) (t := 25) Try.underlying25 (Rdf.cons rS (Rdf.cons rP (Rdf.cons rI (Rdf.cons rBool Rdf.nil (by kernel_rfl) rfl) (by kernel_rfl) rfl) (by kernel_rfl) rfl) (by kernel_rfl) rfl) (by kernel_rfl)
  exact h.map (fun x => (⟨x.1, x.2.1, x.2.2.1, x.2.2.2.1⟩ : Dk)) (fun w => (w.secs, w.pend, w.left, w.stop, ())) (fun _ => rfl) (fun _ _ => rfl) (fun x h => ⟨h.1, h.2.1, h.2.2.1⟩) (fun y h => ⟨h.1, h.2.1, h.2.2, trivial, trivial⟩)
theorem aD : Rda Try.prog 25 Dk eD okDk := Rda.agg rDc (by kernel_rfl)
theorem aI : Rda Try.prog 3 Int eI (fun n => (Lit.int .i64 n).wf = true) := Rda.one rI (by kernel_rfl)
theorem aB : Rda Try.prog 35 Bs eB okBs := Rda.one rB (by kernel_rfl)
theorem okDk.rd {d : Dk} (h : okDk d) : rdD d := ⟨fun b hb => Nat.lt_of_le_of_lt (h.1.2 b hb).1 reachBytes_lt, fun w hw => Nat.lt_of_le_of_lt (h.2.1.2 w hw).2.1 reachBytes_lt⟩
theorem own : ownKnob Try.prog.godebug = none := by kernel_rfl
end Go.Proofs.Ytcfkbohjnghelaa

namespace Go.Proofs.Ytcfkbohjnghelaa
open Go Go.Sg
set_option maxRecDepth 100000
def okAc (a : Ac) : Prop := (Lit.int .u8 a.pos).wf = true ∧ (Lit.int .u8 a.byte).wf = true
theorem okAc_pos {a : Ac} (h : okAc a) : 0 ≤ a.pos ∧ a.pos < 256 := by
  have := h.1
  simp [Lit.wf] at this
  have e1 : IntKind.u8.min = 0 := by decide
  have e2 : IntKind.u8.max = 255 := by decide
  omega
theorem rA : Rdc Try.prog 46 Ac (fun a => [.bool a.sync, .int .u8 a.pos, .int .u8 a.byte]) okAc := by
  have h := Rdc.struct (P := Try.prog) (t := 46) Try.underlying46 (Rdf.cons rBool (Rdf.cons rU8 (Rdf.cons rU8 Rdf.nil (by kernel_rfl) rfl) (by kernel_rfl) rfl) (by kernel_rfl) rfl) (by kernel_rfl)
  exact h.map (fun x => (⟨x.1, x.2.1, x.2.2.1⟩ : Ac)) (fun w => (w.sync, w.pos, w.byte, ())) (fun _ => rfl) (fun _ _ => rfl) (fun x h => ⟨h.2.1, h.2.2.1⟩) (fun y h => ⟨trivial, h.1, h.2, trivial⟩)
def okAcs (l : List Ac) : Prop := l.length ≤ reachBytes ∧ ∀ b ∈ l, okAc b
theorem rAs : Rdc Try.prog 43 (List Ac) (fun b => [eAs b]) okAcs :=
  Rdc.slice (e := 46) (sz := 3) (by kernel_rfl) (by kernel_rfl) rA (by kernel_rfl) (by decide) (of_decide_eq_true (by kernel_rfl)) (fun _ _ => rfl)
theorem aAs : Rda Try.prog 43 (List Ac) eAs okAcs := Rda.one rAs (by kernel_rfl)
theorem diskTogether_lifted (os : Os) (started : os.Started) (H : Type) (enc : TypeId × Value → H) :
    ReturnsInHanded {} Try.checked os 8 .any (Rows.diskTogetherSpec.pre6 enc Try.prog Try.f8 [] false) (Rows.diskTogetherSpec.post enc Try.prog Try.f8 false true false false) :=
  law_lifted (C := Try.checked) (tb := 4) own started (by kernel_rfl) Try.func8
    (ChangeSpec.witness6 (enc := enc) (C := Try.checked) false ⟨#[], #[.agg #[.slice none 0 0, .slice none 0 0, .int .i64 0, .bool false], .slice none 0 0], []⟩ 8 (by kernel_rfl) (by kernel_rfl) (by kernel_rfl) (by kernel_rfl))
    (by kernel_rfl) (by kernel_rfl) (by kernel_rfl) (by kernel_rfl) rfl (by kernel_rfl) (by kernel_rfl)
    (fun ds hds => by match ds, hds with | [_, _], _ => rfl)
    ((ArgR.cons aD (ArgR.cons aAs ArgR.nil))) (fun a ha => together_calls a.1 a.2.1 ha.1.rd (fun x h => okAc_pos (ha.2.1.2 x h)))
theorem diskTogether_holds : Rows.DiskTogetherSaid :=
  OpenClaim.holds_of_wide 8 Try.f8 rfl rfl rfl rfl rfl rfl rfl ⟨rfl, rfl, rfl, rfl, rfl⟩ rfl rfl rfl rfl rfl (by kernel_rfl) Try.func8 (by kernel_rfl)
    (of_decide_eq_true (by kernel_rfl)) (by unfold Func.isWrapper; first | (rw [if_pos (by decide +kernel)]; kernel_rfl) | (rw [if_neg (by decide +kernel)]; exact ⟨rfl, rfl⟩))
    (fun os started H enc _ => diskTogether_lifted os started H enc)
end Go.Proofs.Ytcfkbohjnghelaa
