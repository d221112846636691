/- A part of the proof: contracts of the functions that the statement reaches. -/
import Derived.Test.YtcfkbohjnghelaaChp0
import Derived.Test.YtcfkbohjnghelaaRows
set_option linter.unusedSimpArgs false
set_option linter.unusedVariables false
set_option linter.unnecessarySimpa false
namespace Go.Proofs.Ytcfkbohjnghelaa
open Go Go.Sg
set_option maxRecDepth 100000
set_option maxHeartbeats 4000000
structure Ac where
  sync : Bool
  pos : Int
  byte : Int
def eA (a : Ac) : PV := .agg [.bool a.sync, .int .u8 a.pos, .int .u8 a.byte]
def eAs (l : List Ac) : PV := .sl 3 false (l.map eA)
/-- The write of an act. -/
def wA (d : Dk) (a : Ac) : Wr := ⟨(IntKind.i64.wrap a.pos).tmod ((d.secs.map eB).length : Int), fillB [a.byte]⟩
/-- After i writes, each with its sync. -/
def tst (d : Dk) (ws : List Wr) (i : Nat) : Dk × Int :=
  if 0 ≤ d.left ∧ d.left < i then (⟨tornW (perf d.secs (ws.take d.left.toNat)) (ws.getD d.left.toNat ⟨0, []⟩), [], 0, true⟩, 40)
  else (⟨perf d.secs (ws.take i), [], if 0 ≤ d.left then d.left - i else d.left, false⟩, 0)
theorem tst_sync (d : Dk) (ws : List Wr) (h : okD ⟨d.secs, ws, d.left, false⟩ = true) : syncD ⟨d.secs, ws, d.left, false⟩ = tst d ws ws.length := by
  unfold syncD tst
  have h1 : runD ⟨d.secs, ws, d.left, false⟩ = true := by simp [runD, h]
  rw [if_pos h1]
  simp only [List.length_map]
  by_cases e : 0 ≤ d.left
  · by_cases f : d.left < ws.length
    · rw [if_pos e, if_pos f, if_pos ⟨e, f⟩]
    · rw [if_pos e, if_neg f, if_neg (fun g => f g.2), List.take_of_length_le (Nat.le_refl _), if_pos e]
  · rw [if_neg e, if_neg (fun g => e g.1), List.take_of_length_le (Nat.le_refl _), if_neg e]
theorem tst_ok {d : Dk} {ws : List Wr} {i : Nat} (h : okD d = true) (hi : i ≤ ws.length) (hw : ∀ w ∈ ws, (0 ≤ w.pos ∧ w.pos < d.secs.length) ∧ w.data.length = 128) (hs : ¬ (0 ≤ d.left ∧ d.left < i)) : tst d ws i = (⟨perf d.secs (ws.take i), [], if 0 ≤ d.left then d.left - i else d.left, false⟩, 0) ∧ okD (tst d ws i).1 = true := by
  obtain ⟨⟨k1, k2⟩, k3, k4, k5, k6⟩ := okD_spec h
  have e : tst d ws i = (⟨perf d.secs (ws.take i), [], if 0 ≤ d.left then d.left - i else d.left, false⟩, 0) := if_neg hs
  refine ⟨e, ?_⟩
  rw [e]
  have hq := perf_all (Q := fun b => b.length = 128) (ws.take i) d.secs k6 (fun w hm => (hw w (List.mem_of_mem_take hm)).2)
  refine okD_in (by rw [perf_len]; omega) (by rw [perf_len]; omega) (by simp) ?_ ?_ (by simp) hq
  · show -1 ≤ (if 0 ≤ d.left then d.left - i else d.left); split <;> omega
  · show (if 0 ≤ d.left then d.left - i else d.left) ≤ 65536; split <;> omega
theorem tst_step {d : Dk} {ws : List Wr} {i : Nat} {w : Wr} {n : Int} {b : Bs} (h : okD d = true) (hi : ws[i]? = some w) (he : w = ⟨n, fillB b⟩) (hb : b.length ≤ 128) (hw : ∀ w ∈ ws, (0 ≤ w.pos ∧ w.pos < d.secs.length) ∧ w.data.length = 128) (hs : ¬ (0 ≤ d.left ∧ d.left < i)) :
    writeD (tst d ws i).1 n b = (addD (tst d ws i).1 n b, 0) ∧ syncD (addD (tst d ws i).1 n b) = tst d ws (i + 1) := by
  have hl : i < ws.length := (List.getElem?_eq_some_iff.1 hi).1
  obtain ⟨e, o⟩ := tst_ok h (by omega) hw hs
  have hm := hw w (List.mem_of_getElem? hi)
  have hst : (tst d ws i).1.stop = false := by rw [e]
  have hp : (tst d ws i).1.pend = [] := by rw [e]
  have hsl : (tst d ws i).1.secs = perf d.secs (ws.take i) := by rw [e]
  have hr : runD (tst d ws i).1 = true := by simp [runD, o, hst]
  have hh : hasD (tst d ws i).1 n = true := by
    simp only [hasD, hsl, perf_len, Bool.and_eq_true, decide_eq_true_eq]
    subst he; exact hm.1
  refine ⟨writeD_ok hr hh hb (by rw [hp]; simp), ?_⟩
  have ho : okD (addD (tst d ws i).1 n b) = true := addD_ok o hh hb (by rw [hp]; simp)
  have ha : addD (tst d ws i).1 n b = ⟨perf d.secs (ws.take i), [w], if 0 ≤ d.left then d.left - i else d.left, false⟩ := by
    rw [e]; subst he; rfl
  rw [ha] at ho ⊢
  have hr : runD ⟨perf d.secs (ws.take i), [w], if 0 ≤ d.left then d.left - i else d.left, false⟩ = true := by simp [runD, ho]
  have hpt := perf_take d.secs ws i w hi
  have hp1 : perf (perf d.secs (ws.take i)) [w] = perf d.secs (ws.take (i + 1)) := by rw [hpt]; rfl
  unfold syncD
  rw [if_pos hr]
  unfold tst
  simp only [List.length_map, List.length_cons, List.length_nil]
  by_cases f : 0 ≤ d.left
  · simp only [if_pos f]
    rw [if_pos (by omega)]
    by_cases g : d.left = i
    · have g2 : d.left.toNat = i := by omega
      rw [if_pos (by omega), if_pos (by omega), g2]
      have : (d.left - i).toNat = 0 := by omega
      rw [this]
      simp [List.getD, hi, perf]
    · rw [if_neg (by omega), if_neg (by omega), hp1]
      congr 2
      omega
  · simp only [if_neg f]
    rw [if_neg (fun g => f g.1), hp1]
theorem wA_ok {d : Dk} {a : Ac} (h : 0 ≤ a.pos ∧ a.pos < 256) (hs : 0 < d.secs.length) : (0 ≤ (wA d a).pos ∧ (wA d a).pos < d.secs.length) ∧ (wA d a).data.length = 128 := by
  have e : IntKind.i64.wrap a.pos = a.pos := by
    have : 0 ≤ a.pos := h.1
    have : a.pos < 256 := h.2
    simp only [IntKind.wrap, IntKind.bits, IntKind.signed, Bool.true_and, decide_eq_true_eq, Nat.reduceSub, Int.reducePow, ge_iff_le]
    split <;> omega
  refine ⟨?_, fillB_len _ (by simp)⟩
  show 0 ≤ (IntKind.i64.wrap a.pos).tmod ((d.secs.map eB).length : Int) ∧ (IntKind.i64.wrap a.pos).tmod ((d.secs.map eB).length : Int) < d.secs.length
  rw [e, List.length_map, Int.tmod_eq_emod_of_nonneg h.1]
  exact ⟨Int.emod_nonneg _ (by omega), Int.emod_lt_of_pos _ (by omega)⟩
theorem tst_zero {d : Dk} (ws : List Wr) (hp : d.pend = []) (hs : d.stop = false) : tst d ws 0 = (d, 0) := by
  unfold tst
  rw [if_neg (by simp)]
  cases d
  simp_all [perf]
theorem together_calls (d : Dk) (l : List Ac) (hr : rdD d) (ha : ∀ a ∈ l, 0 ≤ a.pos ∧ a.pos < 256) : PCalls Try.prog 8 [eD d, eAs l] (.bool true) := by
  by_cases hfew : fewW d.pend (fewS d.secs 0) ≤ 9000
  · obtain ⟨l1, l2⟩ := few_len hfew
    have q1 := check_calls d l1 l2
    cases ho : okD d with
    | false =>
      simp only [ho, Bool.false_eq_true, ↓reduceIte] at q1
      refine PCalls.of (N := 131) (res := [.tmp 4]) mixed Try.func8 rfl rfl rfl (by kernel_rfl) (by simp) [0, 1, 2, 4, 5, 6, 7, 8, 9, 10, 11, 12, 13, 14, 15, 17, 46, 56, 82, 91, 116] ?_
      repeat' (first | ((with_reducible show _ = _); exact rfl) | ((with_reducible show (_ : Nat) < _); exact Nat.zero_lt_succ _) | ((with_reducible show (_ : Nat) ≤ _); exact Nat.le_of_ble_eq_true rfl) | ((with_reducible show Exists _); refine exU8 ?_) | ((with_reducible show callX _ _ _ _ _); (first | refine call_p (sane_calls) (by kernel_rfl) rfl ?_ | refine call_p (few_calls d hr.s hr.p) (by kernel_rfl) rfl ?_ | refine call_p (q1) (by kernel_rfl) rfl ?_)) | ((fail_if_success (first | (with_reducible show LeG _ _) | (with_reducible show Lp _ _ _ _) | (with_reducible show Exists _) | (with_reducible show callX _ _ _ _ _) | (with_reducible show (_ : Int) ≤ _) | (with_reducible show (_ : Int) < _) | (with_reducible show (_ : Nat) ≤ _) | (with_reducible show (_ : Nat) < _))); (conv => whnf) <;> (first | exact OkR.mk (by kernel_rfl) | refine Sq.pr ?_ | refine Br.dec (fun hc => ?_) (fun hc => ?_) | refine Br.tt ?_ | refine Br.ff ?_ | refine Br.not ?_ | refine Br.mk (fun hc => ?_) (fun hc => ?_) | refine Opt.nn ?_ | refine Opt.ss ?_ | exact PV.leL_nil | refine PV.leL_cons ?_ ?_ | refine And.intro ?_ ?_ | refine ix_map (fun x hx => ?_) | refine exU8 ?_ | refine nilc (fun hn => ?_) ?_ | refine call_p (sane_calls) (by kernel_rfl) rfl ?_ | refine call_p (few_calls d hr.s hr.p) (by kernel_rfl) rfl ?_ | refine call_p (q1) (by kernel_rfl) rfl ?_ | exact PV.le_refl _ | exact Nat.zero_lt_succ _ | exact Nat.le_of_ble_eq_true rfl | exact onesOf rfl | exact Or.inl rfl | exact noMem | exact onesOfP rfl | exact okAll rfl | exact okMap (fun _ => ⟨rfl, onesOfP rfl⟩) | exact nonz | refine imp0 (fun hpos => ?_) | refine fits_i64 ?_ ?_ | exact rfl | (with_reducible show LeG _ _) | (with_reducible show Lp _ _ _ _) | (with_reducible show Exists _) | (with_reducible show callX _ _ _ _ _)))) <;> (try (first | exact LeG.refl _ | omega | ((first | (with_reducible show (_ : Int) ≤ _) | (with_reducible show (_ : Int) < _) | (with_reducible show (_ : Nat) ≤ _) | (with_reducible show (_ : Nat) < _) | (with_reducible show ¬ _) | (with_reducible show (_ : Int) = _) | (with_reducible show (_ : Nat) = _)); (simp only [List.length_map, List.length_append, List.length_cons, List.length_nil, List.length_replicate, List.length_take, List.length_drop, List.length_set, Int.toNat_natCast, Int.reduceToNat] <;> omega)) | exact of_decide_eq_true rfl))
    | true =>
      simp only [ho, Bool.false_eq_true, ↓reduceIte] at q1
      refine PCalls.of (N := 131) (res := [.tmp 4]) mixed Try.func8 rfl rfl rfl (by kernel_rfl) (by simp) [0, 1, 2, 4, 5, 6, 7, 8, 9, 10, 11, 12, 13, 14, 15, 17, 46, 56, 82, 91, 116] ?_
      repeat' (first | ((with_reducible show _ = _); exact rfl) | ((with_reducible show (_ : Nat) < _); exact Nat.zero_lt_succ _) | ((with_reducible show (_ : Nat) ≤ _); exact Nat.le_of_ble_eq_true rfl) | ((with_reducible show Exists _); refine exU8 ?_) | ((with_reducible show callX _ _ _ _ _); (first | refine call_p (sane_calls) (by kernel_rfl) rfl ?_ | refine call_p (few_calls d hr.s hr.p) (by kernel_rfl) rfl ?_ | refine call_p (q1) (by kernel_rfl) rfl ?_)) | ((fail_if_success (first | (with_reducible show LeG _ _) | (with_reducible show Lp _ _ _ _) | (with_reducible show Exists _) | (with_reducible show callX _ _ _ _ _) | (with_reducible show (_ : Int) ≤ _) | (with_reducible show (_ : Int) < _) | (with_reducible show (_ : Nat) ≤ _) | (with_reducible show (_ : Nat) < _))); (conv => whnf) <;> (first | exact OkR.mk (by kernel_rfl) | refine Sq.pr ?_ | refine Br.dec (fun hc => ?_) (fun hc => ?_) | refine Br.tt ?_ | refine Br.ff ?_ | refine Br.not ?_ | refine Br.mk (fun hc => ?_) (fun hc => ?_) | refine Opt.nn ?_ | refine Opt.ss ?_ | exact PV.leL_nil | refine PV.leL_cons ?_ ?_ | refine And.intro ?_ ?_ | refine ix_map (fun x hx => ?_) | refine exU8 ?_ | refine nilc (fun hn => ?_) ?_ | refine call_p (sane_calls) (by kernel_rfl) rfl ?_ | refine call_p (few_calls d hr.s hr.p) (by kernel_rfl) rfl ?_ | refine call_p (q1) (by kernel_rfl) rfl ?_ | exact PV.le_refl _ | exact Nat.zero_lt_succ _ | exact Nat.le_of_ble_eq_true rfl | exact onesOf rfl | exact Or.inl rfl | exact noMem | exact onesOfP rfl | exact okAll rfl | exact okMap (fun _ => ⟨rfl, onesOfP rfl⟩) | exact nonz | refine imp0 (fun hpos => ?_) | refine fits_i64 ?_ ?_ | exact rfl | (with_reducible show LeG _ _) | (with_reducible show Lp _ _ _ _) | (with_reducible show Exists _) | (with_reducible show callX _ _ _ _ _)))) <;> (try (first | exact LeG.refl _ | omega | ((first | (with_reducible show (_ : Int) ≤ _) | (with_reducible show (_ : Int) < _) | (with_reducible show (_ : Nat) ≤ _) | (with_reducible show (_ : Nat) < _) | (with_reducible show ¬ _) | (with_reducible show (_ : Int) = _) | (with_reducible show (_ : Nat) = _)); (simp only [List.length_map, List.length_append, List.length_cons, List.length_nil, List.length_replicate, List.length_take, List.length_drop, List.length_set, Int.toNat_natCast, Int.reduceToNat] <;> omega)) | exact of_decide_eq_true rfl))
      have hp0 : d.pend = [] := by
        have h : ¬ 0 < ((d.pend.map eW).length : Int) := by assumption
        simp only [List.length_map] at h
        exact List.length_eq_zero_iff.1 (by omega)
      have hs1 : 0 < d.secs.length := by have := (okD_spec ho).1.1; omega
      have hw : ∀ w ∈ l.map (wA d), (0 ≤ w.pos ∧ w.pos < d.secs.length) ∧ w.data.length = 128 := fun w hm => by
        obtain ⟨a, ham, e⟩ := List.mem_map.1 hm
        subst e
        exact wA_ok (ha a ham) hs1
      refine Wpc.loopA (α := {i : Nat // i ≤ l.length ∧ (0 ≤ d.left → (i : Int) ≤ d.left + 1)}) mixed [0, 1, 2, 4, 5, 6, 7, 8, 9, 10, 11, 12, 13, 14, 15, 17, 46, 56, 82, 91, 116] (fun i => [(7, .p (eE (tst d (l.map (wA d)) i.1).2)), (8, .p (eI i.1))]) (fun i => [(2240, .cells [.p (eS (tst d (l.map (wA d)) i.1).1.secs), .p (eP (tst d (l.map (wA d)) i.1).1.pend), .p (eI (tst d (l.map (wA d)) i.1).1.left), .p (.bool (tst d (l.map (wA d)) i.1).1.stop)])]) (fun _ => 0) (fun i => l.length - i.1) ⟨0, by omega, by omega⟩ ?_ ?_
      · have e0 := tst_zero (l.map (wA d)) hp0 (by assumption)
        show Ent _ _ (hdS [0, 1, 2, 4, 5, 6, 7, 8, 9, 10, 11, 12, 13, 14, 15, 17, 46, 56, 82, 91, 116] _ _ _ [(7, .p (eE (tst d (l.map (wA d)) 0).2)), (8, .p (eI 0))] [(2240, .cells [.p (eS (tst d (l.map (wA d)) 0).1.secs), .p (eP (tst d (l.map (wA d)) 0).1.pend), .p (eI (tst d (l.map (wA d)) 0).1.left), .p (.bool (tst d (l.map (wA d)) 0).1.stop)])] _)
        rw [e0]
        (first | refine Ent.ofA [] ?_ | refine Ent.ofC [] ?_) <;> (repeat' (first | exact trivial | refine HpLe.mk rfl (by simp) rfl (fun h => AObj.noConfusion h) ?_ ?_ | refine And.intro ?_ ?_ | exact VLe.refl _ | exact VLe.msl rfl | exact VLe.rsl rfl | exact VLe.csl rfl | exact VLe.cslr rfl | exact VLe.mp rfl | exact VLe.eptr rfl | exact VLe.ptr rfl | exact VLe.any _ | refine VLe.pe ?_ | refine VLe.agg ?_ | refine VLeL.cons ?_ ?_ | exact VLeL.nil | exact OLe.row _ _ | rfl | refine VLe.rsle rfl ?_ ?_ ?_ | refine OLe.rowe2 ?_ ?_ | refine OLe.mape ?_ ?_)) <;> try (first | (simp; done) | (congr 1; omega) | (congr 1; (first | (simp; done) | (simp; omega))))
      rintro ⟨i, hi, hi2⟩
      have hlt : ∀ a, l[i]? = some a → i < l.length := fun a h => (List.getElem?_eq_some_iff.1 h).1
      have hns : (tst d (l.map (wA d)) i).2 = 0 → ¬ (0 ≤ d.left ∧ d.left < i) := fun h e => by
        unfold tst at h; rw [if_pos e] at h; exact absurd (show (40 : Int) = 0 from h) (by decide)
      have hsp : ∀ a, l[i]? = some a → (tst d (l.map (wA d)) i).2 = 0 → _ := fun a h h2 => tst_step (n := (IntKind.i64.wrap a.pos).tmod ((d.secs.map eB).length : Int)) (b := [a.byte]) ho (show (l.map (wA d))[i]? = some (wA d a) by rw [List.getElem?_map, h]; rfl) rfl (by simp) hw (hns h2)
      have hts : (tst d (l.map (wA d)) i).2 = 0 → (tst d (l.map (wA d)) i).1.secs.length < 1000000 ∧ (tst d (l.map (wA d)) i).1.pend = [] := fun h => by
        rw [(tst_ok ho (by rw [List.length_map]; omega) hw (hns h)).1]
        exact ⟨by rw [perf_len]; omega, rfl⟩
      have q2 : ∀ a, l[i]? = some a → (tst d (l.map (wA d)) i).2 = 0 → PCalls Try.prog 19 [eD (tst d (l.map (wA d)) i).1, eI ((IntKind.i64.wrap a.pos).tmod ((d.secs.map eB).length : Int)), eB [a.byte]] (eR (addD (tst d (l.map (wA d)) i).1 ((IntKind.i64.wrap a.pos).tmod ((d.secs.map eB).length : Int)) [a.byte], 0)) := fun a h h2 => by
        have := write_calls (tst d (l.map (wA d)) i).1 ((IntKind.i64.wrap a.pos).tmod ((d.secs.map eB).length : Int)) [a.byte] (hts h2).1 (by rw [(hts h2).2]; simp) (by simp)
        rwa [(hsp a h h2).1] at this
      have q3 : ∀ a, l[i]? = some a → (tst d (l.map (wA d)) i).2 = 0 → PCalls Try.prog 23 [eD (addD (tst d (l.map (wA d)) i).1 ((IntKind.i64.wrap a.pos).tmod ((d.secs.map eB).length : Int)) [a.byte])] (eR (tst d (l.map (wA d)) (i + 1))) := fun a h h2 => by
        have := sync_calls (addD (tst d (l.map (wA d)) i).1 ((IntKind.i64.wrap a.pos).tmod ((d.secs.map eB).length : Int)) [a.byte]) (hts h2).1 (by show ((tst d (l.map (wA d)) i).1.pend ++ [_]).length < _; rw [(hts h2).2]; simp)
        rwa [(hsp a h h2).2] at this
      repeat' (first | ((with_reducible show _ = _); exact rfl) | ((with_reducible show (_ : Nat) < _); exact Nat.zero_lt_succ _) | ((with_reducible show (_ : Nat) ≤ _); exact Nat.le_of_ble_eq_true rfl) | ((with_reducible show Exists _); refine exU8 ?_) | ((fail_if_success (first | (with_reducible show LeG _ _) | (with_reducible show Lp _ _ _ _) | (with_reducible show Exists _) | (with_reducible show callX _ _ _ _ _) | (with_reducible show (_ : Int) ≤ _) | (with_reducible show (_ : Int) < _) | (with_reducible show (_ : Nat) ≤ _) | (with_reducible show (_ : Nat) < _))); (conv => whnf) <;> (first | exact OkR.mk (by kernel_rfl) | refine Sq.pr ?_ | refine Br.dec (fun hc => ?_) (fun hc => ?_) | refine Br.tt ?_ | refine Br.ff ?_ | refine Br.not ?_ | refine Br.mk (fun hc => ?_) (fun hc => ?_) | refine Opt.nn ?_ | refine Opt.ss ?_ | exact PV.leL_nil | refine PV.leL_cons ?_ ?_ | refine And.intro ?_ ?_ | refine ix_map (fun x hx => ?_) | refine exU8 ?_ | refine nilc (fun hn => ?_) ?_ | exact PV.le_refl _ | exact Nat.zero_lt_succ _ | exact Nat.le_of_ble_eq_true rfl | exact onesOf rfl | exact Or.inl rfl | exact noMem | exact onesOfP rfl | exact okAll rfl | exact okMap (fun _ => ⟨rfl, onesOfP rfl⟩) | exact nonz | refine imp0 (fun hpos => ?_) | refine fits_i64 ?_ ?_ | exact rfl | (with_reducible show LeG _ _) | (with_reducible show Lp _ _ _ _) | (with_reducible show Exists _) | (with_reducible show callX _ _ _ _ _)))) <;> (try (first | exact LeG.refl _ | omega | ((first | (with_reducible show (_ : Int) ≤ _) | (with_reducible show (_ : Int) < _) | (with_reducible show (_ : Nat) ≤ _) | (with_reducible show (_ : Nat) < _) | (with_reducible show ¬ _) | (with_reducible show (_ : Int) = _) | (with_reducible show (_ : Nat) = _)); (simp only [List.length_map, List.length_append, List.length_cons, List.length_nil, List.length_replicate, List.length_take, List.length_drop, List.length_set, Int.toNat_natCast, Int.reduceToNat] <;> omega)) | exact of_decide_eq_true rfl))
      · rename_i a h1
        have h1 : l[i]? = some a := h1
        have hx : l[i]? = some x := hx
        rw [h1] at hx; injection hx with hx; subst hx
        have hz : (tst d (l.map (wA d)) i).2 = 0 := hc
        repeat' (first | ((with_reducible show _ = _); exact rfl) | ((with_reducible show (_ : Nat) < _); exact Nat.zero_lt_succ _) | ((with_reducible show (_ : Nat) ≤ _); exact Nat.le_of_ble_eq_true rfl) | ((with_reducible show Exists _); refine exU8 ?_) | ((with_reducible show callX _ _ _ _ _); (first | (refine call_z (q2 a h1 hz) (by kernel_rfl) rfl ?_; (repeat' (first | exact PV.leL_nil | refine PV.leL_cons ?_ ?_ | refine And.intro ?_ ?_ | exact Nat.zero_lt_succ _ | exact Nat.le_of_ble_eq_true rfl | exact PV.le_refl _ | exact PV.le_nil _ _ _ | exact PV.le_clip _ _ _ | refine PV.le_agg ?_ | refine PV.le_tup ?_ | rfl)); fail_if_success (any_goals (refine PV.le_of ?_))) | refine call_p (q3 a h1 hz) (by kernel_rfl) rfl ?_)) | ((fail_if_success (first | (with_reducible show LeG _ _) | (with_reducible show Lp _ _ _ _) | (with_reducible show Exists _) | (with_reducible show callX _ _ _ _ _) | (with_reducible show (_ : Int) ≤ _) | (with_reducible show (_ : Int) < _) | (with_reducible show (_ : Nat) ≤ _) | (with_reducible show (_ : Nat) < _))); (conv => whnf) <;> (first | exact OkR.mk (by kernel_rfl) | refine Sq.pr ?_ | refine Br.dec (fun hc => ?_) (fun hc => ?_) | refine Br.tt ?_ | refine Br.ff ?_ | refine Br.not ?_ | refine Br.mk (fun hc => ?_) (fun hc => ?_) | refine Opt.nn ?_ | refine Opt.ss ?_ | exact PV.leL_nil | refine PV.leL_cons ?_ ?_ | refine And.intro ?_ ?_ | refine ix_map (fun x hx => ?_) | refine exU8 ?_ | refine nilc (fun hn => ?_) ?_ | (refine call_z (q2 a h1 hz) (by kernel_rfl) rfl ?_; (repeat' (first | exact PV.leL_nil | refine PV.leL_cons ?_ ?_ | refine And.intro ?_ ?_ | exact Nat.zero_lt_succ _ | exact Nat.le_of_ble_eq_true rfl | exact PV.le_refl _ | exact PV.le_nil _ _ _ | exact PV.le_clip _ _ _ | refine PV.le_agg ?_ | refine PV.le_tup ?_ | rfl)); fail_if_success (any_goals (refine PV.le_of ?_))) | refine call_p (q3 a h1 hz) (by kernel_rfl) rfl ?_ | exact PV.le_refl _ | exact Nat.zero_lt_succ _ | exact Nat.le_of_ble_eq_true rfl | exact onesOf rfl | exact Or.inl rfl | exact noMem | exact onesOfP rfl | exact okAll rfl | exact okMap (fun _ => ⟨rfl, onesOfP rfl⟩) | exact nonz | refine imp0 (fun hpos => ?_) | refine fits_i64 ?_ ?_ | exact rfl | (with_reducible show LeG _ _) | (with_reducible show Lp _ _ _ _) | (with_reducible show Exists _) | (with_reducible show callX _ _ _ _ _)))) <;> (try (first | exact LeG.refl _ | omega | ((first | (with_reducible show (_ : Int) ≤ _) | (with_reducible show (_ : Int) < _) | (with_reducible show (_ : Nat) ≤ _) | (with_reducible show (_ : Nat) < _) | (with_reducible show ¬ _) | (with_reducible show (_ : Int) = _) | (with_reducible show (_ : Nat) = _)); (simp only [List.length_map, List.length_append, List.length_cons, List.length_nil, List.length_replicate, List.length_take, List.length_drop, List.length_set, Int.toNat_natCast, Int.reduceToNat] <;> omega)) | exact of_decide_eq_true rfl))
        refine ⟨⟨i + 1, hlt a h1, fun h => by have := hns hz; omega⟩, by show l.length - (i + 1) < l.length - i; have := hlt a h1; omega, ?_⟩
        (first | refine Ent.ofA [] ?_ | refine Ent.ofC [] ?_) <;> (repeat' (first | exact trivial | refine HpLe.mk rfl (by simp) rfl (fun h => AObj.noConfusion h) ?_ ?_ | refine And.intro ?_ ?_ | exact VLe.refl _ | exact VLe.msl rfl | exact VLe.rsl rfl | exact VLe.csl rfl | exact VLe.cslr rfl | exact VLe.mp rfl | exact VLe.eptr rfl | exact VLe.ptr rfl | exact VLe.any _ | refine VLe.pe ?_ | refine VLe.agg ?_ | refine VLeL.cons ?_ ?_ | exact VLeL.nil | exact OLe.row _ _ | rfl | refine VLe.rsle rfl ?_ ?_ ?_ | refine OLe.rowe2 ?_ ?_ | refine OLe.mape ?_ ?_)) <;> try (first | (simp; done) | (congr 1; omega) | (congr 1; (first | (simp; done) | (simp; omega))))
      all_goals (
        have he : tst d (l.map (wA d)) i = tst d (l.map (wA d)) (l.map (wA d)).length := by
          rw [List.length_map]
          by_cases e : 0 ≤ d.left ∧ d.left < i
          · have e2 : 0 ≤ d.left ∧ d.left < l.length := ⟨e.1, by omega⟩
            unfold tst; rw [if_pos e, if_pos e2]
          · have hz := (tst_ok ho (show i ≤ (l.map (wA d)).length by rw [List.length_map]; omega) hw e).1
            have : ¬ i < l.length := fun f => by
              first
              | exact absurd (show (tst d (l.map (wA d)) i).2 = 0 by rw [hz]) (by assumption)
              | (have hc : ¬ (i : Int) < ((l.map eA).length : Int) := by assumption
                 simp only [List.length_map] at hc; omega)
            have : i = l.length := by omega
            rw [this]
        have hst : d.stop = false := by assumption
        have yok : ∀ k, k ≤ l.length → l.length ≤ 20 → okD ⟨d.secs, (l.map (wA d)).take k, d.left, false⟩ = true := fun k h h2 => by
          obtain ⟨⟨k1, k2⟩, k3, k4, k5, k6⟩ := okD_spec ho
          exact okD_in k1 k2 (by simp; omega) k4.1 k4.2 (fun w hm => hw w (List.mem_of_mem_take hm)) k6
        have h20 : l.length ≤ 20 := by
          have h : ¬ 20 < ((l.map eA).length : Int) := by assumption
          simp only [List.length_map] at h; omega
        have q4 : ∀ k a, l[k]? = some a → PCalls Try.prog 19 [eD ⟨d.secs, (l.map (wA d)).take k, d.left, false⟩, eI ((IntKind.i64.wrap a.pos).tmod ((d.secs.map eB).length : Int)), eB [a.byte]] (eR (⟨d.secs, (l.map (wA d)).take (k + 1), d.left, false⟩, 0)) := fun k a h => by
          have hk := (List.getElem?_eq_some_iff.1 h).1
          have := write_calls ⟨d.secs, (l.map (wA d)).take k, d.left, false⟩ ((IntKind.i64.wrap a.pos).tmod ((d.secs.map eB).length : Int)) [a.byte] l1 (by simp; omega) (by simp)
          have hm := hw (wA d a) (List.mem_map.2 ⟨a, List.mem_of_getElem? h, rfl⟩)
          rw [writeD_ok (by simp [runD, yok k (by omega) h20]) (by simp only [hasD, Bool.and_eq_true, decide_eq_true_eq]; exact hm.1) (by simp) (by simp; omega)] at this
          have e : addD ⟨d.secs, (l.map (wA d)).take k, d.left, false⟩ ((IntKind.i64.wrap a.pos).tmod ((d.secs.map eB).length : Int)) [a.byte] = ⟨d.secs, (l.map (wA d)).take (k + 1), d.left, false⟩ := by
            unfold addD
            rw [List.take_add_one, List.getElem?_map, h]; rfl
          rwa [e] at this
        have q5 : PCalls Try.prog 23 [eD ⟨d.secs, (l.map (wA d)).take l.length, d.left, false⟩] (eR (tst d (l.map (wA d)) i)) := by
          have := sync_calls ⟨d.secs, (l.map (wA d)).take l.length, d.left, false⟩ l1 (by simp; omega)
          rw [he, ← tst_sync d _ (by have := yok l.length (by omega) h20; rwa [List.take_of_length_le (by simp)] at this)]
          rwa [List.take_of_length_le (by simp)] at this ⊢
        have hsl : (tst d (l.map (wA d)) i).1.secs.length < 1000000 ∧ (tst d (l.map (wA d)) i).1.pend.length < 1000000 := by
          unfold tst; split
          · exact ⟨by simp [tornW, perf_len]; omega, by simp⟩
          · exact ⟨by simp [perf_len]; omega, by simp⟩
        refine Wpc.loopA (α := {k : Nat // k ≤ l.length}) mixed [0, 1, 2, 4, 5, 6, 7, 8, 9, 10, 11, 12, 13, 14, 15, 17, 46, 56, 82, 91, 116] (fun k => [(12, .p (eI k.1))]) (fun k => [(2304, .cells [.p (eS d.secs), .p (eP ((l.map (wA d)).take k.1)), .p (eI d.left), .p (.bool false)])]) (fun _ => 0) (fun k => l.length - k.1) ⟨0, by omega⟩ ?_ ?_
        · show Ent _ _ (hdS [0, 1, 2, 4, 5, 6, 7, 8, 9, 10, 11, 12, 13, 14, 15, 17, 46, 56, 82, 91, 116] _ _ _ [(12, .p (eI 0))] [(2304, .cells [.p (eS d.secs), .p (eP []), .p (eI d.left), .p (.bool false)])] _)
          rw [hst, hp0]
          (first | refine Ent.ofA [] ?_ | refine Ent.ofC [] ?_) <;> (repeat' (first | exact trivial | refine HpLe.mk rfl (by simp) rfl (fun h => AObj.noConfusion h) ?_ ?_ | refine And.intro ?_ ?_ | exact VLe.refl _ | exact VLe.msl rfl | exact VLe.rsl rfl | exact VLe.csl rfl | exact VLe.cslr rfl | exact VLe.mp rfl | exact VLe.eptr rfl | exact VLe.ptr rfl | exact VLe.any _ | refine VLe.pe ?_ | refine VLe.agg ?_ | refine VLeL.cons ?_ ?_ | exact VLeL.nil | exact OLe.row _ _ | rfl | refine VLe.rsle rfl ?_ ?_ ?_ | refine OLe.rowe2 ?_ ?_ | refine OLe.mape ?_ ?_)) <;> try (first | (simp; done) | (congr 1; omega) | (congr 1; (first | (simp; done) | (simp; omega))))
        rintro ⟨k, hk⟩
        repeat' (first | ((with_reducible show _ = _); exact rfl) | ((with_reducible show (_ : Nat) < _); exact Nat.zero_lt_succ _) | ((with_reducible show (_ : Nat) ≤ _); exact Nat.le_of_ble_eq_true rfl) | ((with_reducible show Exists _); refine exU8 ?_) | ((fail_if_success (first | (with_reducible show LeG _ _) | (with_reducible show Lp _ _ _ _) | (with_reducible show Exists _) | (with_reducible show callX _ _ _ _ _) | (with_reducible show (_ : Int) ≤ _) | (with_reducible show (_ : Int) < _) | (with_reducible show (_ : Nat) ≤ _) | (with_reducible show (_ : Nat) < _))); (conv => whnf) <;> (first | exact OkR.mk (by kernel_rfl) | refine Sq.pr ?_ | refine Br.dec (fun hc => ?_) (fun hc => ?_) | refine Br.tt ?_ | refine Br.ff ?_ | refine Br.not ?_ | refine Br.mk (fun hc => ?_) (fun hc => ?_) | refine Opt.nn ?_ | refine Opt.ss ?_ | exact PV.leL_nil | refine PV.leL_cons ?_ ?_ | refine And.intro ?_ ?_ | refine ix_map (fun x hx => ?_) | refine exU8 ?_ | refine nilc (fun hn => ?_) ?_ | exact PV.le_refl _ | exact Nat.zero_lt_succ _ | exact Nat.le_of_ble_eq_true rfl | exact onesOf rfl | exact Or.inl rfl | exact noMem | exact onesOfP rfl | exact okAll rfl | exact okMap (fun _ => ⟨rfl, onesOfP rfl⟩) | exact nonz | refine imp0 (fun hpos => ?_) | refine fits_i64 ?_ ?_ | exact rfl | (with_reducible show LeG _ _) | (with_reducible show Lp _ _ _ _) | (with_reducible show Exists _) | (with_reducible show callX _ _ _ _ _)))) <;> (try (first | exact LeG.refl _ | omega | ((first | (with_reducible show (_ : Int) ≤ _) | (with_reducible show (_ : Int) < _) | (with_reducible show (_ : Nat) ≤ _) | (with_reducible show (_ : Nat) < _) | (with_reducible show ¬ _) | (with_reducible show (_ : Int) = _) | (with_reducible show (_ : Nat) = _)); (simp only [List.length_map, List.length_append, List.length_cons, List.length_nil, List.length_replicate, List.length_take, List.length_drop, List.length_set, Int.toNat_natCast, Int.reduceToNat] <;> omega)) | exact of_decide_eq_true rfl))
        · rename_i a h1
          have h1 : l[k]? = some a := h1
          have hx : l[k]? = some x := hx
          rw [h1] at hx; injection hx with hx; subst hx
          have hk2 := (List.getElem?_eq_some_iff.1 h1).1
          repeat' (first | ((with_reducible show _ = _); exact rfl) | ((with_reducible show (_ : Nat) < _); exact Nat.zero_lt_succ _) | ((with_reducible show (_ : Nat) ≤ _); exact Nat.le_of_ble_eq_true rfl) | ((with_reducible show Exists _); refine exU8 ?_) | ((with_reducible show callX _ _ _ _ _); (first | (refine call_z (q4 k a h1) (by kernel_rfl) rfl ?_; (repeat' (first | exact PV.leL_nil | refine PV.leL_cons ?_ ?_ | refine And.intro ?_ ?_ | exact Nat.zero_lt_succ _ | exact Nat.le_of_ble_eq_true rfl | exact PV.le_refl _ | exact PV.le_nil _ _ _ | exact PV.le_clip _ _ _ | refine PV.le_agg ?_ | refine PV.le_tup ?_ | rfl)); fail_if_success (any_goals (refine PV.le_of ?_))))) | ((fail_if_success (first | (with_reducible show LeG _ _) | (with_reducible show Lp _ _ _ _) | (with_reducible show Exists _) | (with_reducible show callX _ _ _ _ _) | (with_reducible show (_ : Int) ≤ _) | (with_reducible show (_ : Int) < _) | (with_reducible show (_ : Nat) ≤ _) | (with_reducible show (_ : Nat) < _))); (conv => whnf) <;> (first | exact OkR.mk (by kernel_rfl) | refine Sq.pr ?_ | refine Br.dec (fun hc => ?_) (fun hc => ?_) | refine Br.tt ?_ | refine Br.ff ?_ | refine Br.not ?_ | refine Br.mk (fun hc => ?_) (fun hc => ?_) | refine Opt.nn ?_ | refine Opt.ss ?_ | exact PV.leL_nil | refine PV.leL_cons ?_ ?_ | refine And.intro ?_ ?_ | refine ix_map (fun x hx => ?_) | refine exU8 ?_ | refine nilc (fun hn => ?_) ?_ | (refine call_z (q4 k a h1) (by kernel_rfl) rfl ?_; (repeat' (first | exact PV.leL_nil | refine PV.leL_cons ?_ ?_ | refine And.intro ?_ ?_ | exact Nat.zero_lt_succ _ | exact Nat.le_of_ble_eq_true rfl | exact PV.le_refl _ | exact PV.le_nil _ _ _ | exact PV.le_clip _ _ _ | refine PV.le_agg ?_ | refine PV.le_tup ?_ | rfl)); fail_if_success (any_goals (refine PV.le_of ?_))) | exact PV.le_refl _ | exact Nat.zero_lt_succ _ | exact Nat.le_of_ble_eq_true rfl | exact onesOf rfl | exact Or.inl rfl | exact noMem | exact onesOfP rfl | exact okAll rfl | exact okMap (fun _ => ⟨rfl, onesOfP rfl⟩) | exact nonz | refine imp0 (fun hpos => ?_) | refine fits_i64 ?_ ?_ | exact rfl | (with_reducible show LeG _ _) | (with_reducible show Lp _ _ _ _) | (with_reducible show Exists _) | (with_reducible show callX _ _ _ _ _)))) <;> (try (first | exact LeG.refl _ | omega | ((first | (with_reducible show (_ : Int) ≤ _) | (with_reducible show (_ : Int) < _) | (with_reducible show (_ : Nat) ≤ _) | (with_reducible show (_ : Nat) < _) | (with_reducible show ¬ _) | (with_reducible show (_ : Int) = _) | (with_reducible show (_ : Nat) = _)); (simp only [List.length_map, List.length_append, List.length_cons, List.length_nil, List.length_replicate, List.length_take, List.length_drop, List.length_set, Int.toNat_natCast, Int.reduceToNat] <;> omega)) | exact of_decide_eq_true rfl))
          refine ⟨⟨k + 1, hk2⟩, by show l.length - (k + 1) < l.length - k; omega, ?_⟩
          (first | refine Ent.ofA [] ?_ | refine Ent.ofC [] ?_) <;> (repeat' (first | exact trivial | refine HpLe.mk rfl (by simp) rfl (fun h => AObj.noConfusion h) ?_ ?_ | refine And.intro ?_ ?_ | exact VLe.refl _ | exact VLe.msl rfl | exact VLe.rsl rfl | exact VLe.csl rfl | exact VLe.cslr rfl | exact VLe.mp rfl | exact VLe.eptr rfl | exact VLe.ptr rfl | exact VLe.any _ | refine VLe.pe ?_ | refine VLe.agg ?_ | refine VLeL.cons ?_ ?_ | exact VLeL.nil | exact OLe.row _ _ | rfl | refine VLe.rsle rfl ?_ ?_ ?_ | refine OLe.rowe2 ?_ ?_ | refine OLe.mape ?_ ?_)) <;> try (first | (simp; done) | (congr 1; omega) | (congr 1; (first | (simp; done) | (simp; omega))))
        have hk3 : k = l.length := by
          have hc : ¬ (k : Int) < ((l.map eA).length : Int) := hc
          simp only [List.length_map] at hc; omega
        subst hk3
        repeat' (first | ((with_reducible show _ = _); exact rfl) | ((with_reducible show (_ : Nat) < _); exact Nat.zero_lt_succ _) | ((with_reducible show (_ : Nat) ≤ _); exact Nat.le_of_ble_eq_true rfl) | ((with_reducible show Exists _); refine exU8 ?_) | ((with_reducible show callX _ _ _ _ _); (first | refine call_p (q5) (by kernel_rfl) rfl ?_ | refine call_p (same_calls (tst d (l.map (wA d)) i).1 hsl.1 hsl.2) (by kernel_rfl) rfl ?_)) | ((fail_if_success (first | (with_reducible show LeG _ _) | (with_reducible show Lp _ _ _ _) | (with_reducible show Exists _) | (with_reducible show callX _ _ _ _ _) | (with_reducible show (_ : Int) ≤ _) | (with_reducible show (_ : Int) < _) | (with_reducible show (_ : Nat) ≤ _) | (with_reducible show (_ : Nat) < _))); (conv => whnf) <;> (first | exact OkR.mk (by kernel_rfl) | refine Sq.pr ?_ | refine Br.dec (fun hc => ?_) (fun hc => ?_) | refine Br.tt ?_ | refine Br.ff ?_ | refine Br.not ?_ | refine Br.mk (fun hc => ?_) (fun hc => ?_) | refine Opt.nn ?_ | refine Opt.ss ?_ | exact PV.leL_nil | refine PV.leL_cons ?_ ?_ | refine And.intro ?_ ?_ | refine ix_map (fun x hx => ?_) | refine exU8 ?_ | refine nilc (fun hn => ?_) ?_ | refine call_p (q5) (by kernel_rfl) rfl ?_ | refine call_p (same_calls (tst d (l.map (wA d)) i).1 hsl.1 hsl.2) (by kernel_rfl) rfl ?_ | exact PV.le_refl _ | exact Nat.zero_lt_succ _ | exact Nat.le_of_ble_eq_true rfl | exact onesOf rfl | exact Or.inl rfl | exact noMem | exact onesOfP rfl | exact okAll rfl | exact okMap (fun _ => ⟨rfl, onesOfP rfl⟩) | exact nonz | refine imp0 (fun hpos => ?_) | refine fits_i64 ?_ ?_ | exact rfl | (with_reducible show LeG _ _) | (with_reducible show Lp _ _ _ _) | (with_reducible show Exists _) | (with_reducible show callX _ _ _ _ _)))) <;> (try (first | exact LeG.refl _ | omega | ((first | (with_reducible show (_ : Int) ≤ _) | (with_reducible show (_ : Int) < _) | (with_reducible show (_ : Nat) ≤ _) | (with_reducible show (_ : Nat) < _) | (with_reducible show ¬ _) | (with_reducible show (_ : Int) = _) | (with_reducible show (_ : Nat) = _)); (simp only [List.length_map, List.length_append, List.length_cons, List.length_nil, List.length_replicate, List.length_take, List.length_drop, List.length_set, Int.toNat_natCast, Int.reduceToNat] <;> omega)) | exact of_decide_eq_true rfl))
        all_goals exact absurd rfl hc)
  · refine PCalls.of (N := 131) (res := [.tmp 4]) mixed Try.func8 rfl rfl rfl (by kernel_rfl) (by simp) [0, 1, 2, 4, 5, 6, 7, 8, 9, 10, 11, 12, 13, 14, 15, 17, 46, 56, 82, 91, 116] ?_
    repeat' (first | ((with_reducible show _ = _); exact rfl) | ((with_reducible show (_ : Nat) < _); exact Nat.zero_lt_succ _) | ((with_reducible show (_ : Nat) ≤ _); exact Nat.le_of_ble_eq_true rfl) | ((with_reducible show Exists _); refine exU8 ?_) | ((with_reducible show callX _ _ _ _ _); (first | refine call_p (sane_calls) (by kernel_rfl) rfl ?_ | refine call_p (few_calls d hr.s hr.p) (by kernel_rfl) rfl ?_)) | ((fail_if_success (first | (with_reducible show LeG _ _) | (with_reducible show Lp _ _ _ _) | (with_reducible show Exists _) | (with_reducible show callX _ _ _ _ _) | (with_reducible show (_ : Int) ≤ _) | (with_reducible show (_ : Int) < _) | (with_reducible show (_ : Nat) ≤ _) | (with_reducible show (_ : Nat) < _))); (conv => whnf) <;> (first | exact OkR.mk (by kernel_rfl) | refine Sq.pr ?_ | refine Br.dec (fun hc => ?_) (fun hc => ?_) | refine Br.tt ?_ | refine Br.ff ?_ | refine Br.not ?_ | refine Br.mk (fun hc => ?_) (fun hc => ?_) | refine Opt.nn ?_ | refine Opt.ss ?_ | exact PV.leL_nil | refine PV.leL_cons ?_ ?_ | refine And.intro ?_ ?_ | refine ix_map (fun x hx => ?_) | refine exU8 ?_ | refine nilc (fun hn => ?_) ?_ | refine call_p (sane_calls) (by kernel_rfl) rfl ?_ | refine call_p (few_calls d hr.s hr.p) (by kernel_rfl) rfl ?_ | exact PV.le_refl _ | exact Nat.zero_lt_succ _ | exact Nat.le_of_ble_eq_true rfl | exact onesOf rfl | exact Or.inl rfl | exact noMem | exact onesOfP rfl | exact okAll rfl | exact okMap (fun _ => ⟨rfl, onesOfP rfl⟩) | exact nonz | refine imp0 (fun hpos => ?_) | refine fits_i64 ?_ ?_ | exact rfl | (with_reducible show LeG _ _) | (with_reducible show Lp _ _ _ _) | (with_reducible show Exists _) | (with_reducible show callX _ _ _ _ _)))) <;> (try (first | exact LeG.refl _ | omega | ((first | (with_reducible show (_ : Int) ≤ _) | (with_reducible show (_ : Int) < _) | (with_reducible show (_ : Nat) ≤ _) | (with_reducible show (_ : Nat) < _) | (with_reducible show ¬ _) | (with_reducible show (_ : Int) = _) | (with_reducible show (_ : Nat) = _)); (simp only [List.length_map, List.length_append, List.length_cons, List.length_nil, List.length_replicate, List.length_take, List.length_drop, List.length_set, Int.toNat_natCast, Int.reduceToNat] <;> omega)) | exact of_decide_eq_true rfl))
end Go.Proofs.Ytcfkbohjnghelaa

namespace Go.Proofs.Ytcfkbohjnghelaa
open Go Go.Sg
set_option maxRecDepth 100000
theorem rI : Rdc Try.prog 3 Int (fun n => [eI n]) (fun n => (Lit.int .i64 n).wf = true) := Rdc.int (by kernel_rfl) (by kernel_rfl)
theorem rU8 : Rdc Try.prog 5 Int (fun n => [.int .u8 n]) (fun n => (Lit.int .u8 n).wf = true) := Rdc.int (by kernel_rfl) (by kernel_rfl)
theorem rBool : Rdc Try.prog 4 Bool (fun n => [.bool n]) (fun _ => True) := Rdc.bool (by kernel_rfl) (by kernel_rfl)
def okBs (b : Bs) : Prop := b.length ≤ reachBytes ∧ ∀ n ∈ b, (Lit.int .u8 n).wf = true
theorem rB : Rdc Try.prog 35 Bs (fun b => [eB b]) okBs :=
  Rdc.slice (e := 5) (sz := 1) (by kernel_rfl) (by kernel_rfl) rU8 (by kernel_rfl) (by decide) (of_decide_eq_true (by kernel_rfl)) (fun _ _ => rfl)
def okSs (l : List Bs) : Prop := l.length ≤ reachBytes ∧ ∀ b ∈ l, okBs b
theorem rS : Rdc Try.prog 22 (List Bs) (fun b => [eS b]) okSs :=
  Rdc.slice (e := 35) (sz := 1) (by kernel_rfl) (by kernel_rfl) rB (by kernel_rfl) (by decide) (of_decide_eq_true (by kernel_rfl)) (fun _ _ => rfl)
def okWr (w : Wr) : Prop := (Lit.int .i64 w.pos).wf = true ∧ okBs w.data
theorem rW : Rdc Try.prog 54 Wr (fun w => [eI w.pos, eB w.data]) okWr := by
  have h := Rdc.struct (P := Try.prog) (t := 54) Try.underlying54 (Rdf.cons rI (Rdf.cons rB Rdf.nil (by kernel_rfl) rfl) (by kernel_rfl) rfl) (by kernel_rfl)
  exact h.map (fun x => (⟨x.1, x.2.1⟩ : Wr)) (fun w => (w.pos, w.data, ())) (fun _ => rfl) (fun _ _ => rfl) (fun x h => ⟨h.1, h.2.1⟩) (fun y h => ⟨h.1, h.2, trivial⟩)
def okPs (l : List Wr) : Prop := l.length ≤ reachBytes ∧ ∀ b ∈ l, okWr b
theorem rP : Rdc Try.prog 23 (List Wr) (fun b => [eP b]) okPs :=
  Rdc.slice (e := 54) (sz := 2) (by kernel_rfl) (by kernel_rfl) rW (by kernel_rfl) (by decide) (of_decide_eq_true (by kernel_rfl)) (fun _ _ => rfl)
def okDk (d : Dk) : Prop := okSs d.secs ∧ okPs d.pend ∧ (Lit.int .i64 d.left).wf = true
theorem rDc : Rdc Try.prog 25 Dk (fun d => [eS d.secs, eP d.pend, eI d.left, .bool d.stop]) okDk := by
  have h := Rdc.struct (P := Try.prog) (t := 25) Try.underlying25 (Rdf.cons rS (Rdf.cons rP (Rdf.cons rI (Rdf.cons rBool Rdf.nil (by kernel_rfl) rfl) (by kernel_rfl) rfl) (by kernel_rfl) rfl) (by kernel_rfl) rfl) (by kernel_rfl)
  exact h.map (fun x => (⟨x.1, x.2.1, x.2.2.1, x.2.2.2.1⟩ : Dk)) (fun w => (w.secs, w.pend, w.left, w.stop, ())) (fun _ => rfl) (fun _ _ => rfl) (fun x h => ⟨h.1, h.2.1, h.2.2.1⟩) (fun y h => ⟨h.1, h.2.1, h.2.2, trivial, trivial⟩)
theorem aD : Rda Try.prog 25 Dk eD okDk := Rda.agg rDc (by kernel_rfl)
theorem aI : Rda Try.prog 3 Int eI (fun n => (Lit.int .i64 n).wf = true) := Rda.one rI (by kernel_rfl)
theorem aB : Rda Try.prog 35 Bs eB okBs := Rda.one rB (by kernel_rfl)
theorem okDk.rd {d : Dk} (h : okDk d) : rdD d := ⟨fun b hb => Nat.lt_of_le_of_lt (h.1.2 b hb).1 reachBytes_lt, fun w hw => Nat.lt_of_le_of_lt (h.2.1.2 w hw).2.1 reachBytes_lt⟩
theorem own : ownKnob Try.prog.godebug = none := by kernel_rfl
end Go.Proofs.Ytcfkbohjnghelaa
