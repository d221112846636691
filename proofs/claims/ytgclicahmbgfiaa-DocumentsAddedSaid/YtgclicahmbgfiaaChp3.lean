/- A part of the proof: contracts of the functions that the statement reaches. -/
import Derived.Test.YtgclicahmbgfiaaChp2
import Derived.Test.YtgclicahmbgfiaaRows
set_option linter.unusedSimpArgs false
set_option linter.unusedVariables false
set_option linter.unnecessarySimpa false
open Go.Sg.XAlt renaming l → kX
open Go.Sg.Sq renaming pr → kP
open Go.Sg.Br renaming tt → kT, ff → kF, not → kN, dec → kBd, mk → kBm
open Go.Sg.Opt renaming nn → kO, ss → kS
open Go.Sg.AltA renaming l → kA
open Go.Sg.PV renaming leL_cons → kC
open Go.Sg renaming fits_i64 → kG
open Go.Sg.VLe renaming pe → kVp, agg → kVa, tup → kVt, fn → kVf
open Go.Sg.VLeL renaming cons → kVc
open Go.Sg.OLe renaming rowe2 → kQw, mape → kQm, itere → kQj, chane → kQc, mapSe → kQs
open Go.Sg.HpLe renaming dd → kHd, mk → kHm
namespace Go.Proofs.Ytgclicahmbgfiaa
open Go Go.Sg
set_option maxRecDepth 100000
set_option maxHeartbeats 8000000
theorem addA_ok {l : List Dc} {x : Dc} (hz : chkA l = 0) : addA l x = (if rightA x then (if hasN Dc.no x.no l then ([], 151) else if namB l x then (insN Dc.no l x, 0) else ([], 170)) else ([], 170)) := by
  unfold addA; rw [if_pos hz]
end Go.Proofs.Ytgclicahmbgfiaa

namespace Go.Proofs.Ytgclicahmbgfiaa
open Go Go.Sg
set_option maxRecDepth 100000
set_option maxHeartbeats 4000000
def shN (p i : Nat) : Nat := if i < p then i else i + 1
theorem shN_lt {p i j : Nat} (h : i < j) : shN p i < shN p j := by unfold shN; split <;> split <;> omega
theorem shN_inj {p i j : Nat} (h : shN p i = shN p j) : i = j := by unfold shN at h; split at h <;> split at h <;> omega
theorem shN_ne {p i : Nat} : shN p i ≠ p := by unfold shN; split <;> omega
theorem shN_surj {p j : Nat} (h : j ≠ p) : ∃ i, j = shN p i := by
  by_cases hj : j < p
  · exact ⟨j, by unfold shN; rw [if_pos hj]⟩
  · exact ⟨j - 1, by unfold shN; rw [if_neg (by omega)]; omega⟩
theorem shN_n {p n i : Nat} (hp : p ≤ n) : shN p i < n + 1 ↔ i < n := by unfold shN; split <;> omega
def insP {α : Type} (l : List α) (p : Nat) (x : α) : List α := l.take p ++ x :: l.drop p
theorem insP_len {α : Type} (l : List α) (p : Nat) (x : α) : (insP l p x).length = l.length + 1 := by unfold insP; simp; omega
theorem insP_at {α : Type} {l : List α} {p : Nat} (x : α) (hp : p ≤ l.length) : (insP l p x)[p]? = some x := by
  unfold insP
  rw [List.getElem?_append_right (by simp; omega)]
  simp [Nat.min_eq_left hp]
theorem insP_sh {α : Type} {l : List α} {p : Nat} (x : α) (hp : p ≤ l.length) (i : Nat) : (insP l p x)[shN p i]? = l[i]? := by
  unfold insP shN
  have hl : (l.take p).length = p := by simp; omega
  by_cases h : i < p
  · rw [if_pos h, List.getElem?_append_left (by omega), List.getElem?_take_of_lt h]
  · rw [if_neg h, List.getElem?_append_right (by omega), hl, show i + 1 - p = (i - p) + 1 by omega, List.getElem?_cons_succ, List.getElem?_drop, show p + (i - p) = i by omega]
theorem sgF_sh {sg : List Int} {p : Nat} (hp : p ≤ sg.length) (v : Int) (i : Nat) : sgF (insP sg p v) (shN p i) = sgF sg i := by
  unfold sgF; simp only [List.getD, insP_sh v hp]
theorem upB_sh {sg : List Int} {p : Nat} (hp : p ≤ sg.length) (v t : Int) (i : Nat) : upB (insP sg p v) t (shN p i) = upB sg t i := by
  unfold upB; rw [sgF_sh hp]
theorem upB_p {sg : List Int} {p : Nat} (hp : p ≤ sg.length) (t : Int) : upB (insP sg p (-1)) t p = false := by
  have : sgF (insP sg p (-1)) p = -1 := by unfold sgF; simp only [List.getD, insP_at _ hp]; rfl
  unfold upB; rw [this]; rfl
theorem ordL_sh {sg : List Int} {p : Nat} (hp : p ≤ sg.length) (t : Int) : ordL (insP sg p (-1)) t = (ordL sg t).map (shN p) := by
  refine ltS_ext (f := sgF (insP sg p (-1))) (ordL_sorted _ _) ?_ fun j => ?_
  · rw [List.pairwise_map]
    refine (ordL_sorted sg t).imp fun {a b} h => ?_
    unfold ltS at *
    rw [sgF_sh hp, sgF_sh hp]
    rcases h with h | ⟨h1, h2⟩
    · exact .inl h
    · exact .inr ⟨h1, shN_lt h2⟩
  · rw [ordL_mem, insP_len, List.mem_map]
    constructor
    · rintro ⟨h1, h2⟩
      by_cases e : j = p
      · subst e; rw [upB_p hp] at h2; cases h2
      · obtain ⟨i, rfl⟩ := shN_surj e
        rw [upB_sh hp] at h2
        exact ⟨i, ordL_mem.2 ⟨(shN_n hp).1 h1, h2⟩, rfl⟩
    · rintro ⟨i, hi, rfl⟩
      obtain ⟨h1, h2⟩ := ordL_mem.1 hi
      exact ⟨(shN_n hp).2 h1, by rw [upB_sh hp]; exact h2⟩
structure Rl (n p : Nat) (P P' : Pl) : Prop where
  rv : P'.rv = P.rv
  dn : ∀ i, P'.dn.getD (shN p i) false = P.dn.getD i false
  lk : ∀ i, P'.lk.getD (shN p i) 0 = P.lk.getD i 0
  at_ : P'.dn.getD p false = false
  l1 : P.dn.length = n
  l2 : P.lk.length = n
  l3 : P'.dn.length = n + 1
  l4 : P'.lk.length = n + 1
theorem rep_getD {α : Type} (n i : Nat) (z : α) : (List.replicate n z).getD i z = z := by
  simp only [List.getD, List.getElem?_replicate]
  split <;> rfl
theorem Rl.zero {l y : List Dc} {p : Nat} (h : y.length = l.length + 1) : Rl l.length p (pl0 l) (pl0 y) := by
  unfold pl0
  exact ⟨rfl, fun i => by rw [rep_getD, rep_getD], fun i => by rw [rep_getD, rep_getD], rep_getD _ _ _, by simp, by simp, by simp [h], by simp [h]⟩
theorem stA_sh {l : List Dc} {x : Dc} {p : Nat} (hp : p ≤ l.length) {P P' : Pl} (h : Rl l.length p P P') (i : Nat) (t : Int) : stA (insP l p x) P' (shN p i) t = stA l P i t := by
  unfold stA; rw [insP_sh x hp, h.dn, h.lk, h.rv]
theorem needF_sh {l : List Dc} {x : Dc} {p : Nat} (hp : p ≤ l.length) {P P' : Pl} (h : Rl l.length p P P') (t : Int) : ∀ need : List Int, (∀ no ∈ need, ixF (insP l p x) no = shN p (ixF l no)) → needF (insP l p x) P' t need = needF l P t need
  | [], _ => rfl
  | no :: r, k => by
    rw [needF_cons, needF_cons, needF_sh hp h t r (fun n hn => k n (by simp [hn])), k no (by simp), stA_sh hp h]
theorem ixF_sh {l : List Dc} {x : Dc} {p : Nat} (hp : p ≤ l.length) (hy : (insP l p x).Pairwise fun a b => Dc.no a < Dc.no b) {no : Int} (h : (l.any fun x => decide (x.no = no)) = true) : ixF (insP l p x) no = shN p (ixF l no) := by
  obtain ⟨d, h1, h2, h3⟩ := ixF_of h
  rw [← h3]
  refine ix_of hy ?_
  rw [insP_sh x hp, h3]; exact h2
theorem Rl.step {l : List Dc} {sg : List Int} {x : Dc} {p : Nat} (hp : p ≤ l.length) (hsz : sg.length = l.length) (hy : (insP l p x).Pairwise fun a b => Dc.no a < Dc.no b) (hn : ∀ d ∈ l, namB l d = true) {P P' : Pl} (h : Rl l.length p P P') {i : Nat} (hi : i < l.length) :
    Rl l.length p (stepP l sg P i) (stepP (insP l p x) (insP sg p (-1)) P' (shN p i)) := by
  have hd : l[i]? = some l[i] := List.getElem?_eq_getElem hi
  have hd2 : (insP l p x)[shN p i]? = some l[i] := by rw [insP_sh x hp]; exact hd
  have hnm := hn l[i] (List.getElem_mem hi)
  unfold namB at hnm
  rw [Bool.and_eq_true] at hnm
  have hnd : ∀ no ∈ l[i].need, ixF (insP l p x) no = shN p (ixF l no) := fun no hno => ixF_sh hp hy (List.all_eq_true.1 hnm.2 no hno)
  unfold stepP
  rw [hd, hd2]
  simp only
  rw [sgF_sh (by omega), needF_sh hp h _ _ hnd, h.rv]
  refine ⟨rfl, fun j => ?_, fun j => ?_, ?_, ?_, ?_, ?_, ?_⟩
  · show (P'.dn.set (shN p i) true).getD (shN p j) false = (P.dn.set i true).getD j false
    rw [getD_set _ _ _ _ _ (by rw [h.l3]; exact (shN_n hp).2 hi), getD_set _ _ _ _ _ (by rw [h.l1]; exact hi), h.dn]
    by_cases e : j = i
    · rw [if_pos e, if_pos (by rw [e])]
    · rw [if_neg e, if_neg (fun k => e (shN_inj k))]
  · show (P'.lk.set (shN p i) _).getD (shN p j) 0 = (P.lk.set i _).getD j 0
    rw [getD_set _ _ _ _ _ (by rw [h.l4]; exact (shN_n hp).2 hi), getD_set _ _ _ _ _ (by rw [h.l2]; exact hi), h.lk]
    by_cases e : j = i
    · rw [if_pos e, if_pos (by rw [e])]
    · rw [if_neg e, if_neg (fun k => e (shN_inj k))]
  · show (P'.dn.set (shN p i) true).getD p false = false
    rw [getD_set _ _ _ _ _ (by rw [h.l3]; exact (shN_n hp).2 hi), if_neg (fun k => shN_ne k.symm), h.at_]
  · show (P.dn.set _ _).length = _; rw [List.length_set]; exact h.l1
  · show (P.lk.set _ _).length = _; rw [List.length_set]; exact h.l2
  · show (P'.dn.set _ _).length = _; rw [List.length_set]; exact h.l3
  · show (P'.lk.set _ _).length = _; rw [List.length_set]; exact h.l4
theorem Rl.fold {l : List Dc} {sg : List Int} {x : Dc} {p : Nat} (hp : p ≤ l.length) (hsz : sg.length = l.length) (hy : (insP l p x).Pairwise fun a b => Dc.no a < Dc.no b) (hn : ∀ d ∈ l, namB l d = true) : ∀ (O : List Nat) (P P' : Pl), Rl l.length p P P' → (∀ i ∈ O, i < l.length) →
    Rl l.length p (O.foldl (stepP l sg) P) ((O.map (shN p)).foldl (stepP (insP l p x) (insP sg p (-1))) P')
  | [], P, P', h, _ => h
  | i :: r, P, P', h, k => by
    rw [List.map_cons, List.foldl_cons, List.foldl_cons]
    exact Rl.fold hp hsz hy hn r _ _ (h.step hp hsz hy hn (k i (by simp))) fun j hj => k j (by simp [hj])
theorem fin_sh {l : List Dc} {sg : List Int} {x : Dc} {p : Nat} (hp : p ≤ l.length) (hsz : sg.length = l.length) (hy : (insP l p x).Pairwise fun a b => Dc.no a < Dc.no b) (hn : ∀ d ∈ l, namB l d = true) (t : Int) :
    Rl l.length p (finP l sg t) (finP (insP l p x) (insP sg p (-1)) t) := by
  unfold finP playP
  rw [ordL_sh (by omega)]
  exact Rl.fold hp hsz hy hn _ _ _ (Rl.zero (insP_len l p x)) fun i hi => by have := (ordL_mem.1 hi).1; omega
theorem noF_sh {l : List Dc} {x : Dc} {p : Nat} (hp : p ≤ l.length) (i : Nat) : noF (insP l p x) (shN p i) = noF l i := by
  unfold noF; rw [insP_sh x hp]
theorem forL_sh {l : List Dc} {x : Dc} {p : Nat} (hp : p ≤ l.length) {P P' : Pl} (h : Rl l.length p P P') (t : Int) : forL (insP l p x) P' t (insP l p x).length = forL l P t l.length := by
  have hf : ∀ i, forF (insP l p x) P' t (shN p i) = forF l P t i := fun i => by unfold forF; rw [stA_sh hp h]
  have hpf : forF (insP l p x) P' t p = false := by
    have : stA (insP l p x) P' p t = (1, -1) := by unfold stA; rw [insP_at x hp]; simp only [h.at_]; rfl
    unfold forF; rw [this]; rfl
  have e : (List.range (insP l p x).length).filter (forF (insP l p x) P' t) = ((List.range l.length).filter (forF l P t)).map (shN p) := by
    refine ltS_ext (f := fun _ => 0) ?_ ?_ fun j => ?_
    · exact (List.Pairwise.sublist List.filter_sublist List.pairwise_lt_range).imp fun {a b} h => .inr ⟨rfl, h⟩
    · rw [List.pairwise_map]
      exact (List.Pairwise.sublist List.filter_sublist List.pairwise_lt_range).imp fun {a b} h => .inr ⟨rfl, shN_lt h⟩
    · rw [List.mem_filter, List.mem_range, insP_len, List.mem_map]
      constructor
      · rintro ⟨h1, h2⟩
        by_cases e : j = p
        · subst e; rw [hpf] at h2; cases h2
        · obtain ⟨i, rfl⟩ := shN_surj e
          rw [hf] at h2
          exact ⟨i, List.mem_filter.2 ⟨List.mem_range.2 ((shN_n hp).1 h1), h2⟩, rfl⟩
      · rintro ⟨i, hi, rfl⟩
        obtain ⟨h1, h2⟩ := List.mem_filter.1 hi
        exact ⟨(shN_n hp).2 (List.mem_range.1 h1), by rw [hf]; exact h2⟩
  unfold forL
  rw [e, List.map_map]
  congr 1
  funext i
  exact noF_sh hp i
theorem thB_mono {l m : List Dc} (h : ∀ x ∈ l, x ∈ m) {P : List Int} (k : thB l P = true) : thB m P = true := by
  unfold thB at *
  refine List.all_eq_true.2 fun n hn => ?_
  obtain ⟨x, hx, e⟩ := List.any_eq_true.1 (List.all_eq_true.1 k n hn)
  exact List.any_eq_true.2 ⟨x, h x hx, e⟩
theorem namB_mono {l m : List Dc} (h : ∀ x ∈ l, x ∈ m) {d : Dc} (k : namB l d = true) : namB m d = true := by
  unfold namB at *
  rw [Bool.and_eq_true] at *
  exact ⟨thB_mono h k.1, thB_mono h k.2⟩
theorem thB_less {l : List Dc} {x : Dc} {P : List Int} (hx : hasB P x.no = false) : thB (insN Dc.no l x) P = thB l P := by
  cases h : thB l P with
  | true => exact thB_mono (fun y hy => (mem_insN Dc.no).2 (.inr hy)) h
  | false =>
    obtain ⟨n, hn, h2⟩ := List.all_eq_false.1 h
    refine List.all_eq_false.2 ⟨n, hn, fun e => ?_⟩
    obtain ⟨y, hy, ee⟩ := List.any_eq_true.1 e
    rcases (mem_insN Dc.no).1 hy with k | k
    · subst k
      have ee := of_decide_eq_true ee
      have hh : hasB P y.no = true := List.any_eq_true.2 ⟨n, hn, decide_eq_true ee.symm⟩
      rw [hx] at hh; cases hh
    · exact h2 (List.any_eq_true.2 ⟨y, k, ee⟩)
theorem namB_less {l : List Dc} {x z : Dc} (h1 : hasB z.rev x.no = false) (h2 : hasB z.need x.no = false) : namB (insN Dc.no l x) z = namB l z := by
  unfold namB; rw [thB_less h1, thB_less h2]
theorem hasN_ins {l : List Dc} {x : Dc} (hs : l.Pairwise fun a b => Dc.no a < Dc.no b) (hx : hasN Dc.no x.no l = false) (n : Int) : hasN Dc.no n (insN Dc.no l x) = (decide (x.no = n) || hasN Dc.no n l) := by
  have a := hasN_iff Dc.no (srt_insN Dc.no hs hx) n
  have b := hasN_iff Dc.no hs n
  have : hasN Dc.no n (insN Dc.no l x) = true ↔ (decide (x.no = n) || hasN Dc.no n l) = true := by
    rw [a, Bool.or_eq_true, b]
    constructor
    · rintro ⟨y, hy, e⟩
      rcases (mem_insN Dc.no).1 hy with k | k
      · subst k; exact .inl (decide_eq_true e)
      · exact .inr ⟨y, k, e⟩
    · rintro (h | ⟨y, hy, e⟩)
      · exact ⟨x, (mem_insN Dc.no).2 (.inl rfl), of_decide_eq_true h⟩
      · exact ⟨y, (mem_insN Dc.no).2 (.inr hy), e⟩
  exact Bool.eq_iff_iff.2 this
structure AddOk (l : List Dc) (x : Dc) : Prop where
  zero : chkA l = 0
  right : rightA x = true
  new : hasN Dc.no x.no l = false
  nam : namB l x = true
theorem addA_cases {l : List Dc} {x : Dc} (hz : chkA l = 0) : (addA l x = (insN Dc.no l x, 0) ∧ AddOk l x) ∨ (((addA l x = ([], 170) ∧ (rightA x = false ∨ (hasN Dc.no x.no l = false ∧ namB l x = false))) ∨ (addA l x = ([], 151) ∧ rightA x = true ∧ hasN Dc.no x.no l = true))) := by
  rw [addA_ok hz]
  cases h1 : rightA x with
  | false => exact .inr (.inl ⟨rfl, .inl rfl⟩)
  | true =>
    cases h2 : hasN Dc.no x.no l with
    | true => exact .inr (.inr ⟨rfl, rfl, rfl⟩)
    | false =>
      cases h3 : namB l x with
      | false => exact .inr (.inl ⟨rfl, .inr ⟨rfl, rfl⟩⟩)
      | true => exact .inl ⟨rfl, hz, h1, h2, h3⟩
theorem AddOk.eq {l : List Dc} {x : Dc} (h : AddOk l x) : addA l x = (insN Dc.no l x, 0) := by
  rw [addA_ok h.zero, if_pos h.right, h.new, h.nam]; rfl
theorem AddOk.chk {l : List Dc} {x : Dc} (h : AddOk l x) (hl : l.length < 4096) : chkA (insN Dc.no l x) = 0 := by
  obtain ⟨_, hr, hs, hn⟩ := chkA_srt h.zero
  have hok : okFrom rightA Dc.no (-1) l = true := (okFrom_iff rightA Dc.no l (-1)).2 ⟨fun y hy => ⟨hr y hy, by have := rightA_no (hr y hy); omega⟩, hs⟩
  refine chkA_ok (by rw [length_insN]; omega) (ok_insN rightA Dc.no hok h.right (by have := rightA_no h.right; omega) h.new) fun d hd => ?_
  refine namB_mono (fun y hy => (mem_insN Dc.no).2 (.inr hy)) ?_
  rcases (mem_insN Dc.no).1 hd with e | e
  · rw [e]; exact h.nam
  · exact hn d e
theorem AddOk.srt {l : List Dc} {x : Dc} (h : AddOk l x) : (insN Dc.no l x).Pairwise fun a b => Dc.no a < Dc.no b := srt_insN Dc.no (chkA_srt h.zero).2.2.1 h.new
theorem insN_P (l : List Dc) (x : Dc) : insN Dc.no l x = insP l (posN Dc.no x.no l) x := rfl
/-- Two documents, the second of which does not name the first: whichever order. -/
theorem add_two {l : List Dc} {x z : Dc} (h : AddOk l x) (hl : l.length < 4095) (h1 : hasB z.need x.no = false) (h2 : hasB z.rev x.no = false) :
    (∃ e, addA (insN Dc.no l x) z = ([], e) ∧ e ≠ 0 ∧ ((addA l z).2 ≠ 0 ∨ z.no = x.no)) ∨
    (addA (insN Dc.no l x) z = (insN Dc.no (insN Dc.no l x) z, 0) ∧ addA l z = (insN Dc.no l z, 0) ∧ addA (insN Dc.no l z) x = (insN Dc.no (insN Dc.no l x) z, 0)) := by
  have hs := (chkA_srt h.zero).2.2.1
  have hy := h.chk (by omega)
  have hh := hasN_ins hs h.new z.no
  have hnm := namB_less (l := l) h2 h1
  rcases addA_cases (x := z) hy with ⟨a, b⟩ | ⟨a, b⟩ | ⟨a, b, c⟩
  · refine .inr ⟨a, ?_⟩
    have b3 := b.new
    rw [hh, Bool.or_eq_false_iff] at b3
    have bn := b.nam
    rw [hnm] at bn
    have hz : AddOk l z := ⟨h.zero, b.right, b3.2, bn⟩
    have hne : ¬ x.no = z.no := of_decide_eq_false b3.1
    have hx2 : AddOk (insN Dc.no l z) x := ⟨hz.chk (by omega), h.right, by rw [hasN_ins hs b3.2, h.new, decide_eq_false (fun e => hne e.symm)]; rfl, namB_mono (fun y hy => (mem_insN Dc.no).2 (.inr hy)) h.nam⟩
    refine ⟨hz.eq, ?_⟩
    rw [hx2.eq]
    refine congrArg (fun q => (q, (0 : Int))) (srt_ext Dc.no hx2.srt b.srt fun y => ?_)
    rw [mem_insN, mem_insN, mem_insN, mem_insN]
    constructor
    · rintro (e | e | e)
      · exact .inr (.inl e)
      · exact .inl e
      · exact .inr (.inr e)
    · rintro (e | e | e)
      · exact .inr (.inl e)
      · exact .inl e
      · exact .inr (.inr e)
  · refine .inl ⟨170, a, by decide, .inl ?_⟩
    rcases b with b | ⟨b1, b2⟩
    · rw [addA_ok h.zero, b]; show (170 : Int) ≠ 0; decide
    · rw [hh, Bool.or_eq_false_iff] at b1
      rw [hnm] at b2
      rw [addA_ok h.zero, b1.2, b2]
      cases rightA z <;> (show (170 : Int) ≠ 0; decide)
  · refine .inl ⟨151, a, by decide, ?_⟩
    rw [hh, Bool.or_eq_true] at c
    rcases c with c | c
    · exact .inr (of_decide_eq_true c).symm
    · left; rw [addA_ok h.zero, b, c]; show (151 : Int) ≠ 0; decide
theorem sgB_sh {l : List Dc} {sg : List Int} (h : sgB l sg = true) (p : Nat) (x : Dc) : sgB (insP l p x) (insP sg p (-1)) = true := by
  unfold sgB at *
  rw [Bool.and_eq_true] at *
  refine ⟨by have := of_decide_eq_true h.1; exact decide_eq_true (by rw [insP_len, insP_len, this]), ?_⟩
  have h2 : sg.any oddB = false := by simpa using h.2
  have : (insP sg p (-1)).any oddB = false := List.any_eq_false.2 fun u hu e => by
    unfold insP at hu
    rcases List.mem_append.1 hu with k | k
    · exact absurd e (List.any_eq_false.1 h2 _ (List.mem_of_mem_take k))
    · rcases List.mem_cons.1 k with k | k
      · subst k; exact absurd e (by decide)
      · exact absurd e (List.any_eq_false.1 h2 _ (List.mem_of_mem_drop k))
  rw [this]; rfl
theorem in_sh {l : List Dc} {sg : List Int} {x : Dc} {t : Int} (h : AddOk l x) (hl : l.length < 4096) (hs : sgB l sg = true) (ht : wiB TM t = true) :
    inA l sg t = (forL l (finP l sg t) t l.length, 0) ∧ inA (insN Dc.no l x) (insP sg (posN Dc.no x.no l) (-1)) t = (forL l (finP l sg t) t l.length, 0) := by
  have hp := posN_le Dc.no x.no l
  have hsz := sgB_len hs
  constructor
  · unfold inA; rw [if_pos h.zero, hs, ht]; rfl
  · unfold inA
    rw [if_pos (h.chk hl), insN_P, sgB_sh hs, ht]
    have hy := h.srt
    rw [insN_P] at hy
    rw [show (true && true) = true from rfl, if_pos rfl, forL_sh hp (fin_sh hp hsz hy (chkA_srt h.zero).2.2.2 t) t]
/-- The signings of the documents, with none for the one that was added. -/
theorem more_at {l : List Dc} {sg : List Int} {x : Dc} (h : AddOk l x) (hsz : sg.length = l.length) {k : Nat} {d : Dc} (hd : (insN Dc.no l x)[k]? = some d) :
    (fnd l d.no < 0 ∧ (insP sg (posN Dc.no x.no l) (-1))[k]? = some (-1)) ∨ ∃ (i : Nat) (v : Int), fnd l d.no = (i : Int) ∧ sg[i]? = some v ∧ (insP sg (posN Dc.no x.no l) (-1))[k]? = some v := by
  have hp := posN_le Dc.no x.no l
  have hs := (chkA_srt h.zero).2.2.1
  rw [insN_P] at hd
  by_cases e : k = posN Dc.no x.no l
  · left
    rw [e, insP_at x hp] at hd
    injection hd with hd; subst hd
    refine ⟨(fnd_neg l x.no).2 (List.any_eq_false.2 fun y hy e2 => ?_), by rw [e]; exact insP_at _ (by omega)⟩
    have := (hasN_iff Dc.no hs x.no).2 ⟨y, hy, of_decide_eq_true e2⟩
    rw [h.new] at this; cases this
  · right
    obtain ⟨i, rfl⟩ := shN_surj e
    rw [insP_sh x hp] at hd
    have hil := (List.getElem?_eq_some_iff.1 hd).1
    refine ⟨i, sg[i], ?_, List.getElem?_eq_getElem (by omega), by rw [insP_sh _ (by omega)]; exact List.getElem?_eq_getElem (by omega)⟩
    unfold fnd
    exact fIx_some hd (decide_eq_true rfl) fun j w hj hw => decide_eq_false (by have := srt_lt Dc.no hs hj hw hd; omega)
end Go.Proofs.Ytgclicahmbgfiaa

namespace Go.Proofs.Ytgclicahmbgfiaa
open Go Go.Sg
set_option maxRecDepth 100000
set_option maxHeartbeats 40000000
theorem eR_add {l : List Dc} {x : Dc} {e : Int} (h : addA l x = ([], e)) : eR (addA l x) = .tup [eL [], eI e] := by rw [h]; rfl
theorem added_calls (l : List Dc) (sg : List Int) (x z : Dc) (t : Int) (hl : l.length < 140737488355328) (hsl : sg.length < 140737488355328) : PCalls Try.prog 8 [eL l, eIs sg, eA x, eA z, eI t] (.bool true) := by
  have q0 := sane_calls
  have q1 := lawRight_calls l sg hl hsl
  have qx : PCalls Try.prog 12 [eA x] (.bool (fewD x)) := fewD_calls x
  have qz : PCalls Try.prog 12 [eA z] (.bool (fewD z)) := fewD_calls z
  have q2 := rtime_calls t
  cases hr : rgtB l sg with
  | false =>
    rw [hr] at q1
    refine PCalls.of (N := 177) (res := [.tmp 10]) mixed Try.func8 rfl rfl rfl (by kernel_rfl) (by simp) [0, 1, 2, 3, 4, 7, 8, 10, 11, 12, 13, 15, 16, 17, 18, 19, 20, 21, 22, 23, 24, 25, 26, 27, 29, 53, 61, 65, 66, 67, 68, 76, 124, 136, 150] ?_
    repeat' (first | exact cl1 | (refine stx ?_; first | exact exHM _ | refine exU8 ?_) | ((with_reducible show callX _ _ _ _ _); (first | refine call_p (q0) (by kernel_rfl) rfl ?_ | refine call_p (q1) (by kernel_rfl) rfl ?_)) | ((fail_if_success refine stp ?_); (conv => whnf) <;> (first | exact cl2 | refine kX ?_ | refine kP ?_ | refine kBd (fun hc => ?_) (fun hc => ?_) | refine kT ?_ | refine kF ?_ | refine kN ?_ | refine kBm (fun hc => ?_) (fun hc => ?_) | refine kO ?_ | refine kS ?_ | refine kA ?_ | exact PV.leL_nil | refine kC ?_ ?_ | refine And.intro ?_ ?_ | refine ix_map (fun x hx => ?_) | refine exU8 ?_ | refine nilc (fun hn => ?_) ?_ | exact cl3 | refine imp0 (fun hpos => ?_) | refine kG ?_ ?_ | exact rfl | exact trivial | (first | refine stq ?_ | fail)))) <;> (try exact cl5)
  | true =>
  rw [hr] at q1
  cases hfx : fewD x with
  | false =>
    rw [hfx] at qx
    refine PCalls.of (N := 177) (res := [.tmp 10]) mixed Try.func8 rfl rfl rfl (by kernel_rfl) (by simp) [0, 1, 2, 3, 4, 7, 8, 10, 11, 12, 13, 15, 16, 17, 18, 19, 20, 21, 22, 23, 24, 25, 26, 27, 29, 53, 61, 65, 66, 67, 68, 76, 124, 136, 150] ?_
    repeat' (first | exact cl1 | (refine stx ?_; first | exact exHM _ | refine exU8 ?_) | ((with_reducible show callX _ _ _ _ _); (first | refine call_p (q0) (by kernel_rfl) rfl ?_ | refine call_p (q1) (by kernel_rfl) rfl ?_ | refine call_p (qx) (by kernel_rfl) rfl ?_)) | ((fail_if_success refine stp ?_); (conv => whnf) <;> (first | exact cl2 | refine kX ?_ | refine kP ?_ | refine kBd (fun hc => ?_) (fun hc => ?_) | refine kT ?_ | refine kF ?_ | refine kN ?_ | refine kBm (fun hc => ?_) (fun hc => ?_) | refine kO ?_ | refine kS ?_ | refine kA ?_ | exact PV.leL_nil | refine kC ?_ ?_ | refine And.intro ?_ ?_ | refine ix_map (fun x hx => ?_) | refine exU8 ?_ | refine nilc (fun hn => ?_) ?_ | exact cl3 | refine imp0 (fun hpos => ?_) | refine kG ?_ ?_ | exact rfl | exact trivial | (first | refine stq ?_ | fail)))) <;> (try exact cl5)
  | true =>
  rw [hfx] at qx
  cases hfz : fewD z with
  | false =>
    rw [hfz] at qz
    refine PCalls.of (N := 177) (res := [.tmp 10]) mixed Try.func8 rfl rfl rfl (by kernel_rfl) (by simp) [0, 1, 2, 3, 4, 7, 8, 10, 11, 12, 13, 15, 16, 17, 18, 19, 20, 21, 22, 23, 24, 25, 26, 27, 29, 53, 61, 65, 66, 67, 68, 76, 124, 136, 150] ?_
    repeat' (first | exact cl1 | (refine stx ?_; first | exact exHM _ | refine exU8 ?_) | ((with_reducible show callX _ _ _ _ _); (first | refine call_p (q0) (by kernel_rfl) rfl ?_ | refine call_p (q1) (by kernel_rfl) rfl ?_ | refine call_p (qx) (by kernel_rfl) rfl ?_ | refine call_p (qz) (by kernel_rfl) rfl ?_)) | ((fail_if_success refine stp ?_); (conv => whnf) <;> (first | exact cl2 | refine kX ?_ | refine kP ?_ | refine kBd (fun hc => ?_) (fun hc => ?_) | refine kT ?_ | refine kF ?_ | refine kN ?_ | refine kBm (fun hc => ?_) (fun hc => ?_) | refine kO ?_ | refine kS ?_ | refine kA ?_ | exact PV.leL_nil | refine kC ?_ ?_ | refine And.intro ?_ ?_ | refine ix_map (fun x hx => ?_) | refine exU8 ?_ | refine nilc (fun hn => ?_) ?_ | exact cl3 | refine imp0 (fun hpos => ?_) | refine kG ?_ ?_ | exact rfl | exact trivial | (first | refine stq ?_ | fail)))) <;> (try exact cl5)
  | true =>
  rw [hfz] at qz
  obtain ⟨h20, hd, hz, hs⟩ := rgtB_f hr
  by_cases h18 : (18 : Int) < ((l.map eA).length : Int)
  · refine PCalls.of (N := 177) (res := [.tmp 10]) mixed Try.func8 rfl rfl rfl (by kernel_rfl) (by simp) [0, 1, 2, 3, 4, 7, 8, 10, 11, 12, 13, 15, 16, 17, 18, 19, 20, 21, 22, 23, 24, 25, 26, 27, 29, 53, 61, 65, 66, 67, 68, 76, 124, 136, 150] ?_
    repeat' (first | exact cl1 | (refine stx ?_; first | exact exHM _ | refine exU8 ?_) | ((with_reducible show callX _ _ _ _ _); (first | refine call_p (q0) (by kernel_rfl) rfl ?_ | refine call_p (q1) (by kernel_rfl) rfl ?_ | refine call_p (qx) (by kernel_rfl) rfl ?_ | refine call_p (qz) (by kernel_rfl) rfl ?_)) | ((fail_if_success refine stp ?_); (conv => whnf) <;> (first | exact cl2 | refine kBy h18 fun hc => ?_ | refine kX ?_ | refine kP ?_ | refine kBd (fun hc => ?_) (fun hc => ?_) | refine kT ?_ | refine kF ?_ | refine kN ?_ | refine kBm (fun hc => ?_) (fun hc => ?_) | refine kO ?_ | refine kS ?_ | refine kA ?_ | exact PV.leL_nil | refine kC ?_ ?_ | refine And.intro ?_ ?_ | refine ix_map (fun x hx => ?_) | refine exU8 ?_ | refine nilc (fun hn => ?_) ?_ | exact cl3 | refine imp0 (fun hpos => ?_) | refine kG ?_ ?_ | exact rfl | exact trivial | (first | refine stq ?_ | fail)))) <;> (try exact cl5)
  have hl18 : l.length ≤ 18 := by rw [List.length_map] at h18; omega
  cases ht : wiB TM t with
  | false =>
    rw [ht] at q2
    refine PCalls.of (N := 177) (res := [.tmp 10]) mixed Try.func8 rfl rfl rfl (by kernel_rfl) (by simp) [0, 1, 2, 3, 4, 7, 8, 10, 11, 12, 13, 15, 16, 17, 18, 19, 20, 21, 22, 23, 24, 25, 26, 27, 29, 53, 61, 65, 66, 67, 68, 76, 124, 136, 150] ?_
    repeat' (first | exact cl1 | (refine stx ?_; first | exact exHM _ | refine exU8 ?_) | ((with_reducible show callX _ _ _ _ _); (first | refine call_p (q0) (by kernel_rfl) rfl ?_ | refine call_p (q1) (by kernel_rfl) rfl ?_ | refine call_p (qx) (by kernel_rfl) rfl ?_ | refine call_p (qz) (by kernel_rfl) rfl ?_ | refine call_p (q2) (by kernel_rfl) rfl ?_)) | ((fail_if_success refine stp ?_); (conv => whnf) <;> (first | exact cl2 | refine kBn h18 fun hc => ?_ | refine kX ?_ | refine kP ?_ | refine kBd (fun hc => ?_) (fun hc => ?_) | refine kT ?_ | refine kF ?_ | refine kN ?_ | refine kBm (fun hc => ?_) (fun hc => ?_) | refine kO ?_ | refine kS ?_ | refine kA ?_ | exact PV.leL_nil | refine kC ?_ ?_ | refine And.intro ?_ ?_ | refine ix_map (fun x hx => ?_) | refine exU8 ?_ | refine nilc (fun hn => ?_) ?_ | exact cl3 | refine imp0 (fun hpos => ?_) | refine kG ?_ ?_ | exact rfl | exact trivial | (first | refine stq ?_ | fail)))) <;> (try exact cl5)
  | true =>
  rw [ht] at q2
  have hsz := sgB_len hs
  have ox := fewD_f3 hfx
  have oz := fewD_f3 hfz
  have hde : ∀ y ∈ l, okE y := fun y hy => (hd y hy).e
  have qa := add_calls l x (by omega) hde ox.e
  rcases addA_cases (x := x) hz with ⟨ha, hA⟩ | ⟨ha, _⟩ | ⟨ha, _⟩
  rotate_left
  · rw [eR_add ha] at qa
    refine PCalls.of (N := 177) (res := [.tmp 10]) mixed Try.func8 rfl rfl rfl (by kernel_rfl) (by simp) [0, 1, 2, 3, 4, 7, 8, 10, 11, 12, 13, 15, 16, 17, 18, 19, 20, 21, 22, 23, 24, 25, 26, 27, 29, 53, 61, 65, 66, 67, 68, 76, 124, 136, 150] ?_
    repeat' (first | exact cl1 | (refine stx ?_; first | exact exHM _ | refine exU8 ?_) | ((with_reducible show callX _ _ _ _ _); (first | refine call_p (q0) (by kernel_rfl) rfl ?_ | refine call_p (q1) (by kernel_rfl) rfl ?_ | refine call_p (qx) (by kernel_rfl) rfl ?_ | refine call_p (qz) (by kernel_rfl) rfl ?_ | refine call_p (q2) (by kernel_rfl) rfl ?_ | refine call_p (qa) (by kernel_rfl) rfl ?_)) | ((fail_if_success refine stp ?_); (conv => whnf) <;> (first | exact cl2 | refine kBn h18 fun hc => ?_ | refine kX ?_ | refine kP ?_ | refine kBd (fun hc => ?_) (fun hc => ?_) | refine kT ?_ | refine kF ?_ | refine kN ?_ | refine kBm (fun hc => ?_) (fun hc => ?_) | refine kO ?_ | refine kS ?_ | refine kA ?_ | exact PV.leL_nil | refine kC ?_ ?_ | refine And.intro ?_ ?_ | refine ix_map (fun x hx => ?_) | refine exU8 ?_ | refine nilc (fun hn => ?_) ?_ | exact cl3 | refine imp0 (fun hpos => ?_) | refine kG ?_ ?_ | exact rfl | exact trivial | (first | refine stq ?_ | fail)))) <;> (try exact cl5)
  · rw [eR_add ha] at qa
    refine PCalls.of (N := 177) (res := [.tmp 10]) mixed Try.func8 rfl rfl rfl (by kernel_rfl) (by simp) [0, 1, 2, 3, 4, 7, 8, 10, 11, 12, 13, 15, 16, 17, 18, 19, 20, 21, 22, 23, 24, 25, 26, 27, 29, 53, 61, 65, 66, 67, 68, 76, 124, 136, 150] ?_
    repeat' (first | exact cl1 | (refine stx ?_; first | exact exHM _ | refine exU8 ?_) | ((with_reducible show callX _ _ _ _ _); (first | refine call_p (q0) (by kernel_rfl) rfl ?_ | refine call_p (q1) (by kernel_rfl) rfl ?_ | refine call_p (qx) (by kernel_rfl) rfl ?_ | refine call_p (qz) (by kernel_rfl) rfl ?_ | refine call_p (q2) (by kernel_rfl) rfl ?_ | refine call_p (qa) (by kernel_rfl) rfl ?_)) | ((fail_if_success refine stp ?_); (conv => whnf) <;> (first | exact cl2 | refine kBn h18 fun hc => ?_ | refine kX ?_ | refine kP ?_ | refine kBd (fun hc => ?_) (fun hc => ?_) | refine kT ?_ | refine kF ?_ | refine kN ?_ | refine kBm (fun hc => ?_) (fun hc => ?_) | refine kO ?_ | refine kS ?_ | refine kA ?_ | exact PV.leL_nil | refine kC ?_ ?_ | refine And.intro ?_ ?_ | refine ix_map (fun x hx => ?_) | refine exU8 ?_ | refine nilc (fun hn => ?_) ?_ | exact cl3 | refine imp0 (fun hpos => ?_) | refine kG ?_ ?_ | exact rfl | exact trivial | (first | refine stq ?_ | fail)))) <;> (try exact cl5)
  have qa : PCalls Try.prog 13 [eL l, eA x] (.tup [eL (insN Dc.no l x), eI 0]) := by rw [ha] at qa; exact qa
  have hyl : (insN Dc.no l x).length = l.length + 1 := length_insN Dc.no l x
  have hyd : ∀ y ∈ insN Dc.no l x, okF y := fun y hy => by
    rcases (mem_insN Dc.no).1 hy with e | e
    · rw [e]; exact ox
    · exact hd y e
  have hym := fun (k : Nat) (d : Dc) (h : (insN Dc.no l x)[k]? = some d) => more_at hA hsz h
  have hml : (insP sg (posN Dc.no x.no l) (-1)).length = l.length + 1 := by rw [insP_len, hsz]
  obtain ⟨e1, e2⟩ := in_sh (t := t) hA (by omega) hs ht
  have qi1 := inForce_calls l sg t h20 hd (by omega)
  have qi2 := inForce_calls (insN Dc.no l x) (insP sg (posN Dc.no x.no l) (-1)) t (by omega) hyd (by omega)
  rw [e1] at qi1
  rw [e2] at qi2
  have hFl := forL_len l (finP l sg t) t l.length
  generalize forL l (finP l sg t) t l.length = F at *
  have qi1 : PCalls Try.prog 20 [eL l, eIs sg, eI t] (.tup [eIs F, eI 0]) := qi1
  have qi2 : PCalls Try.prog 20 [eL (insN Dc.no l x), eIs (insP sg (posN Dc.no x.no l) (-1)), eI t] (.tup [eIs F, eI 0]) := qi2
  have qc := check_calls (insN Dc.no l x) (by omega) (fun y hy => (hyd y hy).e)
  rw [hA.chk (by omega)] at qc
  have qs := sameI_calls F F (by omega)
  rw [decide_eq_true rfl] at qs
  have qn := has_calls z.need x.no (by have := oz.2.2; omega)
  have qr := has_calls z.rev x.no (by have := oz.2.1; omega)
  have qyz := add_calls (insN Dc.no l x) z (by omega) (fun y hy => (hyd y hy).e) oz.e
  have qlz := add_calls l z (by omega) hde oz.e
  have hqx : ∀ b : List Dc, b = insN Dc.no l z → PCalls Try.prog 13 [eL b, eA x] (eR (addA b x)) := fun b hb => by
    refine add_calls b x (by rw [hb, length_insN]; omega) (fun y hy => ?_) ox.e
    rw [hb] at hy
    rcases (mem_insN Dc.no).1 hy with e | e
    · rw [e]; exact oz.e
    · exact hde y e
  have qsm := same_calls (insN Dc.no (insN Dc.no l x) z) (insN Dc.no (insN Dc.no l x) z) (by rw [length_insN, hyl]; omega) (fun y hy => by
    have : okF y := by
      rcases (mem_insN Dc.no).1 hy with e | e
      · rw [e]; exact oz
      · exact hyd y e
    exact ⟨by have := this.1; omega, by have := this.2.1; omega, by have := this.2.2; omega⟩)
  rw [sameLB_refl] at qsm
  have htwo := fun h1 h2 => add_two (z := z) hA (by omega) h1 h2
  generalize insP sg (posN Dc.no x.no l) (-1) = M at *
  generalize hY2 : insN Dc.no (insN Dc.no l x) z = Y2 at *
  generalize hY : insN Dc.no l x = Y at *
  refine PCalls.of (N := 177) (res := [.tmp 10]) mixed Try.func8 rfl rfl rfl (by kernel_rfl) (by simp) [0, 1, 2, 3, 4, 7, 8, 10, 11, 12, 13, 15, 16, 17, 18, 19, 20, 21, 22, 23, 24, 25, 26, 27, 29, 53, 61, 65, 66, 67, 68, 76, 124, 136, 150] ?_
  repeat' (first | exact cl1 | (refine stx ?_; first | exact exHM _ | refine exU8 ?_) | ((with_reducible show callX _ _ _ _ _); (first | refine call_p (q0) (by kernel_rfl) rfl ?_ | refine call_p (q1) (by kernel_rfl) rfl ?_ | refine call_p (qx) (by kernel_rfl) rfl ?_ | refine call_p (qz) (by kernel_rfl) rfl ?_ | refine call_p (q2) (by kernel_rfl) rfl ?_ | refine call_p (qa) (by kernel_rfl) rfl ?_)) | ((fail_if_success refine stp ?_); (conv => whnf) <;> (first | exact cl2 | refine kBn h18 fun hc => ?_ | refine kX ?_ | refine kP ?_ | refine kBd (fun hc => ?_) (fun hc => ?_) | refine kT ?_ | refine kF ?_ | refine kN ?_ | refine kBm (fun hc => ?_) (fun hc => ?_) | refine kO ?_ | refine kS ?_ | refine kA ?_ | exact PV.leL_nil | refine kC ?_ ?_ | refine And.intro ?_ ?_ | refine ix_map (fun x hx => ?_) | refine exU8 ?_ | refine nilc (fun hn => ?_) ?_ | exact cl3 | refine imp0 (fun hpos => ?_) | refine kG ?_ ?_ | exact rfl | exact trivial | (first | refine stq ?_ | fail)))) <;> (try exact cl5)
  refine Wpc.loopA (α := {k : Nat // k ≤ Y.length}) mixed [0, 1, 2, 3, 4, 7, 8, 10, 11, 12, 13, 15, 16, 17, 18, 19, 20, 21, 22, 23, 24, 25, 26, 27, 29, 53, 61, 65, 66, 67, 68, 76, 124, 136, 150] (fun k => [(13, oVI 9 (M.take k.1)), (67, .p (eI k.1))]) (fun k => oHI 9 (M.take k.1)) (fun _ => 0) (fun k => Y.length - k.1) ⟨0, by omega⟩ ?_ ?_
  · (first | refine Ent.ofA [] ?_ | refine Ent.ofC [] ?_) <;> (repeat' (first | exact trivial | refine kHd ?_ | refine kHm rfl (by simp) rfl (fun h => AObj.noConfusion h) ?_ ?_ | refine And.intro ?_ ?_ | exact cl9 | refine kVp ?_ | refine kVa ?_ | refine kVt ?_ | refine kVf ?_ ?_ | refine kVc ?_ ?_ | exact VLeL.nil | exact OLe.row _ _ | rfl | refine VLe.rsle rfl ?_ ?_ ?_ | refine kQw ?_ ?_ | refine kQm ?_ ?_ | refine kQj ?_ ?_ | refine kQc ?_ ?_ | refine kQs ?_ ?_ ?_ | exact OLe.mapS0 rfl)) <;> try exact kZ
  rintro ⟨k, hk⟩
  have hk : k ≤ Y.length := hk
  show lpE [(13, oVI 9 (M.take k)), (67, _)] _ _ fun e => lpH (oHI 9 (M.take k)) _ [] fun h => _
  cases hxk : Y[k]? with
  | some d =>
    have hlt : k < Y.length := (List.getElem?_eq_some_iff.1 hxk).1
    have hyes : ((k : Int) < ((Y.map eA).length : Int)) := by rw [List.length_map]; omega
    have qf := find_calls l d.no (by omega)
    have hMk : ∀ v, M[k]? = some v → M.take (k + 1) = M.take k ++ [v] := fun v hv => by rw [List.take_add_one, hv]; rfl
    rcases hym k d hxk with ⟨h1, h2⟩ | ⟨i, v, h1, h2, h3⟩
    · have hM := hMk _ h2
      have hn : ¬ 0 ≤ fnd l d.no := by omega
      generalize fnd l d.no = fd at *
      cases hG : M.take k with
      | nil =>
        repeat' (first | exact cl1 | (refine stx ?_; first | exact exHM _ | refine exU8 ?_) | ((with_reducible show callX _ _ _ _ _); (first | refine call_p (qf) (by kernel_rfl) rfl ?_)) | ((fail_if_success refine stp ?_); (conv => whnf) <;> (first | exact cl2 | refine kBn hn fun hc => ?_ | refine kBy hyes fun hc => ?_ | refine ix_at hxk ?_ | refine kX ?_ | refine kP ?_ | refine kBd (fun hc => ?_) (fun hc => ?_) | refine kT ?_ | refine kF ?_ | refine kN ?_ | refine kBm (fun hc => ?_) (fun hc => ?_) | refine kO ?_ | refine kS ?_ | refine kA ?_ | exact PV.leL_nil | refine kC ?_ ?_ | refine And.intro ?_ ?_ | refine ix_map (fun x hx => ?_) | refine exU8 ?_ | refine nilc (fun hn => ?_) ?_ | exact cl3 | refine imp0 (fun hpos => ?_) | refine kG ?_ ?_ | exact rfl | exact trivial | (first | refine stq ?_ | fail)))) <;> (try exact cl5)
        refine ⟨⟨k + 1, hlt⟩, by show Y.length - (k + 1) < Y.length - k; omega, ?_⟩
        show Ent _ _ (hdS [0, 1, 2, 3, 4, 7, 8, 10, 11, 12, 13, 15, 16, 17, 18, 19, 20, 21, 22, 23, 24, 25, 26, 27, 29, 53, 61, 65, 66, 67, 68, 76, 124, 136, 150] _ _ _ [(13, oVI 9 (M.take (k + 1))), (67, .p (eI ((k + 1 : Nat) : Int)))] (oHI 9 (M.take (k + 1))) _)
        rw [hM, hG]
        (first | refine Ent.ofA [] ?_ | refine Ent.ofC [] ?_) <;> (repeat' (first | exact trivial | refine kHd ?_ | refine kHm rfl (by simp) rfl (fun h => AObj.noConfusion h) ?_ ?_ | refine And.intro ?_ ?_ | exact cl9 | refine kVp ?_ | refine kVa ?_ | refine kVt ?_ | refine kVf ?_ ?_ | refine kVc ?_ ?_ | exact VLeL.nil | exact OLe.row _ _ | rfl | refine VLe.rsle rfl ?_ ?_ ?_ | refine kQw ?_ ?_ | refine kQm ?_ ?_ | refine kQj ?_ ?_ | refine kQc ?_ ?_ | refine kQs ?_ ?_ ?_ | exact OLe.mapS0 rfl)) <;> try exact kZ
      | cons g gr =>
        have hgl : gr.length ≤ 30 := by have h := List.length_take_le k M; rw [hG] at h; simp at h; omega
        repeat' (first | exact cl1 | (refine stx ?_; first | exact exHM _ | refine exU8 ?_) | ((with_reducible show callX _ _ _ _ _); (first | refine call_p (qf) (by kernel_rfl) rfl ?_)) | ((fail_if_success refine stp ?_); (conv => whnf) <;> (first | exact cl2 | refine kBn hn fun hc => ?_ | refine kBy hyes fun hc => ?_ | refine ix_at hxk ?_ | refine kX ?_ | refine kP ?_ | refine kBd (fun hc => ?_) (fun hc => ?_) | refine kT ?_ | refine kF ?_ | refine kN ?_ | refine kBm (fun hc => ?_) (fun hc => ?_) | refine kO ?_ | refine kS ?_ | refine kA ?_ | exact PV.leL_nil | refine kC ?_ ?_ | refine And.intro ?_ ?_ | refine ix_map (fun x hx => ?_) | refine exU8 ?_ | refine nilc (fun hn => ?_) ?_ | exact cl3 | refine imp0 (fun hpos => ?_) | refine kG ?_ ?_ | exact rfl | exact trivial | (first | refine stq ?_ | fail)))) <;> (try exact cl5)
        refine ⟨⟨k + 1, hlt⟩, by show Y.length - (k + 1) < Y.length - k; omega, ?_⟩
        show Ent _ _ (hdS [0, 1, 2, 3, 4, 7, 8, 10, 11, 12, 13, 15, 16, 17, 18, 19, 20, 21, 22, 23, 24, 25, 26, 27, 29, 53, 61, 65, 66, 67, 68, 76, 124, 136, 150] _ _ _ [(13, oVI 9 (M.take (k + 1))), (67, .p (eI ((k + 1 : Nat) : Int)))] (oHI 9 (M.take (k + 1))) _)
        rw [hM, hG]
        (first | refine Ent.ofA [] ?_ | refine Ent.ofC [] ?_) <;> (repeat' (first | exact trivial | refine kHd ?_ | refine kHm rfl (by simp) rfl (fun h => AObj.noConfusion h) ?_ ?_ | refine And.intro ?_ ?_ | exact cl9 | refine kVp ?_ | refine kVa ?_ | refine kVt ?_ | refine kVf ?_ ?_ | refine kVc ?_ ?_ | exact VLeL.nil | exact OLe.row _ _ | rfl | refine VLe.rsle rfl ?_ ?_ ?_ | refine kQw ?_ ?_ | refine kQm ?_ ?_ | refine kQj ?_ ?_ | refine kQc ?_ ?_ | refine kQs ?_ ?_ ?_ | exact OLe.mapS0 rfl)) <;> try exact kZ
        all_goals (try (show List.map eI (g :: gr) ++ [eI (-1)] = List.map eI (g :: (gr ++ [-1])); simp; done))
    · have hM := hMk _ h3
      rw [h1] at qf
      have hy0 : (0 : Int) ≤ (i : Int) := by omega
      have hisg := (List.getElem?_eq_some_iff.1 h2).1
      have hisg2 : (i : Int) < ((sg.map eI).length : Int) := by rw [List.length_map]; omega
      have h2' : sg[(i : Int).toNat]? = some v := by rw [Int.toNat_natCast]; exact h2
      cases hG : M.take k with
      | nil =>
        repeat' (first | exact cl1 | (refine stx ?_; first | exact exHM _ | refine exU8 ?_) | ((with_reducible show callX _ _ _ _ _); (first | refine call_p (qf) (by kernel_rfl) rfl ?_)) | ((fail_if_success refine stp ?_); (conv => whnf) <;> (first | exact cl2 | refine kBy hy0 fun hc => ?_ | refine kBy hyes fun hc => ?_ | refine ix_at hxk ?_ | refine ix_at h2' ?_ | refine kX ?_ | refine kP ?_ | refine kBd (fun hc => ?_) (fun hc => ?_) | refine kT ?_ | refine kF ?_ | refine kN ?_ | refine kBm (fun hc => ?_) (fun hc => ?_) | refine kO ?_ | refine kS ?_ | refine kA ?_ | exact PV.leL_nil | refine kC ?_ ?_ | refine And.intro ?_ ?_ | refine ix_map (fun x hx => ?_) | refine exU8 ?_ | refine nilc (fun hn => ?_) ?_ | exact cl3 | refine imp0 (fun hpos => ?_) | refine kG ?_ ?_ | exact rfl | exact trivial | (first | refine stq ?_ | fail)))) <;> (try exact cl5)
        refine ⟨⟨k + 1, hlt⟩, by show Y.length - (k + 1) < Y.length - k; omega, ?_⟩
        show Ent _ _ (hdS [0, 1, 2, 3, 4, 7, 8, 10, 11, 12, 13, 15, 16, 17, 18, 19, 20, 21, 22, 23, 24, 25, 26, 27, 29, 53, 61, 65, 66, 67, 68, 76, 124, 136, 150] _ _ _ [(13, oVI 9 (M.take (k + 1))), (67, .p (eI ((k + 1 : Nat) : Int)))] (oHI 9 (M.take (k + 1))) _)
        rw [hM, hG]
        (first | refine Ent.ofA [] ?_ | refine Ent.ofC [] ?_) <;> (repeat' (first | exact trivial | refine kHd ?_ | refine kHm rfl (by simp) rfl (fun h => AObj.noConfusion h) ?_ ?_ | refine And.intro ?_ ?_ | exact cl9 | refine kVp ?_ | refine kVa ?_ | refine kVt ?_ | refine kVf ?_ ?_ | refine kVc ?_ ?_ | exact VLeL.nil | exact OLe.row _ _ | rfl | refine VLe.rsle rfl ?_ ?_ ?_ | refine kQw ?_ ?_ | refine kQm ?_ ?_ | refine kQj ?_ ?_ | refine kQc ?_ ?_ | refine kQs ?_ ?_ ?_ | exact OLe.mapS0 rfl)) <;> try exact kZ
      | cons g gr =>
        have hgl : gr.length ≤ 30 := by have h := List.length_take_le k M; rw [hG] at h; simp at h; omega
        repeat' (first | exact cl1 | (refine stx ?_; first | exact exHM _ | refine exU8 ?_) | ((with_reducible show callX _ _ _ _ _); (first | refine call_p (qf) (by kernel_rfl) rfl ?_)) | ((fail_if_success refine stp ?_); (conv => whnf) <;> (first | exact cl2 | refine kBy hy0 fun hc => ?_ | refine kBy hyes fun hc => ?_ | refine ix_at hxk ?_ | refine ix_at h2' ?_ | refine kX ?_ | refine kP ?_ | refine kBd (fun hc => ?_) (fun hc => ?_) | refine kT ?_ | refine kF ?_ | refine kN ?_ | refine kBm (fun hc => ?_) (fun hc => ?_) | refine kO ?_ | refine kS ?_ | refine kA ?_ | exact PV.leL_nil | refine kC ?_ ?_ | refine And.intro ?_ ?_ | refine ix_map (fun x hx => ?_) | refine exU8 ?_ | refine nilc (fun hn => ?_) ?_ | exact cl3 | refine imp0 (fun hpos => ?_) | refine kG ?_ ?_ | exact rfl | exact trivial | (first | refine stq ?_ | fail)))) <;> (try exact cl5)
        refine ⟨⟨k + 1, hlt⟩, by show Y.length - (k + 1) < Y.length - k; omega, ?_⟩
        show Ent _ _ (hdS [0, 1, 2, 3, 4, 7, 8, 10, 11, 12, 13, 15, 16, 17, 18, 19, 20, 21, 22, 23, 24, 25, 26, 27, 29, 53, 61, 65, 66, 67, 68, 76, 124, 136, 150] _ _ _ [(13, oVI 9 (M.take (k + 1))), (67, .p (eI ((k + 1 : Nat) : Int)))] (oHI 9 (M.take (k + 1))) _)
        rw [hM, hG]
        (first | refine Ent.ofA [] ?_ | refine Ent.ofC [] ?_) <;> (repeat' (first | exact trivial | refine kHd ?_ | refine kHm rfl (by simp) rfl (fun h => AObj.noConfusion h) ?_ ?_ | refine And.intro ?_ ?_ | exact cl9 | refine kVp ?_ | refine kVa ?_ | refine kVt ?_ | refine kVf ?_ ?_ | refine kVc ?_ ?_ | exact VLeL.nil | exact OLe.row _ _ | rfl | refine VLe.rsle rfl ?_ ?_ ?_ | refine kQw ?_ ?_ | refine kQm ?_ ?_ | refine kQj ?_ ?_ | refine kQc ?_ ?_ | refine kQs ?_ ?_ ?_ | exact OLe.mapS0 rfl)) <;> try exact kZ
        all_goals (try (show List.map eI (g :: gr) ++ [eI v] = List.map eI (g :: (gr ++ [v])); simp; done))
  | none =>
    have hge : Y.length ≤ k := List.getElem?_eq_none_iff.1 hxk
    have hno : ¬ ((k : Int) < ((Y.map eA).length : Int)) := by rw [List.length_map]; omega
    have hmt : M.take k = M := List.take_of_length_le (by omega)
    rw [hmt]
    cases hG : M with
    | nil => rw [hG] at hml; simp at hml
    | cons g gr =>
    rw [hG] at qi2 hml
    have hgl : gr.length + 1 = l.length + 1 := hml
    have e13 : eIs (g :: gr) = .sl 1 false (List.take (gr.length + 1) (List.drop 0 (List.map eI (g :: gr)))) := by
      rw [List.drop_zero, List.take_of_length_le (by simp)]; rfl
    rw [e13] at qi2
    have hlen : ¬ ((Y.map eA).length : Int) ≠ ((l.map eA).length : Int) + 1 := fun h => h (by simp only [List.length_map]; omega)
    cases hN : hasB z.need x.no with
    | true =>
      rw [hN] at qn
      repeat' (first | exact cl1 | (refine stx ?_; first | exact exHM _ | refine exU8 ?_) | ((with_reducible show callX _ _ _ _ _); (first | refine call_p (qi1) (by kernel_rfl) rfl ?_ | refine call_p (qi2) (by kernel_rfl) rfl ?_ | refine call_p (qc) (by kernel_rfl) rfl ?_ | refine call_p (qs) (by kernel_rfl) rfl ?_ | refine call_p (qn) (by kernel_rfl) rfl ?_)) | ((fail_if_success refine stp ?_); (conv => whnf) <;> (first | exact cl2 | refine kBn hno fun hc => ?_ | refine kBn hlen fun hc => ?_ | refine Sq.fz (id := 18) [(13, false)] ?_ | refine kX ?_ | refine kP ?_ | refine kBd (fun hc => ?_) (fun hc => ?_) | refine kT ?_ | refine kF ?_ | refine kN ?_ | refine kBm (fun hc => ?_) (fun hc => ?_) | refine kO ?_ | refine kS ?_ | refine kA ?_ | exact PV.leL_nil | refine kC ?_ ?_ | refine And.intro ?_ ?_ | refine ix_map (fun x hx => ?_) | refine exU8 ?_ | refine nilc (fun hn => ?_) ?_ | exact cl3 | refine imp0 (fun hpos => ?_) | refine kG ?_ ?_ | exact rfl | exact trivial | (first | refine stq ?_ | fail)))) <;> (try exact cl5)
    | false =>
    rw [hN] at qn
    cases hR : hasB z.rev x.no with
    | true =>
      rw [hR] at qr
      repeat' (first | exact cl1 | (refine stx ?_; first | exact exHM _ | refine exU8 ?_) | ((with_reducible show callX _ _ _ _ _); (first | refine call_p (qi1) (by kernel_rfl) rfl ?_ | refine call_p (qi2) (by kernel_rfl) rfl ?_ | refine call_p (qc) (by kernel_rfl) rfl ?_ | refine call_p (qs) (by kernel_rfl) rfl ?_ | refine call_p (qn) (by kernel_rfl) rfl ?_ | refine call_p (qr) (by kernel_rfl) rfl ?_)) | ((fail_if_success refine stp ?_); (conv => whnf) <;> (first | exact cl2 | refine kBn hno fun hc => ?_ | refine kBn hlen fun hc => ?_ | refine Sq.fz (id := 18) [(13, false)] ?_ | refine kX ?_ | refine kP ?_ | refine kBd (fun hc => ?_) (fun hc => ?_) | refine kT ?_ | refine kF ?_ | refine kN ?_ | refine kBm (fun hc => ?_) (fun hc => ?_) | refine kO ?_ | refine kS ?_ | refine kA ?_ | exact PV.leL_nil | refine kC ?_ ?_ | refine And.intro ?_ ?_ | refine ix_map (fun x hx => ?_) | refine exU8 ?_ | refine nilc (fun hn => ?_) ?_ | exact cl3 | refine imp0 (fun hpos => ?_) | refine kG ?_ ?_ | exact rfl | exact trivial | (first | refine stq ?_ | fail)))) <;> (try exact cl5)
    | false =>
    rw [hR] at qr
    rcases htwo hN hR with ⟨e, a1, a2, a3⟩ | ⟨a1, a2, a3⟩
    · rw [eR_add a1] at qyz
      generalize addA l z = W at *
      obtain ⟨b, i⟩ := W
      have qlz : PCalls Try.prog 13 [eL l, eA z] (.tup [eL b, eI i]) := qlz
      repeat' (first | exact cl1 | (refine stx ?_; first | exact exHM _ | refine exU8 ?_) | ((with_reducible show callX _ _ _ _ _); (first | refine call_p (qi1) (by kernel_rfl) rfl ?_ | refine call_p (qi2) (by kernel_rfl) rfl ?_ | refine call_p (qc) (by kernel_rfl) rfl ?_ | refine call_p (qs) (by kernel_rfl) rfl ?_ | refine call_p (qn) (by kernel_rfl) rfl ?_ | refine call_p (qr) (by kernel_rfl) rfl ?_ | refine call_p (qyz) (by kernel_rfl) rfl ?_ | refine call_p (qlz) (by kernel_rfl) rfl ?_)) | ((fail_if_success refine stp ?_); (conv => whnf) <;> (first | exact cl2 | refine kBn hno fun hc => ?_ | refine kBn hlen fun hc => ?_ | refine kBy a2 fun hc => ?_ | refine Sq.fz (id := 18) [(13, false)] ?_ | refine kX ?_ | refine kP ?_ | refine kBd (fun hc => ?_) (fun hc => ?_) | refine kT ?_ | refine kF ?_ | refine kN ?_ | refine kBm (fun hc => ?_) (fun hc => ?_) | refine kO ?_ | refine kS ?_ | refine kA ?_ | exact PV.leL_nil | refine kC ?_ ?_ | refine And.intro ?_ ?_ | refine ix_map (fun x hx => ?_) | refine exU8 ?_ | refine nilc (fun hn => ?_) ?_ | exact cl3 | refine imp0 (fun hpos => ?_) | refine kG ?_ ?_ | exact rfl | exact trivial | (first | refine stq ?_ | fail)))) <;> (try exact cl5)
      all_goals (refine LeG.bool ?_; exact decide_eq_true (a3.resolve_left hc))
    · have qbx := hqx _ rfl
      rw [a3] at qbx
      rw [a1] at qyz
      rw [a2] at qlz
      generalize insN Dc.no l z = B at *
      have qlz : PCalls Try.prog 13 [eL l, eA z] (.tup [eL B, eI 0]) := qlz
      have qyz : PCalls Try.prog 13 [eL Y, eA z] (.tup [eL Y2, eI 0]) := qyz
      have qbx : PCalls Try.prog 13 [eL B, eA x] (.tup [eL Y2, eI 0]) := qbx
      repeat' (first | exact cl1 | (refine stx ?_; first | exact exHM _ | refine exU8 ?_) | ((with_reducible show callX _ _ _ _ _); (first | refine call_p (qi1) (by kernel_rfl) rfl ?_ | refine call_p (qi2) (by kernel_rfl) rfl ?_ | refine call_p (qc) (by kernel_rfl) rfl ?_ | refine call_p (qs) (by kernel_rfl) rfl ?_ | refine call_p (qn) (by kernel_rfl) rfl ?_ | refine call_p (qr) (by kernel_rfl) rfl ?_ | refine call_p (qyz) (by kernel_rfl) rfl ?_ | refine call_p (qlz) (by kernel_rfl) rfl ?_ | refine call_p (qbx) (by kernel_rfl) rfl ?_ | refine call_p (qsm) (by kernel_rfl) rfl ?_)) | ((fail_if_success refine stp ?_); (conv => whnf) <;> (first | exact cl2 | refine kBn hno fun hc => ?_ | refine kBn hlen fun hc => ?_ | refine Sq.fz (id := 18) [(13, false)] ?_ | refine kX ?_ | refine kP ?_ | refine kBd (fun hc => ?_) (fun hc => ?_) | refine kT ?_ | refine kF ?_ | refine kN ?_ | refine kBm (fun hc => ?_) (fun hc => ?_) | refine kO ?_ | refine kS ?_ | refine kA ?_ | exact PV.leL_nil | refine kC ?_ ?_ | refine And.intro ?_ ?_ | refine ix_map (fun x hx => ?_) | refine exU8 ?_ | refine nilc (fun hn => ?_) ?_ | exact cl3 | refine imp0 (fun hpos => ?_) | refine kG ?_ ?_ | exact rfl | exact trivial | (first | refine stq ?_ | fail)))) <;> (try exact cl5)
      all_goals trace_state
end Go.Proofs.Ytgclicahmbgfiaa

namespace Go.Proofs.Ytgclicahmbgfiaa
open Go Go.Sg
set_option maxRecDepth 100000
set_option maxHeartbeats 8000000
theorem rI : Rdc Try.prog 3 Int (fun n => [eI n]) (fun n => (Lit.int .i64 n).wf = true) := Rdc.int (by kernel_rfl) (by kernel_rfl)
def okIs (l : List Int) : Prop := l.length ≤ reachBytes ∧ ∀ b ∈ l, (Lit.int .i64 b).wf = true
theorem rIs : Rdc Try.prog 23 (List Int) (fun b => [eIs b]) okIs :=
  Rdc.slice (e := 3) (sz := 1) (by kernel_rfl) (by kernel_rfl) rI (by kernel_rfl) (by decide) (of_decide_eq_true (by kernel_rfl)) (fun _ _ => rfl)
theorem rU8 : Rdc Try.prog 5 Int (fun n => [.int .u8 n]) (fun n => (Lit.int .u8 n).wf = true) := Rdc.int (by kernel_rfl) (by kernel_rfl)
theorem wf_u8 {n : Int} (h : (Lit.int .u8 n).wf = true) : 0 ≤ n ∧ n ≤ 255 := by
  simp [Lit.wf, IntKind.min, IntKind.max, IntKind.signed, IntKind.bits] at h; omega
theorem rTx : Rdc Try.prog 25 (List Int) (fun l => l.flatMap fun n => [.int .u8 n]) (fun l => l.length = 32 ∧ ∀ x ∈ l, (Lit.int .u8 x).wf = true) :=
  Rdc.array (e := 5) (n := 32) (sz := 1) (by kernel_rfl) rU8 (by kernel_rfl) (by kernel_rfl) (by decide)
structure okDc (x : Dc) : Prop where
  par : okIs x.par
  rev : okIs x.rev
  need : okIs x.need
  tx : ∀ i, i < 32 → 0 ≤ x.tx i ∧ x.tx i ≤ 255
abbrev RT := Int × Int × Int × Int × Int × Int × List Int × List Int × List Int × List Int × Unit
def toD (x : RT) : Dc := ⟨x.1, x.2.1, x.2.2.1, x.2.2.2.1, x.2.2.2.2.1, x.2.2.2.2.2.1, x.2.2.2.2.2.2.1, x.2.2.2.2.2.2.2.1, x.2.2.2.2.2.2.2.2.1, fun i => x.2.2.2.2.2.2.2.2.2.1.getD i 0⟩
theorem tx32 (L : List Int) (h : L.length = 32) : (L.flatMap fun n => [PV.int .u8 n]) = [u8 (L.getD 0 0), u8 (L.getD 1 0), u8 (L.getD 2 0), u8 (L.getD 3 0), u8 (L.getD 4 0), u8 (L.getD 5 0), u8 (L.getD 6 0), u8 (L.getD 7 0), u8 (L.getD 8 0), u8 (L.getD 9 0), u8 (L.getD 10 0), u8 (L.getD 11 0), u8 (L.getD 12 0), u8 (L.getD 13 0), u8 (L.getD 14 0), u8 (L.getD 15 0), u8 (L.getD 16 0), u8 (L.getD 17 0), u8 (L.getD 18 0), u8 (L.getD 19 0), u8 (L.getD 20 0), u8 (L.getD 21 0), u8 (L.getD 22 0), u8 (L.getD 23 0), u8 (L.getD 24 0), u8 (L.getD 25 0), u8 (L.getD 26 0), u8 (L.getD 27 0), u8 (L.getD 28 0), u8 (L.getD 29 0), u8 (L.getD 30 0), u8 (L.getD 31 0)] := by
  match L, h with
  | [a0, a1, a2, a3, a4, a5, a6, a7, a8, a9, a10, a11, a12, a13, a14, a15, a16, a17, a18, a19, a20, a21, a22, a23, a24, a25, a26, a27, a28, a29, a30, a31], _ => rfl
theorem okA_one (x : Dc) : ∀ c ∈ (eA x).cells, c.one = true := fun c hc => by
  have h : (eA x).cells.all (fun c => c.one) = true := rfl
  exact List.all_eq_true.1 h c hc
theorem rDc : Rdc Try.prog 27 Dc (fun x => (eA x).cells) okDc := by
  have h := Rdc.struct (P := Try.prog) (t := 27) Try.underlying27 (Rdf.cons rI (Rdf.cons rI (Rdf.cons rI (Rdf.cons rI (Rdf.cons rI (Rdf.cons rI (Rdf.cons rIs (Rdf.cons rIs (Rdf.cons rIs (Rdf.cons rTx Rdf.nil (by kernel_rfl) rfl) (by kernel_rfl) rfl) (by kernel_rfl) rfl) (by kernel_rfl) rfl) (by kernel_rfl) rfl) (by kernel_rfl) rfl) (by kernel_rfl) rfl) (by kernel_rfl) rfl) (by kernel_rfl) rfl) (by kernel_rfl) rfl) (by kernel_rfl)
  exact {
    sz := fun x _ => by
      have e : Try.prog.cellsOf 27 = 41 := by kernel_rfl
      rw [e]; rfl
    one := fun x _ => okA_one x
    rd := by
      intro H enc w n cs y hr hw
      obtain ⟨x, h1, h2, h3⟩ := h.rd hr hw
      obtain ⟨b1, b2, b3, b4, b5, b6, b7, b8, b9, b10, _⟩ := x
      obtain ⟨_, _, _, _, _, _, c7, c8, c9, c10, _⟩ := h1
      refine ⟨toD (b1, b2, b3, b4, b5, b6, b7, b8, b9, b10, ()), ⟨c7, c8, c9, fun i hi => ?_⟩, h2, fun i p hp => h3 i p ?_⟩
      · have hl : i < b10.length := by have := c10.1; simp only at this; omega
        have e : (toD (b1, b2, b3, b4, b5, b6, b7, b8, b9, b10, ())).tx i = b10[i] := by
          show b10.getD i 0 = b10[i]
          simp [List.getD, hl]
        rw [e]
        exact wf_u8 (c10.2 _ (List.getElem_mem hl))
      · show ([eI b1] ++ ([eI b2] ++ ([eI b3] ++ ([eI b4] ++ ([eI b5] ++ ([eI b6] ++ ([eIs b7] ++ ([eIs b8] ++ ([eIs b9] ++ ((b10.flatMap fun n => [PV.int .u8 n]) ++ []))))))))))[i]? = some p
        rw [tx32 b10 c10.1]
        exact hp }
def okL (l : List Dc) : Prop := l.length ≤ reachBytes ∧ ∀ b ∈ l, okDc b
theorem rL : Rdc Try.prog 22 (List Dc) (fun b => [eL b]) okL :=
  Rdc.slice (e := 27) (sz := 41) (ep := eA) (by kernel_rfl) (by kernel_rfl) rDc (by kernel_rfl) (by decide) (of_decide_eq_true (by kernel_rfl)) (fun _ _ => rfl)
theorem aI : Rda Try.prog 3 Int eI (fun n => (Lit.int .i64 n).wf = true) := Rda.one rI (by kernel_rfl)
theorem aDc : Rda Try.prog 27 Dc eA okDc := Rda.agg rDc (by kernel_rfl)
theorem aL : Rda Try.prog 22 (List Dc) eL okL := Rda.one rL (by kernel_rfl)
theorem aIs : Rda Try.prog 23 (List Int) eIs okIs := Rda.one rIs (by kernel_rfl)
theorem okL.len {l : List Dc} (h : okL l) : l.length < 140737488355328 := Nat.lt_of_le_of_lt h.1 reachBytes_lt
theorem okIs.len {l : List Int} (h : okIs l) : l.length < 140737488355328 := Nat.lt_of_le_of_lt h.1 reachBytes_lt
theorem okDc.d {x : Dc} (h : okDc x) : x.par.length < 140737488355328 ∧ x.rev.length < 140737488355328 ∧ x.need.length < 140737488355328 := ⟨h.par.len, h.rev.len, h.need.len⟩
theorem own : ownKnob Try.prog.godebug = none := by kernel_rfl
end Go.Proofs.Ytgclicahmbgfiaa
