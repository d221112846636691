/- A part of the proof: contracts of the functions that the statement reaches. -/
import Derived.Test.YthlpjjnfcpjgoaaChp1
set_option linter.unusedSimpArgs false
set_option linter.unusedVariables false
set_option linter.unnecessarySimpa false
namespace Go.Proofs.Ythlpjjnfcpjgoaa
open Go Go.Sg
set_option maxRecDepth 100000
set_option maxHeartbeats 4000000
/-! ### From party to party -/
structure OkM (M : Met) : Prop where
  nd : (M.map Prod.fst).Nodup
  tt : ∀ y ∈ M, y.2 = true
def inM (M : Met) (p : Int) : Bool := (aget p M).getD false
theorem OkM.nil : OkM [] := ⟨List.nodup_nil, fun _ h => by cases h⟩
theorem inM_put (M : Met) (a p : Int) : inM (aput a true M) p = (decide (p = a) || inM M p) := by
  unfold inM; rw [aget_put]
  by_cases h : p = a
  · rw [if_pos h, decide_eq_true h]; rfl
  · rw [if_neg h, decide_eq_false h]; rfl
theorem OkM.put {M : Met} (h : OkM M) (a : Int) : OkM (aput a true M) := by
  have hn := aput_nodup (k := a) (v := true) h.nd
  refine ⟨hn, fun y hy => ?_⟩
  have h1 := aget_of_mem (k := y.1) (v := y.2) hn hy
  rw [aget_put] at h1
  by_cases e : y.1 = a
  · rw [if_pos e] at h1; injection h1 with h1; exact h1.symm
  · rw [if_neg e] at h1; exact h.tt _ (aget_mem h1)
theorem OkM.mem {M : Met} (h : OkM M) {y : Int × Bool} (hy : y ∈ M) : inM M y.1 = true := by
  unfold inM; rw [aget_of_mem (k := y.1) (v := y.2) h.nd hy]; exact h.tt y hy
theorem inM_mem {M : Met} {p : Int} (h : inM M p = true) : (p, true) ∈ M := by
  unfold inM at h
  cases ha : aget p M with
  | none => rw [ha] at h; cases h
  | some v => rw [ha] at h; have h : v = true := h; rw [h] at ha; exact aget_mem ha
def foldC (c : It → Bool) (l : List It) (N : Met) : Met := l.foldl (fun N x => if c x then aput x.party true N else N) N
theorem foldC_take {c : It → Bool} {l : List It} {N : Met} {i : Nat} {x : It} (h : l[i]? = some x) : foldC c (l.take (i + 1)) N = if c x then aput x.party true (foldC c (l.take i) N) else foldC c (l.take i) N := by
  unfold foldC; rw [List.take_add_one, h]; simp [List.foldl_append]
theorem foldC_ok {c : It → Bool} : ∀ (l : List It) {N : Met}, OkM N → OkM (foldC c l N)
  | [], _, h => h
  | x :: l, N, h => by
    show OkM (foldC c l (if c x then aput x.party true N else N))
    split
    · exact foldC_ok l (h.put _)
    · exact foldC_ok l h
theorem foldC_in {c : It → Bool} (p : Int) : ∀ (l : List It) (N : Met), inM (foldC c l N) p = true ↔ inM N p = true ∨ ∃ x ∈ l, c x = true ∧ x.party = p
  | [], N => by simp [foldC]
  | x :: l, N => by
    have e : foldC c (x :: l) N = foldC c l (if c x then aput x.party true N else N) := rfl
    rw [e, foldC_in p l]
    cases hc : c x with
    | true =>
      rw [if_pos rfl, inM_put]
      constructor
      · rintro (h | ⟨y, h1, h2⟩)
        · rw [Bool.or_eq_true] at h
          rcases h with h | h
          · exact .inr ⟨x, by simp, hc, (of_decide_eq_true h).symm⟩
          · exact .inl h
        · exact .inr ⟨y, List.mem_cons_of_mem _ h1, h2⟩
      · rintro (h | ⟨y, h1, h2, h3⟩)
        · exact .inl (by rw [h]; simp)
        · rcases List.mem_cons.1 h1 with rfl | h1
          · exact .inl (by rw [decide_eq_true h3.symm]; rfl)
          · exact .inr ⟨y, h1, h2, h3⟩
    | false =>
      rw [if_neg Bool.false_ne_true]
      constructor
      · exact Or.imp id fun ⟨y, h1, h2⟩ => ⟨y, List.mem_cons_of_mem _ h1, h2⟩
      · rintro (h | ⟨y, h1, h2, h3⟩)
        · exact .inl h
        · rcases List.mem_cons.1 h1 with rfl | h1
          · rw [hc] at h2; cases h2
          · exact .inr ⟨y, h1, h2, h3⟩
/-- A party that a path of at most `n` entries leads to. -/
def Rch (S : List It) (who : Int) (n : Nat) (p : Int) : Prop := ∃ q : List Int, 1 ≤ q.length ∧ q.length ≤ n ∧ provF (byF S) false q who = some p
theorem prov_one {S : List It} (hs : S.Pairwise (fun a b => a.no < b.no)) {who no p : Int} : provF (byF S) false [no] who = some p ↔ ∃ x ∈ S, x.no = no ∧ x.of_ = false ∧ x.person = who ∧ x.party = p := by
  rw [provF_cons, ← stp_some hs]
  cases stp (byF S) false no who <;> exact Iff.rfl
theorem prov_snoc {S : List It} (hs : S.Pairwise (fun a b => a.no < b.no)) {who no p : Int} {q : List Int} (hq : q ≠ []) : provF (byF S) false (q ++ [no]) who = some p ↔ ∃ r, provF (byF S) false q who = some r ∧ ∃ x ∈ S, x.no = no ∧ x.of_ = true ∧ x.person = r ∧ x.party = p := by
  rw [provF_snoc]
  have he : (false || !q.isEmpty) = true := by cases q with
    | nil => exact absurd rfl hq
    | cons a b => rfl
  rw [he]
  cases provF (byF S) false q who with
  | none => exact ⟨fun h => (by cases h), fun ⟨_, h, _⟩ => (by cases h)⟩
  | some r =>
    constructor
    · intro h; exact ⟨r, rfl, (stp_some hs).1 h⟩
    · rintro ⟨r', h, g⟩; injection h with h; subst h; exact (stp_some hs).2 g
def cd1 (l : List It) (who t k : Int) (x : It) : Bool := (!x.of_ && decide (x.person = who)) && stR t k l x
def cd2 (l : List It) (M : Met) (t k : Int) (x : It) : Bool := (x.of_ && inM M x.person) && stR t k l x
section
variable {l S : List It} {who t k : Int}
theorem rch_one (hs : S.Pairwise (fun a b => a.no < b.no)) (hst : ∀ x, x ∈ S ↔ x ∈ l ∧ stR t k l x = true) (p : Int) : inM (foldC (cd1 l who t k) l []) p = true ↔ Rch S who 1 p := by
  rw [foldC_in]
  constructor
  · rintro (h | ⟨x, h1, h2, h3⟩)
    · cases h
    · unfold cd1 at h2
      simp only [Bool.and_eq_true, Bool.not_eq_true', decide_eq_true_eq] at h2
      exact ⟨[x.no], by simp, by simp, (prov_one hs).2 ⟨x, (hst x).2 ⟨h1, h2.2⟩, rfl, h2.1.1, h2.1.2, h3⟩⟩
  · rintro ⟨q, h1, h2, h3⟩
    obtain ⟨no, e⟩ : ∃ no, q = [no] := List.length_eq_one_iff.1 (by omega)
    subst e
    obtain ⟨x, g1, g2, g3, g4, g5⟩ := (prov_one hs).1 h3
    obtain ⟨f1, f2⟩ := (hst x).1 g1
    exact .inr ⟨x, f1, by unfold cd1; rw [g3, decide_eq_true g4, f2]; rfl, g5⟩
theorem rch_succ (hs : S.Pairwise (fun a b => a.no < b.no)) (hst : ∀ x, x ∈ S ↔ x ∈ l ∧ stR t k l x = true) {M N : Met} {n : Nat} (hn : 1 ≤ n) (hM : ∀ p, inM M p = true ↔ Rch S who n p) (hN : ∀ p, inM N p = true ↔ inM M p = true) (p : Int) : inM (foldC (cd2 l M t k) l N) p = true ↔ Rch S who (n + 1) p := by
  rw [foldC_in]
  constructor
  · rintro (h | ⟨x, h1, h2, h3⟩)
    · obtain ⟨q, g1, g2, g3⟩ := (hM p).1 ((hN p).1 h)
      exact ⟨q, g1, by omega, g3⟩
    · unfold cd2 at h2
      simp only [Bool.and_eq_true] at h2
      obtain ⟨q, g1, g2, g3⟩ := (hM _).1 h2.1.2
      exact ⟨q ++ [x.no], by simp, by simp; omega, (prov_snoc hs (fun e => by rw [e] at g1; simp at g1)).2 ⟨x.person, g3, x, (hst x).2 ⟨h1, h2.2⟩, rfl, h2.1.1, rfl, h3⟩⟩
  · rintro ⟨q, h1, h2, h3⟩
    by_cases hq : q.length ≤ n
    · exact .inl ((hN p).2 ((hM p).2 ⟨q, h1, hq, h3⟩))
    · have hne : q ≠ [] := fun e => by rw [e] at h1; simp at h1
      obtain ⟨q', no, e⟩ : ∃ q' no, q = q' ++ [no] := ⟨q.dropLast, q.getLast hne, (List.dropLast_concat_getLast hne).symm⟩
      subst e
      have hl' : q'.length = n := by simp at h2 hq; omega
      obtain ⟨r, g1, x, f1, f2, f3, f4, f5⟩ := (prov_snoc hs (fun e => by rw [e] at hl'; simp at hl'; omega)).1 h3
      obtain ⟨e1, e2⟩ := (hst x).1 f1
      have hin : inM M x.person = true := (hM _).2 ⟨q', by omega, by omega, by rw [f4]; exact g1⟩
      exact .inr ⟨x, e1, by unfold cd2; rw [f3, hin, e2]; rfl, f5⟩
/-- What the rounds before `n` have found. -/
structure Fd (S : List It) (who : Int) (P : List Int) (n : Nat) (f : Bool) (lng : Int) : Prop where
  no : f = false → lng = 0 ∧ ∀ p, Rch S who (n - 1) p → hasB P p = false
  yes : f = true → ∃ m : Nat, lng = (m : Int) ∧ 1 ≤ m ∧ m ≤ n - 1 ∧ (∃ q p, q.length = m ∧ provF (byF S) false q who = some p ∧ hasB P p = true) ∧ ∀ p, Rch S who (m - 1) p → hasB P p = false
theorem Fd.ini (S : List It) (who : Int) (P : List Int) : Fd S who P 1 false 0 := ⟨fun _ => ⟨rfl, fun p ⟨q, h1, h2, _⟩ => absurd h2 (by omega)⟩, fun h => absurd h Bool.noConfusion⟩
theorem hasB_mem {P : List Int} {p : Int} : hasB P p = true ↔ p ∈ P := by
  unfold hasB; rw [List.any_eq_true]
  exact ⟨fun ⟨x, h, e⟩ => of_decide_eq_true e ▸ h, fun h => ⟨p, h, decide_eq_true rfl⟩⟩
theorem Fd.step {P : List Int} {M : Met} {n : Nat} {f : Bool} {lng : Int} (hn : 1 ≤ n) (F : Fd S who P n f lng) (hM : ∀ p, inM M p = true ↔ Rch S who n p) : Fd S who P (n + 1) (f || P.any (inM M)) (if !f && P.any (inM M) then (n : Int) else lng) := by
  cases f with
  | true =>
    refine ⟨fun h => absurd h Bool.noConfusion, fun _ => ?_⟩
    obtain ⟨m, h1, h2, h3, h4⟩ := F.yes rfl
    exact ⟨m, h1, h2, by omega, h4⟩
  | false =>
    obtain ⟨h1, h2⟩ := F.no rfl
    cases ha : P.any (inM M) with
    | false =>
      refine ⟨fun _ => ⟨h1, fun p hp => ?_⟩, fun h => absurd h Bool.noConfusion⟩
      cases hb : hasB P p with
      | false => rfl
      | true =>
        exfalso
        have := List.any_eq_false.1 ha p (hasB_mem.1 hb)
        exact this ((hM p).2 hp)
    | true =>
      refine ⟨fun h => absurd h Bool.noConfusion, fun _ => ⟨n, rfl, hn, by omega, ?_, h2⟩⟩
      obtain ⟨p, hp, hin⟩ := List.any_eq_true.1 ha
      obtain ⟨q, g1, g2, g3⟩ := (hM p).1 hin
      refine ⟨q, p, ?_, g3, hasB_mem.2 hp⟩
      rcases Nat.lt_or_ge q.length n with h | h
      · have := h2 p ⟨q, g1, by omega, g3⟩
        rw [hasB_mem.2 hp] at this; cases this
      · omega
theorem Fd.fin {P : List Int} {f : Bool} {lng : Int} {c : List Int × Bool} (F : Fd S who P 9 f lng) (R : Res S who P c) : c.2 = f ∧ (c.1.length : Int) = lng := by
  cases hf : f with
  | false =>
    obtain ⟨h1, h2⟩ := F.no hf
    cases hc : c.2 with
    | false => exact ⟨rfl, by rw [(R.no hc).1, h1]; rfl⟩
    | true =>
      exfalso
      obtain ⟨⟨p, g1, g2⟩, g3, g4, _⟩ := R.yes hc
      rw [h2 p ⟨c.1, g3, g4, g1⟩] at g2; cases g2
  | true =>
    obtain ⟨m, h1, h2, h3, ⟨q, p, e1, e2, e3⟩, h5⟩ := F.yes hf
    cases hc : c.2 with
    | false =>
      exfalso
      rw [(R.no hc).2 q p e2 (by omega) (by omega)] at e3; cases e3
    | true =>
      obtain ⟨⟨p', g1, g2⟩, g3, g4, g5⟩ := R.yes hc
      refine ⟨rfl, ?_⟩
      have hb := g5 q p e2 (by omega) (by omega) e3
      have : ¬ q.length < c.1.length := fun h => by rw [bef_short h] at hb; cases hb
      have : ¬ c.1.length ≤ m - 1 := fun h => by rw [h5 p' ⟨c.1, g3, h, g1⟩] at g2; cases g2
      omega
end
end Go.Proofs.Ythlpjjnfcpjgoaa

namespace Go.Proofs.Ythlpjjnfcpjgoaa
open Go Go.Sg
set_option maxRecDepth 100000
set_option maxHeartbeats 20000000
theorem OLe.iter0 {σ : Heap} {Z : Nat → Prop} {ρ : Nat → Option Nat} {m m' : List (PV × PV)} {c : Option (PV × PV)} (h : m = m') : OLe σ Z ρ (.iter m c) (.iter m' none) := by
  subst h
  intro F μ w b hz hr
  obtain ⟨q, es, clock, seen, h1, h2, h3, h4, h5, h6⟩ := hr
  exact IterOk.mono (w := w) ⟨q, es, clock, seen, h1, h2, h3, h4, h5, fun k v h => by cases h⟩ (fun _ h => .inl h) (fun _ _ => rfl) rfl
theorem any_take1 {p : Int → Bool} {l : List Int} {i : Nat} {x : Int} (h : l[i]? = some x) : (l.take (i + 1)).any p = ((l.take i).any p || p x) := by
  rw [List.take_add_one, h]; simp [List.any_append]
theorem upd1 (f a v : Bool) (n g : Int) (hv : v = true) (h : (f || a) = true) : (if (!f && a) = true then n else g) = if (!f && (a || v)) = true then n else g := by subst hv; cases f <;> cases a <;> simp_all
theorem steps_calls (l : List It) (who : Int) (P : List Int) (t k : Int) (hPU : P.length < 140737488355328) : PCalls Try.prog 6 [eL l, eI who, eIs P, eI t, eI k] (.bool true) := by
  have q0 := lright_calls l who P t k hPU
  cases hr : rightL l who P t k with
  | false =>
    rw [hr] at q0
    refine PCalls.of (N := 139) (res := [.tmp 10]) mixed Try.func6 rfl rfl rfl (by kernel_rfl) (by simp) [0, 1, 2, 3, 4, 10, 11, 13, 14, 15, 16, 18, 19, 20, 22, 23, 24, 25, 27, 34, 36, 37, 38, 39, 57, 63, 66, 67, 68, 69, 78, 83, 85, 90, 91, 92, 93, 110] ?_
    repeat' (first | exact cl1 | ((with_reducible show Exists _); first | exact exHM _ | refine exU8 ?_) | ((with_reducible show callX _ _ _ _ _); (first | refine call_p (sane_calls) (by kernel_rfl) rfl ?_ | refine call_p (q0) (by kernel_rfl) rfl ?_)) | ((fail_if_success with_reducible first | show LeG _ _ | show Lp _ _ _ _ | show Exists _ | show callX _ _ _ _ _ | show (_ : Int) ≤ _ | show (_ : Int) < _ | show (_ : Nat) ≤ _ | show (_ : Nat) < _); (conv => whnf) <;> (first | exact cl2 | refine XAlt.l ?_ | refine Sq.pr ?_ | refine Br.dec (fun hc => ?_) (fun hc => ?_) | refine Br.tt ?_ | refine Br.ff ?_ | refine Br.not ?_ | refine Br.mk (fun hc => ?_) (fun hc => ?_) | refine Opt.nn ?_ | refine Opt.ss ?_ | refine AltA.l ?_ | exact PV.leL_nil | refine PV.leL_cons ?_ ?_ | refine And.intro ?_ ?_ | refine ix_map (fun x hx => ?_) | refine exU8 ?_ | refine nilc (fun hn => ?_) ?_ | exact cl3 | refine imp0 (fun hpos => ?_) | refine fits_i64 ?_ ?_ | exact rfl | exact trivial | (with_reducible first | show LeG _ _ | show Lp _ _ _ _ | show Exists _ | show callX _ _ _ _ _)))) <;> (try exact cl5)
  | true =>
    rw [hr] at q0
    obtain ⟨hl40, hz, hP16⟩ := rightL_ok hr
    have hl : l.length < 1000000 := by omega
    have hP : P.length < 1000000 := by omega
    obtain ⟨hchk, harg⟩ := examA_ok hz
    have htk : 0 ≤ t ∧ 0 ≤ k := by
      unfold argB wiB at harg
      simp only [Bool.and_eq_true, decide_eq_true_eq] at harg
      omega
    have hs := stL_srt (t := t) (k := k) hchk
    have hst : ∀ x, x ∈ stL t k l ↔ x ∈ l ∧ stR t k l x = true := fun x => by rw [← stL_eq htk.1 htk.2 hchk, List.mem_filter]
    have R := conF_res hs who P
    have q1 := conflict_calls l who P t k hl hP
    unfold conA at q1
    rw [if_pos hz] at q1
    have hclen := conF_len (stL t k l) P who
    generalize conF (stL t k l) P who = c at *
    generalize stL t k l = S at *
    refine PCalls.of (N := 139) (res := [.tmp 10]) mixed Try.func6 rfl rfl rfl (by kernel_rfl) (by simp) [0, 1, 2, 3, 4, 10, 11, 13, 14, 15, 16, 18, 19, 20, 22, 23, 24, 25, 27, 34, 36, 37, 38, 39, 57, 63, 66, 67, 68, 69, 78, 83, 85, 90, 91, 92, 93, 110] ?_
    repeat' (first | exact cl1 | ((with_reducible show Exists _); first | exact exHM _ | refine exU8 ?_) | ((with_reducible show callX _ _ _ _ _); (first | refine call_p (sane_calls) (by kernel_rfl) rfl ?_ | refine call_p (q0) (by kernel_rfl) rfl ?_)) | ((fail_if_success with_reducible first | show LeG _ _ | show Lp _ _ _ _ | show Exists _ | show callX _ _ _ _ _ | show (_ : Int) ≤ _ | show (_ : Int) < _ | show (_ : Nat) ≤ _ | show (_ : Nat) < _); (conv => whnf) <;> (first | exact cl2 | refine XAlt.l ?_ | refine Sq.pr ?_ | refine Br.dec (fun hc => ?_) (fun hc => ?_) | refine Br.tt ?_ | refine Br.ff ?_ | refine Br.not ?_ | refine Br.mk (fun hc => ?_) (fun hc => ?_) | refine Opt.nn ?_ | refine Opt.ss ?_ | refine AltA.l ?_ | exact PV.leL_nil | refine PV.leL_cons ?_ ?_ | refine And.intro ?_ ?_ | refine ix_map (fun x hx => ?_) | refine exU8 ?_ | refine nilc (fun hn => ?_) ?_ | exact cl3 | refine imp0 (fun hpos => ?_) | refine fits_i64 ?_ ?_ | exact rfl | exact trivial | (with_reducible first | show LeG _ _ | show Lp _ _ _ _ | show Exists _ | show callX _ _ _ _ _)))) <;> (try exact cl5)
    refine Wpc.loopA (α := {i : Nat // i ≤ l.length}) mixed [0, 1, 2, 3, 4, 10, 11, 13, 14, 15, 16, 18, 19, 20, 22, 23, 24, 25, 27, 34, 36, 37, 38, 39, 57, 63, 66, 67, 68, 69, 78, 83, 85, 90, 91, 92, 93, 110] (fun i => [(38, .p (eI i.1))]) (fun i => [(640, .map KTi (eM eI PV.bool (foldC (cd1 l who t k) (l.take i.1) [])))]) (fun _ => 0) (fun i => l.length - i.1) ⟨0, by omega⟩ ?_ ?_
    · (first | refine Ent.ofA [] ?_ | refine Ent.ofC [] ?_) <;> (repeat' (first | exact trivial | refine HpLe.dd ?_ | refine HpLe.mk rfl (by simp) rfl (fun h => AObj.noConfusion h) ?_ ?_ | refine And.intro ?_ ?_ | exact cl9 | refine VLe.pe ?_ | refine VLe.agg ?_ | refine VLe.tup ?_ | refine VLe.fn ?_ ?_ | refine VLeL.cons ?_ ?_ | exact VLeL.nil | exact OLe.row _ _ | rfl | refine VLe.rsle rfl ?_ ?_ ?_ | refine OLe.rowe2 ?_ ?_ | refine OLe.mape ?_ ?_ | refine OLe.iter0 ?_ | refine OLe.itere ?_ ?_ | refine OLe.chane ?_ ?_ | refine OLe.mapSe ?_ ?_ ?_ | exact OLe.mapS0 rfl)) <;> try (first | (simp; done) | (congr 1; omega) | (congr 1; (first | (simp; done) | (simp; omega))))
    rintro ⟨i, hi⟩
    have hi : i ≤ l.length := hi
    cases hxi : l[i]? with
    | some y =>
      have hlt : i < l.length := (List.getElem?_eq_some_iff.1 hxi).1
      have hyes : ((i : Int) < ((l.map eA).length : Int)) := by rw [List.length_map]; omega
      have q4 := stands_calls l y t k hl
      repeat' (first | exact cl1 | ((with_reducible show Exists _); first | exact exHM _ | refine exU8 ?_) | ((with_reducible show callX _ _ _ _ _); (first | refine call_p (q4) (by kernel_rfl) rfl ?_)) | ((fail_if_success with_reducible first | show LeG _ _ | show Lp _ _ _ _ | show Exists _ | show callX _ _ _ _ _ | show (_ : Int) ≤ _ | show (_ : Int) < _ | show (_ : Nat) ≤ _ | show (_ : Nat) < _); (conv => whnf) <;> (first | exact cl2 | refine Br.dec (fun hc => ?_) (fun hc => absurd hyes hc) | refine ix_at hxi ?_ | refine XAlt.l ?_ | refine Sq.pr ?_ | refine Br.dec (fun hc => ?_) (fun hc => ?_) | refine Br.tt ?_ | refine Br.ff ?_ | refine Br.not ?_ | refine Br.mk (fun hc => ?_) (fun hc => ?_) | refine Opt.nn ?_ | refine Opt.ss ?_ | refine AltA.l ?_ | exact PV.leL_nil | refine PV.leL_cons ?_ ?_ | refine And.intro ?_ ?_ | refine ix_map (fun x hx => ?_) | refine exU8 ?_ | refine nilc (fun hn => ?_) ?_ | exact cl3 | refine imp0 (fun hpos => ?_) | refine fits_i64 ?_ ?_ | exact rfl | exact trivial | (with_reducible first | show LeG _ _ | show Lp _ _ _ _ | show Exists _ | show callX _ _ _ _ _)))) <;> (try exact cl5)
      all_goals first
      | (have hs1 : cd1 l who t k y = true := by simp_all [cd1]
         refine ⟨⟨i + 1, hlt⟩, by show l.length - (i + 1) < l.length - i; omega, ?_⟩
         (first | refine Ent.ofA [] ?_ | refine Ent.ofC [] ?_) <;> (repeat' (first | exact trivial | refine HpLe.dd ?_ | refine HpLe.mk rfl (by simp) rfl (fun h => AObj.noConfusion h) ?_ ?_ | refine And.intro ?_ ?_ | exact cl9 | refine VLe.pe ?_ | refine VLe.agg ?_ | refine VLe.tup ?_ | refine VLe.fn ?_ ?_ | refine VLeL.cons ?_ ?_ | exact VLeL.nil | exact OLe.row _ _ | rfl | refine VLe.rsle rfl ?_ ?_ ?_ | refine OLe.rowe2 ?_ ?_ | refine OLe.mape ?_ ?_ | refine OLe.iter0 ?_ | refine OLe.itere ?_ ?_ | refine OLe.chane ?_ ?_ | refine OLe.mapSe ?_ ?_ ?_ | exact OLe.mapS0 rfl)) <;> try (first | (simp; done) | (congr 1; omega) | (congr 1; (first | (simp; done) | (simp; omega))))
         show mput (eI y.party) (.bool true) (eM eI PV.bool (foldC (cd1 l who t k) (l.take i) [])) = eM eI PV.bool (foldC (cd1 l who t k) (l.take (i + 1)) [])
         rw [foldC_take hxi, if_pos hs1, mput_map PV.bool keyI])
      | (have hs1 : cd1 l who t k y = false := by simp_all [cd1]
         refine ⟨⟨i + 1, hlt⟩, by show l.length - (i + 1) < l.length - i; omega, ?_⟩
         (first | refine Ent.ofA [] ?_ | refine Ent.ofC [] ?_) <;> (repeat' (first | exact trivial | refine HpLe.dd ?_ | refine HpLe.mk rfl (by simp) rfl (fun h => AObj.noConfusion h) ?_ ?_ | refine And.intro ?_ ?_ | exact cl9 | refine VLe.pe ?_ | refine VLe.agg ?_ | refine VLe.tup ?_ | refine VLe.fn ?_ ?_ | refine VLeL.cons ?_ ?_ | exact VLeL.nil | exact OLe.row _ _ | rfl | refine VLe.rsle rfl ?_ ?_ ?_ | refine OLe.rowe2 ?_ ?_ | refine OLe.mape ?_ ?_ | refine OLe.iter0 ?_ | refine OLe.itere ?_ ?_ | refine OLe.chane ?_ ?_ | refine OLe.mapSe ?_ ?_ ?_ | exact OLe.mapS0 rfl)) <;> try (first | (simp; done) | (congr 1; omega) | (congr 1; (first | (simp; done) | (simp; omega))))
         show eM eI PV.bool (foldC (cd1 l who t k) (l.take i) []) = eM eI PV.bool (foldC (cd1 l who t k) (l.take (i + 1)) [])
         rw [foldC_take hxi, if_neg (by rw [hs1]; exact Bool.false_ne_true)])
      | trace_state
    | none =>
      have hge : l.length ≤ i := List.getElem?_eq_none_iff.1 hxi
      have hno : ¬ ((i : Int) < ((l.map eA).length : Int)) := by rw [List.length_map]; omega
      show lpE _ _ _ fun e => lpH [(640, .map KTi (eM eI PV.bool (foldC (cd1 l who t k) (l.take i) [])))] _ [] fun h => _
      rw [List.take_of_length_le hge]
      have hM0 := foldC_ok (c := cd1 l who t k) l OkM.nil
      have hR0 := rch_one (who := who) hs hst
      generalize foldC (cd1 l who t k) l [] = M0 at *
      repeat' (first | exact cl1 | ((with_reducible show Exists _); first | exact exHM _ | refine exU8 ?_) | ((fail_if_success with_reducible first | show LeG _ _ | show Lp _ _ _ _ | show Exists _ | show callX _ _ _ _ _ | show (_ : Int) ≤ _ | show (_ : Int) < _ | show (_ : Nat) ≤ _ | show (_ : Nat) < _); (conv => whnf) <;> (first | exact cl2 | refine Br.dec (fun hc => absurd hc hno) (fun hc => ?_) | refine Sq.fz (id := 12) [(11, false)] ?_ | refine XAlt.l ?_ | refine Sq.pr ?_ | refine Br.dec (fun hc => ?_) (fun hc => ?_) | refine Br.tt ?_ | refine Br.ff ?_ | refine Br.not ?_ | refine Br.mk (fun hc => ?_) (fun hc => ?_) | refine Opt.nn ?_ | refine Opt.ss ?_ | refine AltA.l ?_ | exact PV.leL_nil | refine PV.leL_cons ?_ ?_ | refine And.intro ?_ ?_ | refine ix_map (fun x hx => ?_) | refine exU8 ?_ | refine nilc (fun hn => ?_) ?_ | exact cl3 | refine imp0 (fun hpos => ?_) | refine fits_i64 ?_ ?_ | exact rfl | exact trivial | (with_reducible first | show LeG _ _ | show Lp _ _ _ _ | show Exists _ | show callX _ _ _ _ _)))) <;> (try exact cl5)
      refine Wpc.loopA (α := {x : Nat × Bool × Int × Met // (1 ≤ x.1 ∧ x.1 ≤ 9) ∧ OkM x.2.2.2 ∧ (∀ p, inM x.2.2.2 p = true ↔ Rch S who x.1 p) ∧ Fd S who P x.1 x.2.1 x.2.2.1}) mixed [0, 1, 2, 3, 4, 10, 11, 13, 14, 15, 16, 18, 19, 20, 22, 23, 24, 25, 27, 34, 36, 37, 38, 39, 57, 63, 66, 67, 68, 69, 78, 83, 85, 90, 91, 92, 93, 110] (fun x => [(11, .p (.mp KTi (eM eI PV.bool x.1.2.2.2))), (14, .p (.bool x.1.2.1)), (15, .p (eI x.1.2.2.1)), (16, .p (eI x.1.1))]) (fun _ => []) (fun _ => 0) (fun x => 9 - x.1.1) ⟨(1, false, 0, M0), ⟨by omega, by omega⟩, hM0, hR0, Fd.ini S who P⟩ ?_ ?_
      · (first | refine Ent.ofA [] ?_ | refine Ent.ofC [] ?_) <;> (repeat' (first | exact trivial | refine HpLe.dd ?_ | refine HpLe.mk rfl (by simp) rfl (fun h => AObj.noConfusion h) ?_ ?_ | refine And.intro ?_ ?_ | exact cl9 | refine VLe.pe ?_ | refine VLe.agg ?_ | refine VLe.tup ?_ | refine VLe.fn ?_ ?_ | refine VLeL.cons ?_ ?_ | exact VLeL.nil | exact OLe.row _ _ | rfl | refine VLe.rsle rfl ?_ ?_ ?_ | refine OLe.rowe2 ?_ ?_ | refine OLe.mape ?_ ?_ | refine OLe.iter0 ?_ | refine OLe.itere ?_ ?_ | refine OLe.chane ?_ ?_ | refine OLe.mapSe ?_ ?_ ?_ | exact OLe.mapS0 rfl)) <;> try (first | (simp; done) | (congr 1; omega) | (congr 1; (first | (simp; done) | (simp; omega))))
      rintro ⟨⟨n, f, lng, M⟩, hn, hM, hR, hF⟩
      have hn : 1 ≤ n ∧ n ≤ 9 := hn
      have hM : OkM M := hM
      have hR : ∀ p, inM M p = true ↔ Rch S who n p := hR
      have hF : Fd S who P n f lng := hF
      by_cases h8 : n ≤ 8
      · have h8i : ((n : Int) ≤ 8) := by omega
        repeat' (first | exact cl1 | ((with_reducible show Exists _); first | exact exHM _ | refine exU8 ?_) | ((fail_if_success with_reducible first | show LeG _ _ | show Lp _ _ _ _ | show Exists _ | show callX _ _ _ _ _ | show (_ : Int) ≤ _ | show (_ : Int) < _ | show (_ : Nat) ≤ _ | show (_ : Nat) < _); (conv => whnf) <;> (first | exact cl2 | refine Br.dec (fun hc => ?_) (fun hc => absurd h8i hc) | refine XAlt.l ?_ | refine Sq.pr ?_ | refine Br.dec (fun hc => ?_) (fun hc => ?_) | refine Br.tt ?_ | refine Br.ff ?_ | refine Br.not ?_ | refine Br.mk (fun hc => ?_) (fun hc => ?_) | refine Opt.nn ?_ | refine Opt.ss ?_ | refine AltA.l ?_ | exact PV.leL_nil | refine PV.leL_cons ?_ ?_ | refine And.intro ?_ ?_ | refine ix_map (fun x hx => ?_) | refine exU8 ?_ | refine nilc (fun hn => ?_) ?_ | exact cl3 | refine imp0 (fun hpos => ?_) | refine fits_i64 ?_ ?_ | exact rfl | exact trivial | (with_reducible first | show LeG _ _ | show Lp _ _ _ _ | show Exists _ | show callX _ _ _ _ _)))) <;> (try exact cl5)
        refine Wpc.loopA (α := {j : Nat // j ≤ P.length}) mixed [0, 1, 2, 3, 4, 10, 11, 13, 14, 15, 16, 18, 19, 20, 22, 23, 24, 25, 27, 34, 36, 37, 38, 39, 57, 63, 66, 67, 68, 69, 78, 83, 85, 90, 91, 92, 93, 110] (fun j => [(14, .p (.bool (f || (P.take j.1).any (inM M)))), (15, .p (eI (if !f && (P.take j.1).any (inM M) then (n : Int) else lng))), (68, .p (eI j.1))]) (fun _ => []) (fun _ => 0) (fun j => P.length - j.1) ⟨0, by omega⟩ ?_ ?_
        · (first | refine Ent.ofA [] ?_ | refine Ent.ofC [] ?_) <;> (repeat' (first | exact trivial | refine HpLe.dd ?_ | refine HpLe.mk rfl (by simp) rfl (fun h => AObj.noConfusion h) ?_ ?_ | refine And.intro ?_ ?_ | exact cl9 | refine VLe.pe ?_ | refine VLe.agg ?_ | refine VLe.tup ?_ | refine VLe.fn ?_ ?_ | refine VLeL.cons ?_ ?_ | exact VLeL.nil | exact OLe.row _ _ | rfl | refine VLe.rsle rfl ?_ ?_ ?_ | refine OLe.rowe2 ?_ ?_ | refine OLe.mape ?_ ?_ | refine OLe.iter0 ?_ | refine OLe.itere ?_ ?_ | refine OLe.chane ?_ ?_ | refine OLe.mapSe ?_ ?_ ?_ | exact OLe.mapS0 rfl)) <;> try (first | (simp; done) | (congr 1; omega) | (congr 1; (first | (simp; done) | (simp; omega))))
          all_goals simp
        rintro ⟨j, hj⟩
        have hj : j ≤ P.length := hj
        cases hxj : P[j]? with
        | some z =>
          have hltj : j < P.length := (List.getElem?_eq_some_iff.1 hxj).1
          have hyj : ((j : Int) < ((P.map eI).length : Int)) := by rw [List.length_map]; omega
          have ea := any_take1 (p := inM M) hxj
          generalize ha : (P.take j).any (inM M) = a at *
          repeat' (first | exact cl1 | ((with_reducible show Exists _); first | exact exHM _ | refine exU8 ?_) | ((fail_if_success with_reducible first | show LeG _ _ | show Lp _ _ _ _ | show Exists _ | show callX _ _ _ _ _ | show (_ : Int) ≤ _ | show (_ : Int) < _ | show (_ : Nat) ≤ _ | show (_ : Nat) < _); (conv => whnf) <;> (first | exact cl2 | refine Br.dec (fun hc => ?_) (fun hc => absurd hyj hc) | refine ix_at hxj ?_ | refine Opt.of (mfind_map PV.bool keyI z M) (fun v hv => ?_) (fun hv => ?_) | refine XAlt.l ?_ | refine Sq.pr ?_ | refine Br.dec (fun hc => ?_) (fun hc => ?_) | refine Br.tt ?_ | refine Br.ff ?_ | refine Br.not ?_ | refine Br.mk (fun hc => ?_) (fun hc => ?_) | refine Opt.nn ?_ | refine Opt.ss ?_ | refine AltA.l ?_ | exact PV.leL_nil | refine PV.leL_cons ?_ ?_ | refine And.intro ?_ ?_ | refine ix_map (fun x hx => ?_) | refine exU8 ?_ | refine nilc (fun hn => ?_) ?_ | exact cl3 | refine imp0 (fun hpos => ?_) | refine fits_i64 ?_ ?_ | exact rfl | exact trivial | (with_reducible first | show LeG _ _ | show Lp _ _ _ _ | show Exists _ | show callX _ _ _ _ _)))) <;> (try exact cl5)
          all_goals first
          | (have hin : inM M z = v := by unfold inM; rw [hv]; rfl
             refine ⟨⟨j + 1, hltj⟩, by show P.length - (j + 1) < P.length - j; omega, ?_⟩
             show Ent _ _ (hdS _ _ _ _ [(14, .p (.bool (f || (P.take (j + 1)).any (inM M)))), (15, .p (eI (if !f && (P.take (j + 1)).any (inM M) then (n : Int) else lng))), (68, .p (eI ((j + 1 : Nat) : Int)))] [] 0)
             rw [ea, hin]
             (first | refine Ent.ofA [] ?_ | refine Ent.ofC [] ?_) <;> (repeat' (first | exact trivial | refine HpLe.dd ?_ | refine HpLe.mk rfl (by simp) rfl (fun h => AObj.noConfusion h) ?_ ?_ | refine And.intro ?_ ?_ | exact cl9 | refine VLe.pe ?_ | refine VLe.agg ?_ | refine VLe.tup ?_ | refine VLe.fn ?_ ?_ | refine VLeL.cons ?_ ?_ | exact VLeL.nil | exact OLe.row _ _ | rfl | refine VLe.rsle rfl ?_ ?_ ?_ | refine OLe.rowe2 ?_ ?_ | refine OLe.mape ?_ ?_ | refine OLe.iter0 ?_ | refine OLe.itere ?_ ?_ | refine OLe.chane ?_ ?_ | refine OLe.mapSe ?_ ?_ ?_ | exact OLe.mapS0 rfl)) <;> try (first | (simp; done) | (congr 1; omega) | (congr 1; (first | (simp; done) | (simp; omega))))
             all_goals first | (simp_all; done) | exact congrArg eI (upd1 f a v (n : Int) lng (by assumption) hc))
          | (have hin : inM M z = false := by unfold inM; rw [hv]; rfl
             refine ⟨⟨j + 1, hltj⟩, by show P.length - (j + 1) < P.length - j; omega, ?_⟩
             show Ent _ _ (hdS _ _ _ _ [(14, .p (.bool (f || (P.take (j + 1)).any (inM M)))), (15, .p (eI (if !f && (P.take (j + 1)).any (inM M) then (n : Int) else lng))), (68, .p (eI ((j + 1 : Nat) : Int)))] [] 0)
             rw [ea, hin]
             (first | refine Ent.ofA [] ?_ | refine Ent.ofC [] ?_) <;> (repeat' (first | exact trivial | refine HpLe.dd ?_ | refine HpLe.mk rfl (by simp) rfl (fun h => AObj.noConfusion h) ?_ ?_ | refine And.intro ?_ ?_ | exact cl9 | refine VLe.pe ?_ | refine VLe.agg ?_ | refine VLe.tup ?_ | refine VLe.fn ?_ ?_ | refine VLeL.cons ?_ ?_ | exact VLeL.nil | exact OLe.row _ _ | rfl | refine VLe.rsle rfl ?_ ?_ ?_ | refine OLe.rowe2 ?_ ?_ | refine OLe.mape ?_ ?_ | refine OLe.iter0 ?_ | refine OLe.itere ?_ ?_ | refine OLe.chane ?_ ?_ | refine OLe.mapSe ?_ ?_ ?_ | exact OLe.mapS0 rfl)) <;> try (first | (simp; done) | (congr 1; omega) | (congr 1; (first | (simp; done) | (simp; omega))))
             all_goals first | (simp_all; done) | exact congrArg eI (upd1 f a v (n : Int) lng (by assumption) hc))
          | trace_state
        | none =>
          have hgej : P.length ≤ j := List.getElem?_eq_none_iff.1 hxj
          have hnoj : ¬ ((j : Int) < ((P.map eI).length : Int)) := by rw [List.length_map]; omega
          have eT : P.take j = P := List.take_of_length_le hgej
          have hF2 := hF.step hn.1 hR
          repeat' (first | exact cl1 | ((with_reducible show Exists _); first | exact exHM _ | refine exU8 ?_) | ((fail_if_success with_reducible first | show LeG _ _ | show Lp _ _ _ _ | show Exists _ | show callX _ _ _ _ _ | show (_ : Int) ≤ _ | show (_ : Int) < _ | show (_ : Nat) ≤ _ | show (_ : Nat) < _); (conv => whnf) <;> (first | exact cl2 | refine Br.dec (fun hc => absurd hc hnoj) (fun hc => ?_) | refine XAlt.l ?_ | refine Sq.pr ?_ | refine Br.dec (fun hc => ?_) (fun hc => ?_) | refine Br.tt ?_ | refine Br.ff ?_ | refine Br.not ?_ | refine Br.mk (fun hc => ?_) (fun hc => ?_) | refine Opt.nn ?_ | refine Opt.ss ?_ | refine AltA.l ?_ | exact PV.leL_nil | refine PV.leL_cons ?_ ?_ | refine And.intro ?_ ?_ | refine ix_map (fun x hx => ?_) | refine exU8 ?_ | refine nilc (fun hn => ?_) ?_ | exact cl3 | refine imp0 (fun hpos => ?_) | refine fits_i64 ?_ ?_ | exact rfl | exact trivial | (with_reducible first | show LeG _ _ | show Lp _ _ _ _ | show Exists _ | show callX _ _ _ _ _)))) <;> (try exact cl5)
          have hF3 : Fd S who P (n + 1) (f || P.any (inM M)) (if !f && P.any (inM M) then (n : Int) else lng) := hF2
          refine Wpc.loopA (α := {x : Met × Met // (∀ y ∈ x.1, y ∈ M) ∧ OkM x.2 ∧ (∀ p, inM x.2 p = true → inM M p = true) ∧ ∀ y ∈ M, y ∈ x.1 ∨ inM x.2 y.1 = true}) mixed [0, 1, 2, 3, 4, 10, 11, 13, 14, 15, 16, 18, 19, 20, 22, 23, 24, 25, 27, 34, 36, 37, 38, 39, 57, 63, 66, 67, 68, 69, 78, 83, 85, 90, 91, 92, 93, 110] (fun _ => []) (fun x => [(1792, .iter (eM eI PV.bool x.1.1) none), (1600, .map KTi (eM eI PV.bool x.1.2))]) (fun _ => 0) (fun x => x.1.1.length) ⟨(M, []), fun y hy => hy, OkM.nil, fun p h => (by cases h), fun y hy => .inl hy⟩ ?_ ?_
          · (first | refine Ent.ofA [] ?_ | refine Ent.ofC [] ?_) <;> (repeat' (first | exact trivial | refine HpLe.dd ?_ | refine HpLe.mk rfl (by simp) rfl (fun h => AObj.noConfusion h) ?_ ?_ | refine And.intro ?_ ?_ | exact cl9 | refine VLe.pe ?_ | refine VLe.agg ?_ | refine VLe.tup ?_ | refine VLe.fn ?_ ?_ | refine VLeL.cons ?_ ?_ | exact VLeL.nil | exact OLe.row _ _ | rfl | refine VLe.rsle rfl ?_ ?_ ?_ | refine OLe.rowe2 ?_ ?_ | refine OLe.mape ?_ ?_ | refine OLe.iter0 ?_ | refine OLe.itere ?_ ?_ | refine OLe.chane ?_ ?_ | refine OLe.mapSe ?_ ?_ ?_ | exact OLe.mapS0 rfl)) <;> try (first | (simp; done) | (congr 1; omega) | (congr 1; (first | (simp; done) | (simp; omega))))
          rintro ⟨⟨RR, N⟩, hRM, hN, hNM, hcov⟩
          have hRM : ∀ y ∈ RR, y ∈ M := hRM
          have hN : OkM N := hN
          have hNM : ∀ p, inM N p = true → inM M p = true := hNM
          have hcov : ∀ y ∈ M, y ∈ RR ∨ inM N y.1 = true := hcov
          repeat' (first | exact cl1 | ((with_reducible show Exists _); first | exact exHM _ | refine exU8 ?_) | ((fail_if_success with_reducible first | show LeG _ _ | show Lp _ _ _ _ | show Exists _ | show callX _ _ _ _ _ | show (_ : Int) ≤ _ | show (_ : Int) < _ | show (_ : Nat) ≤ _ | show (_ : Nat) < _); (conv => whnf) <;> (first | exact cl2 | refine Nx.of (R := RR) (f := fun x => (eI x.1, PV.bool x.2)) (fun hRe => ?_) (fun c x hx => ?_) | refine XAlt.l ?_ | refine Sq.pr ?_ | refine Br.dec (fun hc => ?_) (fun hc => ?_) | refine Br.tt ?_ | refine Br.ff ?_ | refine Br.not ?_ | refine Br.mk (fun hc => ?_) (fun hc => ?_) | refine Opt.nn ?_ | refine Opt.ss ?_ | refine AltA.l ?_ | exact PV.leL_nil | refine PV.leL_cons ?_ ?_ | refine And.intro ?_ ?_ | refine ix_map (fun x hx => ?_) | refine exU8 ?_ | refine nilc (fun hn => ?_) ?_ | exact cl3 | refine imp0 (fun hpos => ?_) | refine fits_i64 ?_ ?_ | exact rfl | exact trivial | (with_reducible first | show LeG _ _ | show Lp _ _ _ _ | show Exists _ | show callX _ _ _ _ _)))) <;> (try exact cl5)
          rotate_left 1
          · have hlc := (List.getElem?_eq_some_iff.1 hx).1
            have hxM := hRM x (List.mem_of_getElem? hx)
            refine ⟨⟨(RR.eraseIdx c, aput x.1 true N), fun y hy => hRM y (List.mem_of_mem_eraseIdx hy), hN.put _, fun p hp => ?_, fun y hy => ?_⟩, by show (RR.eraseIdx c).length < RR.length; rw [List.length_eraseIdx_of_lt hlc]; omega, ?_⟩
            · rw [inM_put, Bool.or_eq_true] at hp
              rcases hp with hp | hp
              · rw [of_decide_eq_true hp]; exact hM.mem hxM
              · exact hNM p hp
            · rw [inM_put]
              rcases hcov y hy with h | h
              · obtain ⟨b, hb⟩ := List.getElem?_of_mem h
                by_cases hbc : b = c
                · subst hbc; rw [hx] at hb; injection hb with hb; subst hb
                  exact .inr (by simp)
                · exact .inl (List.mem_eraseIdx_iff_getElem?.2 ⟨b, hbc, hb⟩)
              · exact .inr (by rw [h]; simp)
            · (first | refine Ent.ofA [] ?_ | refine Ent.ofC [] ?_) <;> (repeat' (first | exact trivial | refine HpLe.dd ?_ | refine HpLe.mk rfl (by simp) rfl (fun h => AObj.noConfusion h) ?_ ?_ | refine And.intro ?_ ?_ | exact cl9 | refine VLe.pe ?_ | refine VLe.agg ?_ | refine VLe.tup ?_ | refine VLe.fn ?_ ?_ | refine VLeL.cons ?_ ?_ | exact VLeL.nil | exact OLe.row _ _ | rfl | refine VLe.rsle rfl ?_ ?_ ?_ | refine OLe.rowe2 ?_ ?_ | refine OLe.mape ?_ ?_ | refine OLe.iter0 ?_ | refine OLe.itere ?_ ?_ | refine OLe.chane ?_ ?_ | refine OLe.mapSe ?_ ?_ ?_ | exact OLe.mapS0 rfl)) <;> try (first | (simp; done) | (congr 1; omega) | (congr 1; (first | (simp; done) | (simp; omega))))
              all_goals (show mput (eI x.1) (.bool true) (eM eI PV.bool N) = eM eI PV.bool (aput x.1 true N); rw [mput_map PV.bool keyI])
          subst hRe
          have hNeq : ∀ p, inM N p = true ↔ inM M p = true := fun p => ⟨hNM p, fun h => by
            rcases hcov _ (inM_mem h) with g | g
            · cases g
            · exact g⟩
          refine Wpc.loopA (α := {j : Nat // j ≤ l.length}) mixed [0, 1, 2, 3, 4, 10, 11, 13, 14, 15, 16, 18, 19, 20, 22, 23, 24, 25, 27, 34, 36, 37, 38, 39, 57, 63, 66, 67, 68, 69, 78, 83, 85, 90, 91, 92, 93, 110] (fun j => [(92, .p (eI j.1))]) (fun j => [(1600, .map KTi (eM eI PV.bool (foldC (cd2 l M t k) (l.take j.1) N)))]) (fun _ => 0) (fun j => l.length - j.1) ⟨0, by omega⟩ ?_ ?_
          · (first | refine Ent.ofA [] ?_ | refine Ent.ofC [] ?_) <;> (repeat' (first | exact trivial | refine HpLe.dd ?_ | refine HpLe.mk rfl (by simp) rfl (fun h => AObj.noConfusion h) ?_ ?_ | refine And.intro ?_ ?_ | exact cl9 | refine VLe.pe ?_ | refine VLe.agg ?_ | refine VLe.tup ?_ | refine VLe.fn ?_ ?_ | refine VLeL.cons ?_ ?_ | exact VLeL.nil | exact OLe.row _ _ | rfl | refine VLe.rsle rfl ?_ ?_ ?_ | refine OLe.rowe2 ?_ ?_ | refine OLe.mape ?_ ?_ | refine OLe.iter0 ?_ | refine OLe.itere ?_ ?_ | refine OLe.chane ?_ ?_ | refine OLe.mapSe ?_ ?_ ?_ | exact OLe.mapS0 rfl)) <;> try (first | (simp; done) | (congr 1; omega) | (congr 1; (first | (simp; done) | (simp; omega))))
          rintro ⟨b, hb⟩
          have hb : b ≤ l.length := hb
          cases hxb : l[b]? with
          | some y =>
            have hltb : b < l.length := (List.getElem?_eq_some_iff.1 hxb).1
            have hyb : ((b : Int) < ((l.map eA).length : Int)) := by rw [List.length_map]; omega
            have q4 := stands_calls l y t k hl
            repeat' (first | exact cl1 | ((with_reducible show Exists _); first | exact exHM _ | refine exU8 ?_) | ((with_reducible show callX _ _ _ _ _); (first | refine call_p (q4) (by kernel_rfl) rfl ?_)) | ((fail_if_success with_reducible first | show LeG _ _ | show Lp _ _ _ _ | show Exists _ | show callX _ _ _ _ _ | show (_ : Int) ≤ _ | show (_ : Int) < _ | show (_ : Nat) ≤ _ | show (_ : Nat) < _); (conv => whnf) <;> (first | exact cl2 | refine Br.dec (fun hc => ?_) (fun hc => absurd hyb hc) | refine ix_at hxb ?_ | refine Opt.of (mfind_map PV.bool keyI y.person M) (fun v hv => ?_) (fun hv => ?_) | refine XAlt.l ?_ | refine Sq.pr ?_ | refine Br.dec (fun hc => ?_) (fun hc => ?_) | refine Br.tt ?_ | refine Br.ff ?_ | refine Br.not ?_ | refine Br.mk (fun hc => ?_) (fun hc => ?_) | refine Opt.nn ?_ | refine Opt.ss ?_ | refine AltA.l ?_ | exact PV.leL_nil | refine PV.leL_cons ?_ ?_ | refine And.intro ?_ ?_ | refine ix_map (fun x hx => ?_) | refine exU8 ?_ | refine nilc (fun hn => ?_) ?_ | exact cl3 | refine imp0 (fun hpos => ?_) | refine fits_i64 ?_ ?_ | exact rfl | exact trivial | (with_reducible first | show LeG _ _ | show Lp _ _ _ _ | show Exists _ | show callX _ _ _ _ _)))) <;> (try exact cl5)
            all_goals first
            | (have hs1 : cd2 l M t k y = true := by simp_all [cd2, inM]
               refine ⟨⟨b + 1, hltb⟩, by show l.length - (b + 1) < l.length - b; omega, ?_⟩
               (first | refine Ent.ofA [] ?_ | refine Ent.ofC [] ?_) <;> (repeat' (first | exact trivial | refine HpLe.dd ?_ | refine HpLe.mk rfl (by simp) rfl (fun h => AObj.noConfusion h) ?_ ?_ | refine And.intro ?_ ?_ | exact cl9 | refine VLe.pe ?_ | refine VLe.agg ?_ | refine VLe.tup ?_ | refine VLe.fn ?_ ?_ | refine VLeL.cons ?_ ?_ | exact VLeL.nil | exact OLe.row _ _ | rfl | refine VLe.rsle rfl ?_ ?_ ?_ | refine OLe.rowe2 ?_ ?_ | refine OLe.mape ?_ ?_ | refine OLe.iter0 ?_ | refine OLe.itere ?_ ?_ | refine OLe.chane ?_ ?_ | refine OLe.mapSe ?_ ?_ ?_ | exact OLe.mapS0 rfl)) <;> try (first | (simp; done) | (congr 1; omega) | (congr 1; (first | (simp; done) | (simp; omega))))
               show mput (eI y.party) (.bool true) (eM eI PV.bool (foldC (cd2 l M t k) (l.take b) N)) = eM eI PV.bool (foldC (cd2 l M t k) (l.take (b + 1)) N)
               rw [foldC_take hxb, if_pos hs1, mput_map PV.bool keyI])
            | (have hs1 : cd2 l M t k y = false := by simp_all [cd2, inM]
               refine ⟨⟨b + 1, hltb⟩, by show l.length - (b + 1) < l.length - b; omega, ?_⟩
               (first | refine Ent.ofA [] ?_ | refine Ent.ofC [] ?_) <;> (repeat' (first | exact trivial | refine HpLe.dd ?_ | refine HpLe.mk rfl (by simp) rfl (fun h => AObj.noConfusion h) ?_ ?_ | refine And.intro ?_ ?_ | exact cl9 | refine VLe.pe ?_ | refine VLe.agg ?_ | refine VLe.tup ?_ | refine VLe.fn ?_ ?_ | refine VLeL.cons ?_ ?_ | exact VLeL.nil | exact OLe.row _ _ | rfl | refine VLe.rsle rfl ?_ ?_ ?_ | refine OLe.rowe2 ?_ ?_ | refine OLe.mape ?_ ?_ | refine OLe.iter0 ?_ | refine OLe.itere ?_ ?_ | refine OLe.chane ?_ ?_ | refine OLe.mapSe ?_ ?_ ?_ | exact OLe.mapS0 rfl)) <;> try (first | (simp; done) | (congr 1; omega) | (congr 1; (first | (simp; done) | (simp; omega))))
               show eM eI PV.bool (foldC (cd2 l M t k) (l.take b) N) = eM eI PV.bool (foldC (cd2 l M t k) (l.take (b + 1)) N)
               rw [foldC_take hxb, if_neg (by rw [hs1]; exact Bool.false_ne_true)])
            | trace_state
          | none =>
            have hgeb : l.length ≤ b := List.getElem?_eq_none_iff.1 hxb
            have hnob : ¬ ((b : Int) < ((l.map eA).length : Int)) := by rw [List.length_map]; omega
            have eB : l.take b = l := List.take_of_length_le hgeb
            have hokN := foldC_ok (c := cd2 l M t k) l hN
            have hRN := rch_succ (who := who) hs hst hn.1 hR hNeq
            repeat' (first | exact cl1 | ((with_reducible show Exists _); first | exact exHM _ | refine exU8 ?_) | ((fail_if_success with_reducible first | show LeG _ _ | show Lp _ _ _ _ | show Exists _ | show callX _ _ _ _ _ | show (_ : Int) ≤ _ | show (_ : Int) < _ | show (_ : Nat) ≤ _ | show (_ : Nat) < _); (conv => whnf) <;> (first | exact cl2 | refine Br.dec (fun hc => absurd hc hnob) (fun hc => ?_) | refine Sq.fz (id := 34) [(19, false)] ?_ | refine XAlt.l ?_ | refine Sq.pr ?_ | refine Br.dec (fun hc => ?_) (fun hc => ?_) | refine Br.tt ?_ | refine Br.ff ?_ | refine Br.not ?_ | refine Br.mk (fun hc => ?_) (fun hc => ?_) | refine Opt.nn ?_ | refine Opt.ss ?_ | refine AltA.l ?_ | exact PV.leL_nil | refine PV.leL_cons ?_ ?_ | refine And.intro ?_ ?_ | refine ix_map (fun x hx => ?_) | refine exU8 ?_ | refine nilc (fun hn => ?_) ?_ | exact cl3 | refine imp0 (fun hpos => ?_) | refine fits_i64 ?_ ?_ | exact rfl | exact trivial | (with_reducible first | show LeG _ _ | show Lp _ _ _ _ | show Exists _ | show callX _ _ _ _ _)))) <;> (try exact cl5)
            refine ⟨⟨(n + 1, (f || P.any (inM M)), (if !f && P.any (inM M) then (n : Int) else lng), foldC (cd2 l M t k) l N), ⟨by omega, by omega⟩, hokN, hRN, hF3⟩, by show 9 - (n + 1) < 9 - n; omega, ?_⟩
            (first | refine Ent.ofA [] ?_ | refine Ent.ofC [] ?_) <;> (repeat' (first | exact trivial | refine HpLe.dd ?_ | refine HpLe.mk rfl (by simp) rfl (fun h => AObj.noConfusion h) ?_ ?_ | refine And.intro ?_ ?_ | exact cl9 | refine VLe.pe ?_ | refine VLe.agg ?_ | refine VLe.tup ?_ | refine VLe.fn ?_ ?_ | refine VLeL.cons ?_ ?_ | exact VLeL.nil | exact OLe.row _ _ | rfl | refine VLe.rsle rfl ?_ ?_ ?_ | refine OLe.rowe2 ?_ ?_ | refine OLe.mape ?_ ?_ | refine OLe.iter0 ?_ | refine OLe.itere ?_ ?_ | refine OLe.chane ?_ ?_ | refine OLe.mapSe ?_ ?_ ?_ | exact OLe.mapS0 rfl)) <;> try (first | (simp; done) | (congr 1; omega) | (congr 1; (first | (simp; done) | (simp; omega))))
            all_goals first
            | (show PV.mp KTi (eM eI PV.bool (foldC (cd2 l M t k) (l.take b) N)) = PV.mp KTi (eM eI PV.bool (foldC (cd2 l M t k) l N)); rw [eB])
            | (show PV.bool (f || (P.take j).any (inM M)) = PV.bool (f || P.any (inM M)); rw [eT])
            | (show eI (if (!f && (P.take j).any (inM M)) = true then (n : Int) else lng) = eI (if (!f && P.any (inM M)) = true then (n : Int) else lng); rw [eT])
            | trace_state
      · have hn9 : n = 9 := by omega
        subst hn9
        obtain ⟨e1, e2⟩ := hF.fin R
        obtain ⟨own, ok⟩ := c
        have e1 : ok = f := e1
        have e2 : (own.length : Int) = lng := e2
        subst e1; subst e2
        have h8i : ¬ ((9 : Int) ≤ 8) := by omega
        repeat' (first | exact cl1 | ((with_reducible show Exists _); first | exact exHM _ | refine exU8 ?_) | ((with_reducible show callX _ _ _ _ _); (first | refine call_p (q1) (by kernel_rfl) rfl ?_)) | ((fail_if_success with_reducible first | show LeG _ _ | show Lp _ _ _ _ | show Exists _ | show callX _ _ _ _ _ | show (_ : Int) ≤ _ | show (_ : Int) < _ | show (_ : Nat) ≤ _ | show (_ : Nat) < _); (conv => whnf) <;> (first | exact cl2 | refine Br.dec (fun hc => absurd hc h8i) (fun hc => ?_) | refine XAlt.l ?_ | refine Sq.pr ?_ | refine Br.dec (fun hc => ?_) (fun hc => ?_) | refine Br.tt ?_ | refine Br.ff ?_ | refine Br.not ?_ | refine Br.mk (fun hc => ?_) (fun hc => ?_) | refine Opt.nn ?_ | refine Opt.ss ?_ | refine AltA.l ?_ | exact PV.leL_nil | refine PV.leL_cons ?_ ?_ | refine And.intro ?_ ?_ | refine ix_map (fun x hx => ?_) | refine exU8 ?_ | refine nilc (fun hn => ?_) ?_ | exact cl3 | refine imp0 (fun hpos => ?_) | refine fits_i64 ?_ ?_ | exact rfl | exact trivial | (with_reducible first | show LeG _ _ | show Lp _ _ _ _ | show Exists _ | show callX _ _ _ _ _)))) <;> (try exact cl5)
        all_goals first
        | (refine LeG.bool ?_; simp; done)
        | (exfalso; simp_all; done)
        | trace_state
end Go.Proofs.Ythlpjjnfcpjgoaa
