/- A part of the proof: contracts of the functions that the statement reaches. -/
import Derived.Test.YthlpjjnfcpjgoaaChp1
set_option linter.unusedSimpArgs false
set_option linter.unusedVariables false
set_option linter.unnecessarySimpa false
namespace Go.Proofs.Ythlpjjnfcpjgoaa
open Go Go.Sg
set_option maxRecDepth 100000
set_option maxHeartbeats 4000000
theorem right_no {x : It} (h : rightA x = true) : 0 ≤ x.no := by
  unfold rightA wiB at h
  simp only [Bool.and_eq_true, decide_eq_true_eq] at h
  exact h.1.1.1.1.1
theorem chkA_of {l : List It} (h1 : l.length ≤ 4096) (h2 : ∀ x ∈ l, rightA x = true) (h3 : l.Pairwise (fun a b => It.no a < It.no b)) : chkA l = 0 :=
  chkL_ok rightA It.no (by omega) ((okFrom_iff rightA It.no _ _).2 ⟨fun x hx => ⟨h2 x hx, by have := right_no (h2 x hx); omega⟩, h3⟩)
theorem chkA_filter {l : List It} (p : It → Bool) (h : chkA l = 0) : chkA (l.filter p) = 0 := by
  obtain ⟨h1, h2, h3⟩ := chkA_srt h
  exact chkA_of (by have := List.length_filter_le p l; omega) (fun x hx => h2 x (List.mem_filter.1 hx).1) (h3.sublist List.filter_sublist)
theorem stL_later {l : List It} {t k : Int} (ht : 0 ≤ t) (hk : 0 ≤ k) (hz : chkA l = 0) : stL t k (l.filter (cntA t k)) = stL t k l := by
  rw [← stL_eq ht hk hz, ← stL_eq ht hk (chkA_filter _ hz), List.filter_filter]
  refine List.filter_congr fun x hx => ?_
  have hany : (l.filter (cntA t k)).any (badB t k x) = l.any (badB t k x) := by
    rw [Bool.eq_iff_iff, List.any_eq_true, List.any_eq_true]
    constructor
    · rintro ⟨z, hz, h⟩; exact ⟨z, (List.mem_filter.1 hz).1, h⟩
    · rintro ⟨z, hz, h⟩; exact ⟨z, List.mem_filter.2 ⟨hz, ((badB_iff t k x z).1 h).1⟩, h⟩
  unfold stR
  rw [hany]
  cases cntA t k x <;> simp
theorem exam_ok {l : List It} {who : Int} {P : List Int} {t k : Int} (h1 : chkA l = 0) (h2 : argB who P t k = true) : examA l who P t k = 0 := by
  unfold examA; rw [if_pos h1, if_pos h2]
theorem conF_nil {S : List It} (hs : S.Pairwise (fun a b => a.no < b.no)) (who : Int) : (conF S [] who).2 = false := by
  cases h : (conF S [] who).2 with
  | false => rfl
  | true =>
    obtain ⟨⟨p, _, h2⟩, _⟩ := (conF_res hs who []).yes h
    cases h2
/-! ### One more party -/
def lastLt (m : Int) (w : List Int) : Bool := match w.getLast? with
  | none => true
  | some y => decide (y < m)
def stepW (m : Int) (w : List Int) (p : Int) : List Int := (if decide (m < p) && lastLt m w then w ++ [m] else w) ++ [p]
def wideL (m : Int) (P : List Int) : List Int := P.foldl (stepW m) []
def wideF (m : Int) (P : List Int) : List Int := if lastLt m (wideL m P) then wideL m P ++ [m] else wideL m P
theorem lastLt_all {m : Int} {w : List Int} (hw : w.Pairwise (· < ·)) (h : lastLt m w = true) : ∀ a ∈ w, a < m := by
  rcases List.eq_nil_or_concat w with rfl | ⟨v, y, rfl⟩
  · intro a ha; cases ha
  · rw [List.concat_eq_append] at *
    unfold lastLt at h
    rw [List.getLast?_append] at h
    have h : y < m := of_decide_eq_true h
    intro a ha
    rcases List.mem_append.1 ha with ha | ha
    · have := (List.pairwise_append.1 hw).2.2 a ha y (by simp); omega
    · simp at ha; omega
structure WI (Q w : List Int) : Prop where
  srt : w.Pairwise (· < ·)
  rng : ∀ a ∈ w, 0 ≤ a ∧ a ≤ 1048576
  sub : ∀ q ∈ Q, q ∈ w
  bnd : ∀ a ∈ w, ∃ q ∈ Q, a ≤ q
theorem pw_app {w : List Int} {x : Int} (h : w.Pairwise (· < ·)) (hx : ∀ a ∈ w, a < x) : (w ++ [x]).Pairwise (· < ·) :=
  List.pairwise_append.2 ⟨h, by simp, fun a ha b hb => by simp at hb; subst hb; exact hx a ha⟩
theorem WI.step {m : Int} (hm : 0 ≤ m ∧ m ≤ 255) {Q w : List Int} (h : WI Q w) {p : Int} (hp : 0 ≤ p ∧ p ≤ 1048576) (hQ : ∀ q ∈ Q, q < p) : WI (Q ++ [p]) (stepW m w p) := by
  have hlt : ∀ a ∈ w, a < p := fun a ha => by
    obtain ⟨q, hq, h1⟩ := h.bnd a ha
    have := hQ q hq; omega
  unfold stepW
  cases hc : (decide (m < p) && lastLt m w) with
  | true =>
    simp only [Bool.and_eq_true, decide_eq_true_eq] at hc
    rw [if_pos rfl]
    refine ⟨pw_app (pw_app h.srt (lastLt_all h.srt hc.2)) (fun a ha => ?_), fun a ha => ?_, fun q hq => ?_, fun a ha => ?_⟩
    · rcases List.mem_append.1 ha with ha | ha
      · exact hlt a ha
      · simp at ha; omega
    · rcases List.mem_append.1 ha with ha | ha
      · rcases List.mem_append.1 ha with ha | ha
        · exact h.rng a ha
        · simp at ha; omega
      · simp at ha; omega
    · rcases List.mem_append.1 hq with hq | hq
      · exact List.mem_append_left _ (List.mem_append_left _ (h.sub q hq))
      · exact List.mem_append_right _ hq
    · refine ⟨p, by simp, ?_⟩
      rcases List.mem_append.1 ha with ha | ha
      · rcases List.mem_append.1 ha with ha | ha
        · have := hlt a ha; omega
        · simp at ha; omega
      · simp at ha; omega
  | false =>
    rw [if_neg Bool.false_ne_true]
    refine ⟨pw_app h.srt hlt, fun a ha => ?_, fun q hq => ?_, fun a ha => ?_⟩
    · rcases List.mem_append.1 ha with ha | ha
      · exact h.rng a ha
      · simp at ha; omega
    · rcases List.mem_append.1 hq with hq | hq
      · exact List.mem_append_left _ (h.sub q hq)
      · exact List.mem_append_right _ hq
    · refine ⟨p, by simp, ?_⟩
      rcases List.mem_append.1 ha with ha | ha
      · have := hlt a ha; omega
      · simp at ha; omega
theorem WI.fold {m : Int} (hm : 0 ≤ m ∧ m ≤ 255) : ∀ (r Q w : List Int), WI Q w → (∀ p ∈ r, 0 ≤ p ∧ p ≤ 1048576) → (Q ++ r).Pairwise (· < ·) → WI (Q ++ r) (r.foldl (stepW m) w)
  | [], Q, w, h, _, _ => by rw [List.append_nil]; exact h
  | p :: r, Q, w, h, hr, hs => by
    have e : Q ++ p :: r = (Q ++ [p]) ++ r := by simp
    rw [e] at hs ⊢
    have hs2 := List.pairwise_append.1 hs
    have hq := (List.pairwise_append.1 hs2.1).2.2
    exact WI.fold hm r (Q ++ [p]) (stepW m w p) (h.step hm (hr p (by simp)) (fun q hq' => hq q hq' p (by simp))) (fun x hx => hr x (List.mem_cons_of_mem _ hx)) hs
theorem okP_iff {P : List Int} : okP P = true ↔ (∀ p ∈ P, 0 ≤ p ∧ p ≤ 1048576) ∧ P.Pairwise (· < ·) := by
  unfold okP
  rw [okFrom_iff]
  constructor
  · rintro ⟨h1, h2⟩
    refine ⟨fun p hp => ?_, h2⟩
    have := (h1 p hp).1
    unfold wiB at this
    simp only [Bool.and_eq_true, decide_eq_true_eq] at this
    omega
  · rintro ⟨h1, h2⟩
    refine ⟨fun p hp => ?_, h2⟩
    have := h1 p hp
    refine ⟨?_, by show (-1 : Int) < p; omega⟩
    unfold wiB
    rw [decide_eq_true this.1, decide_eq_true (by omega)]; rfl
theorem wide_ok {m : Int} (hm : 0 ≤ m ∧ m ≤ 255) {P : List Int} (h : okP P = true) : okP (wideF m P) = true ∧ ∀ p ∈ P, p ∈ wideF m P := by
  obtain ⟨h1, h2⟩ := okP_iff.1 h
  have W := WI.fold hm P [] [] ⟨List.Pairwise.nil, fun a ha => (by cases ha), fun a ha => (by cases ha), fun a ha => (by cases ha)⟩ h1 h2
  rw [List.nil_append] at W
  have W : WI P (wideL m P) := W
  unfold wideF
  cases hl : lastLt m (wideL m P) with
  | true =>
    rw [if_pos rfl]
    refine ⟨okP_iff.2 ⟨fun a ha => ?_, pw_app W.srt (lastLt_all W.srt hl)⟩, fun p hp => List.mem_append_left _ (W.sub p hp)⟩
    rcases List.mem_append.1 ha with ha | ha
    · exact W.rng a ha
    · simp at ha; omega
  | false =>
    rw [if_neg Bool.false_ne_true]
    exact ⟨okP_iff.2 ⟨W.rng, W.srt⟩, W.sub⟩
theorem wideL_take {m : Int} {P : List Int} {i : Nat} {p : Int} (h : P[i]? = some p) : wideL m (P.take (i + 1)) = stepW m (wideL m (P.take i)) p := by
  unfold wideL; rw [List.take_add_one, h]; simp [List.foldl_append]
theorem stepW_len (m : Int) (w : List Int) (p : Int) : w.length + 1 ≤ (stepW m w p).length ∧ (stepW m w p).length ≤ w.length + 2 := by
  unfold stepW; split <;> simp
theorem wideL_len (m : Int) : ∀ (P w : List Int), w.length ≤ (P.foldl (stepW m) w).length ∧ (P.foldl (stepW m) w).length ≤ w.length + 2 * P.length
  | [], w => by simp
  | p :: P, w => by
    have h1 := stepW_len m w p
    have h2 := wideL_len m P (stepW m w p)
    simp only [List.foldl_cons, List.length_cons]; omega
/-- With more parties there is no less conflict. -/
theorem wide_law {S : List It} (hs : S.Pairwise (fun a b => a.no < b.no)) {who : Int} {P W : List Int} (hsub : ∀ p ∈ P, p ∈ W) (h : (conF S P who).2 = true) : (conF S W who).2 = true ∧ befB (conF S P who).1 (conF S W who).1 = false := by
  obtain ⟨⟨p, h1, h2⟩, h3, h4, _⟩ := (conF_res hs who P).yes h
  have hw : hasB W p = true := by
    unfold hasB at h2 ⊢
    rw [List.any_eq_true] at h2 ⊢
    obtain ⟨x, hx, e⟩ := h2
    exact ⟨x, hsub x hx, e⟩
  have R := conF_res hs who W
  cases hc : (conF S W who).2 with
  | false => have := (R.no hc).2 _ p h1 h3 h4; rw [hw] at this; cases this
  | true => exact ⟨rfl, (R.yes hc).2.2.2 _ p h1 h3 h4 hw⟩
end Go.Proofs.Ythlpjjnfcpjgoaa

namespace Go.Proofs.Ythlpjjnfcpjgoaa
open Go Go.Sg
set_option maxRecDepth 100000
theorem fixA (g p W : Int) (gr : List Int) : List.map eI (g :: gr) ++ List.take 1 (List.drop 0 [PV.int .i64 W]) ++ List.take 1 (List.drop 0 [eI p]) = List.map eI (g :: (gr.append [W]).append [p]) := by
  show List.map eI (g :: gr) ++ [eI W] ++ [eI p] = List.map eI (g :: ((gr ++ [W]) ++ [p]))
  simp
theorem fixB (g W : Int) (gr : List Int) : (PV.sl 1 false (List.take (gr.length + 1 + 1) (List.drop 0 (List.map eI (g :: gr) ++ List.take 1 (List.drop 0 [PV.int .i64 W]))))).le (eIs (g :: gr ++ [W])) := by
  refine PV.le_of (congrArg (PV.sl 1 false) ?_)
  show List.take (gr.length + 1 + 1) (List.drop 0 (List.map eI (g :: gr) ++ [eI W])) = List.map eI (g :: gr ++ [W])
  rw [List.drop_zero, List.take_of_length_le (by simp), List.map_append]
  rfl
theorem fixC (g : Int) (gr : List Int) : (PV.sl 1 false (List.take (gr.length + 1) (List.drop 0 (List.map eI (g :: gr))))).le (eIs (g :: gr)) := by
  refine PV.le_of (congrArg (PV.sl 1 false) ?_)
  rw [List.drop_zero, List.take_of_length_le (by simp)]
end Go.Proofs.Ythlpjjnfcpjgoaa

namespace Go.Proofs.Ythlpjjnfcpjgoaa
open Go Go.Sg
set_option maxRecDepth 100000
set_option maxHeartbeats 20000000
def outV (n : Nat) : List It → AV
  | [] => .p (.sl 0 true [])
  | a :: r => .rsl n 7 0 (r.length + 1)
def outH (n : Nat) : List It → Heap
  | [] => []
  | a :: r => [(n, .row 7 ((a :: r).map eA))]
def outVI (n : Nat) : List Int → AV
  | [] => .p (.sl 0 true [])
  | a :: r => .rsl n 1 0 (r.length + 1)
def outHI (n : Nat) : List Int → Heap
  | [] => []
  | a :: r => [(n, .row 1 ((a :: r).map eI))]
theorem filter_take2 {p : It → Bool} {l : List It} {i : Nat} {x : It} (h : l[i]? = some x) : (l.take (i + 1)).filter p = (l.take i).filter p ++ if p x then [x] else [] := by
  rw [List.take_add_one, h, List.filter_append]; congr 1
  cases hp : p x <;> simp [hp]
theorem wrap_small {s : Int} (h : 0 ≤ s ∧ s ≤ 1125899906842624) : IntKind.i64.wrap s = s := by
  exact fits_i64 (by omega) (by omega)
theorem last_ix {g : Int} {gr : List Int} : ∃ y, (g :: gr).getLast? = some y ∧ (g :: gr)[0 + (((gr.length + 1 : Nat) : Int) - 1).toNat]? = some y := by
  refine ⟨(g :: gr).getLast (by simp), List.getLast?_eq_some_getLast (by simp), ?_⟩
  rw [show 0 + (((gr.length + 1 : Nat) : Int) - 1).toNat = (g :: gr).length - 1 by simp, ← List.getLast?_eq_getElem?]
  exact List.getLast?_eq_some_getLast (by simp)
theorem later_calls (l : List It) (who : Int) (P : List Int) (t k m : Int) (hPU : P.length < 140737488355328) (hm : 0 ≤ m ∧ m ≤ 255) : PCalls Try.prog 7 [eL l, eI who, eIs P, eI t, eI k, .int .u8 m] (.bool true) := by
  have hmw : 0 ≤ IntKind.i64.wrap m ∧ IntKind.i64.wrap m ≤ 255 := by rw [wrap_small ⟨hm.1, by omega⟩]; exact hm
  have q0 := lright_calls l who P t k hPU
  cases hr : rightL l who P t k with
  | false =>
    rw [hr] at q0
    refine PCalls.of (N := 197) (res := [.tmp 12]) mixed Try.func7 rfl rfl rfl (by kernel_rfl) (by simp) [0, 1, 2, 3, 4, 5, 12, 13, 15, 16, 17, 18, 19, 20, 21, 23, 24, 25, 27, 28, 29, 30, 32, 39, 40, 41, 42, 43, 55, 113, 114, 115, 116, 117, 139, 163, 171] ?_
    repeat' (first | exact cl1 | ((with_reducible show Exists _); first | exact exHM _ | refine exU8 ?_) | ((with_reducible show callX _ _ _ _ _); (first | refine call_p (sane_calls) (by kernel_rfl) rfl ?_ | refine call_p (q0) (by kernel_rfl) rfl ?_)) | ((fail_if_success with_reducible first | show LeG _ _ | show Lp _ _ _ _ | show Exists _ | show callX _ _ _ _ _ | show (_ : Int) ≤ _ | show (_ : Int) < _ | show (_ : Nat) ≤ _ | show (_ : Nat) < _); (conv => whnf) <;> (first | exact cl2 | refine XAlt.l ?_ | refine Sq.pr ?_ | refine Br.dec (fun hc => ?_) (fun hc => ?_) | refine Br.tt ?_ | refine Br.ff ?_ | refine Br.not ?_ | refine Br.mk (fun hc => ?_) (fun hc => ?_) | refine Opt.nn ?_ | refine Opt.ss ?_ | refine AltA.l ?_ | exact PV.leL_nil | refine PV.leL_cons ?_ ?_ | refine And.intro ?_ ?_ | refine ix_map (fun x hx => ?_) | refine exU8 ?_ | refine nilc (fun hn => ?_) ?_ | exact cl3 | refine imp0 (fun hpos => ?_) | refine fits_i64 ?_ ?_ | exact rfl | exact trivial | (with_reducible first | show LeG _ _ | show Lp _ _ _ _ | show Exists _ | show callX _ _ _ _ _)))) <;> (try exact cl5)
  | true =>
    rw [hr] at q0
    obtain ⟨hl40, hz, hP16⟩ := rightL_ok hr
    have hl : l.length < 1000000 := by omega
    have hP : P.length < 1000000 := by omega
    obtain ⟨hchk, harg⟩ := examA_ok hz
    have htk : 0 ≤ t ∧ 0 ≤ k := by
      unfold argB wiB at harg
      simp only [Bool.and_eq_true, decide_eq_true_eq] at harg
      omega
    have hargW : ∀ W : List Int, okP W = true → W.length ≤ 16 → argB who W t k = true := fun W h1 h2 => by
      unfold argB at harg ⊢
      simp only [Bool.and_eq_true, decide_eq_true_eq] at harg ⊢
      exact ⟨⟨⟨⟨h1, h2⟩, harg.1.1.2⟩, harg.1.2⟩, harg.2⟩
    have hs := stL_srt (t := t) (k := k) hchk
    have hQ : ∀ W : List Int, okP W = true → W.length ≤ 16 → PCalls Try.prog 16 [eL l, eI who, eIs W, eI t, eI k] (eC ((conF (stL t k l) W who).1, (conF (stL t k l) W who).2, 0)) := fun W h1 h2 => by
      have q := conflict_calls l who W t k hl (by omega)
      unfold conA at q
      rwa [if_pos (exam_ok hchk (hargW W h1 h2))] at q
    have q1 := hQ P (argB_ok harg).1 hP16
    have q2 := conflict_calls (l.filter (cntA t k)) who P t k (by have := List.length_filter_le (cntA t k) l; omega) hP
    unfold conA at q2
    rw [if_pos (exam_ok (chkA_filter _ hchk) harg), stL_later htk.1 htk.2 hchk] at q2
    have q3 := hQ [] rfl (by decide)
    have hn3 := conF_nil hs who
    rw [hn3] at q3
    have hlen := conF_len (stL t k l) P who
    have q5 := sameI_calls (conF (stL t k l) P who).1 (conF (stL t k l) P who).1 (by omega)
    rw [decide_eq_true rfl] at q5
    obtain ⟨hW1, hW2⟩ := wide_ok hmw (argB_ok harg).1
    have hlaw : (conF (stL t k l) P who).2 = true → (conF (stL t k l) (wideF (IntKind.i64.wrap m) P) who).2 = true ∧ befB (conF (stL t k l) P who).1 (conF (stL t k l) (wideF (IntKind.i64.wrap m) P) who).1 = false := wide_law hs hW2
    have q8 := hQ (wideF (IntKind.i64.wrap m) P) hW1
    have q9 := before_calls (conF (stL t k l) P who).1 (conF (stL t k l) (wideF (IntKind.i64.wrap m) P) who).1 (by omega)
    generalize conF (stL t k l) P who = c at *
    generalize conF (stL t k l) (wideF (IntKind.i64.wrap m) P) who = cw at *
    generalize (conF (stL t k l) [] who).1 = cn at *
    obtain ⟨own, ok⟩ := c
    obtain ⟨ow, okw⟩ := cw
    refine PCalls.of (N := 197) (res := [.tmp 12]) mixed Try.func7 rfl rfl rfl (by kernel_rfl) (by simp) [0, 1, 2, 3, 4, 5, 12, 13, 15, 16, 17, 18, 19, 20, 21, 23, 24, 25, 27, 28, 29, 30, 32, 39, 40, 41, 42, 43, 55, 113, 114, 115, 116, 117, 139, 163, 171] ?_
    repeat' (first | exact cl1 | ((with_reducible show Exists _); first | exact exHM _ | refine exU8 ?_) | ((with_reducible show callX _ _ _ _ _); (first | refine call_p (sane_calls) (by kernel_rfl) rfl ?_ | refine call_p (q0) (by kernel_rfl) rfl ?_)) | ((fail_if_success with_reducible first | show LeG _ _ | show Lp _ _ _ _ | show Exists _ | show callX _ _ _ _ _ | show (_ : Int) ≤ _ | show (_ : Int) < _ | show (_ : Nat) ≤ _ | show (_ : Nat) < _); (conv => whnf) <;> (first | exact cl2 | refine XAlt.l ?_ | refine Sq.pr ?_ | refine Br.dec (fun hc => ?_) (fun hc => ?_) | refine Br.tt ?_ | refine Br.ff ?_ | refine Br.not ?_ | refine Br.mk (fun hc => ?_) (fun hc => ?_) | refine Opt.nn ?_ | refine Opt.ss ?_ | refine AltA.l ?_ | exact PV.leL_nil | refine PV.leL_cons ?_ ?_ | refine And.intro ?_ ?_ | refine ix_map (fun x hx => ?_) | refine exU8 ?_ | refine nilc (fun hn => ?_) ?_ | exact cl3 | refine imp0 (fun hpos => ?_) | refine fits_i64 ?_ ?_ | exact rfl | exact trivial | (with_reducible first | show LeG _ _ | show Lp _ _ _ _ | show Exists _ | show callX _ _ _ _ _)))) <;> (try exact cl5)
    refine Wpc.loopA (α := {i : Nat // i ≤ l.length}) mixed [0, 1, 2, 3, 4, 5, 12, 13, 15, 16, 17, 18, 19, 20, 21, 23, 24, 25, 27, 28, 29, 30, 32, 39, 40, 41, 42, 43, 55, 113, 114, 115, 116, 117, 139, 163, 171] (fun i => [(13, outV 1 ((l.take i.1).filter (cntA t k))), (42, .p (eI i.1))]) (fun i => outH 1 ((l.take i.1).filter (cntA t k))) (fun _ => 0) (fun i => l.length - i.1) ⟨0, by omega⟩ ?_ ?_
    · (first | refine Ent.ofA [] ?_ | refine Ent.ofC [] ?_) <;> (repeat' (first | exact trivial | refine HpLe.dd ?_ | refine HpLe.mk rfl (by simp) rfl (fun h => AObj.noConfusion h) ?_ ?_ | refine And.intro ?_ ?_ | exact cl9 | refine VLe.pe ?_ | refine VLe.agg ?_ | refine VLe.tup ?_ | refine VLe.fn ?_ ?_ | refine VLeL.cons ?_ ?_ | exact VLeL.nil | exact OLe.row _ _ | rfl | refine VLe.rsle rfl ?_ ?_ ?_ | refine OLe.rowe2 ?_ ?_ | refine OLe.mape ?_ ?_ | refine OLe.iter0 ?_ | refine OLe.itere ?_ ?_ | refine OLe.chane ?_ ?_ | refine OLe.mapSe ?_ ?_ ?_ | exact OLe.mapS0 rfl)) <;> try (first | (simp; done) | (congr 1; omega) | (congr 1; (first | (simp; done) | (simp; omega))))
    rintro ⟨i, hi⟩
    have hi : i ≤ l.length := hi
    have hgl : ((l.take i).filter (cntA t k)).length ≤ l.length := Nat.le_trans (List.length_filter_le _ _) (by rw [List.length_take]; omega)
    show lpE [(13, outV 1 ((l.take i).filter (cntA t k))), (42, _)] _ _ fun e => lpH (outH 1 ((l.take i).filter (cntA t k))) _ [] fun h => _
    cases hxi : l[i]? with
    | some y =>
      have hlt : i < l.length := (List.getElem?_eq_some_iff.1 hxi).1
      have hyes : ((i : Int) < ((l.map eA).length : Int)) := by rw [List.length_map]; omega
      have hfa := filter_take2 (p := cntA t k) hxi
      cases hG : (l.take i).filter (cntA t k) with
      | nil =>
        repeat' (first | exact cl1 | ((with_reducible show Exists _); first | exact exHM _ | refine exU8 ?_) | ((fail_if_success with_reducible first | show LeG _ _ | show Lp _ _ _ _ | show Exists _ | show callX _ _ _ _ _ | show (_ : Int) ≤ _ | show (_ : Int) < _ | show (_ : Nat) ≤ _ | show (_ : Nat) < _); (conv => whnf) <;> (first | exact cl2 | refine Br.dec (fun hc => ?_) (fun hc => absurd hyes hc) | refine ix_at hxi ?_ | refine XAlt.l ?_ | refine Sq.pr ?_ | refine Br.dec (fun hc => ?_) (fun hc => ?_) | refine Br.tt ?_ | refine Br.ff ?_ | refine Br.not ?_ | refine Br.mk (fun hc => ?_) (fun hc => ?_) | refine Opt.nn ?_ | refine Opt.ss ?_ | refine AltA.l ?_ | exact PV.leL_nil | refine PV.leL_cons ?_ ?_ | refine And.intro ?_ ?_ | refine ix_map (fun x hx => ?_) | refine exU8 ?_ | refine nilc (fun hn => ?_) ?_ | exact cl3 | refine imp0 (fun hpos => ?_) | refine fits_i64 ?_ ?_ | exact rfl | exact trivial | (with_reducible first | show LeG _ _ | show Lp _ _ _ _ | show Exists _ | show callX _ _ _ _ _)))) <;> (try exact cl5)
        all_goals first
        | (have hs1 : cntA t k y = true := by simp_all [cntA]
           refine ⟨⟨i + 1, hlt⟩, by show l.length - (i + 1) < l.length - i; omega, ?_⟩
           show Ent _ _ (hdS [0, 1, 2, 3, 4, 5, 12, 13, 15, 16, 17, 18, 19, 20, 21, 23, 24, 25, 27, 28, 29, 30, 32, 39, 40, 41, 42, 43, 55, 113, 114, 115, 116, 117, 139, 163, 171] _ _ _ [(13, outV 1 ((l.take (i + 1)).filter (cntA t k))), (42, .p (eI ((i + 1 : Nat) : Int)))] (outH 1 ((l.take (i + 1)).filter (cntA t k))) _)
           rw [hfa, hG, if_pos hs1]
           (first | refine Ent.ofA [] ?_ | refine Ent.ofC [] ?_) <;> (repeat' (first | exact trivial | refine HpLe.dd ?_ | refine HpLe.mk rfl (by simp) rfl (fun h => AObj.noConfusion h) ?_ ?_ | refine And.intro ?_ ?_ | exact cl9 | refine VLe.pe ?_ | refine VLe.agg ?_ | refine VLe.tup ?_ | refine VLe.fn ?_ ?_ | refine VLeL.cons ?_ ?_ | exact VLeL.nil | exact OLe.row _ _ | rfl | refine VLe.rsle rfl ?_ ?_ ?_ | refine OLe.rowe2 ?_ ?_ | refine OLe.mape ?_ ?_ | refine OLe.iter0 ?_ | refine OLe.itere ?_ ?_ | refine OLe.chane ?_ ?_ | refine OLe.mapSe ?_ ?_ ?_ | exact OLe.mapS0 rfl)) <;> try (first | (simp; done) | (congr 1; omega) | (congr 1; (first | (simp; done) | (simp; omega)))))
        | (have hs1 : cntA t k y = false := by
             unfold cntA
             first
             | (rw [decide_eq_false (show ¬ y.tm ≤ t by assumption)]; rfl)
             | (rw [decide_eq_false (show ¬ y.known ≤ k by assumption), Bool.and_false])
           refine ⟨⟨i + 1, hlt⟩, by show l.length - (i + 1) < l.length - i; omega, ?_⟩
           show Ent _ _ (hdS [0, 1, 2, 3, 4, 5, 12, 13, 15, 16, 17, 18, 19, 20, 21, 23, 24, 25, 27, 28, 29, 30, 32, 39, 40, 41, 42, 43, 55, 113, 114, 115, 116, 117, 139, 163, 171] _ _ _ [(13, outV 1 ((l.take (i + 1)).filter (cntA t k))), (42, .p (eI ((i + 1 : Nat) : Int)))] (outH 1 ((l.take (i + 1)).filter (cntA t k))) _)
           rw [hfa, hG, if_neg (by rw [hs1]; exact Bool.false_ne_true), List.append_nil]
           (first | refine Ent.ofA [] ?_ | refine Ent.ofC [] ?_) <;> (repeat' (first | exact trivial | refine HpLe.dd ?_ | refine HpLe.mk rfl (by simp) rfl (fun h => AObj.noConfusion h) ?_ ?_ | refine And.intro ?_ ?_ | exact cl9 | refine VLe.pe ?_ | refine VLe.agg ?_ | refine VLe.tup ?_ | refine VLe.fn ?_ ?_ | refine VLeL.cons ?_ ?_ | exact VLeL.nil | exact OLe.row _ _ | rfl | refine VLe.rsle rfl ?_ ?_ ?_ | refine OLe.rowe2 ?_ ?_ | refine OLe.mape ?_ ?_ | refine OLe.iter0 ?_ | refine OLe.itere ?_ ?_ | refine OLe.chane ?_ ?_ | refine OLe.mapSe ?_ ?_ ?_ | exact OLe.mapS0 rfl)) <;> try (first | (simp; done) | (congr 1; omega) | (congr 1; (first | (simp; done) | (simp; omega)))))
        | trace_state
      | cons g gr =>
        have hgr : gr.length + 1 ≤ 40 := by rw [hG] at hgl; simp at hgl; omega
        repeat' (first | exact cl1 | ((with_reducible show Exists _); first | exact exHM _ | refine exU8 ?_) | ((fail_if_success with_reducible first | show LeG _ _ | show Lp _ _ _ _ | show Exists _ | show callX _ _ _ _ _ | show (_ : Int) ≤ _ | show (_ : Int) < _ | show (_ : Nat) ≤ _ | show (_ : Nat) < _); (conv => whnf) <;> (first | exact cl2 | refine Br.dec (fun hc => ?_) (fun hc => absurd hyes hc) | refine ix_at hxi ?_ | refine XAlt.l ?_ | refine Sq.pr ?_ | refine Br.dec (fun hc => ?_) (fun hc => ?_) | refine Br.tt ?_ | refine Br.ff ?_ | refine Br.not ?_ | refine Br.mk (fun hc => ?_) (fun hc => ?_) | refine Opt.nn ?_ | refine Opt.ss ?_ | refine AltA.l ?_ | exact PV.leL_nil | refine PV.leL_cons ?_ ?_ | refine And.intro ?_ ?_ | refine ix_map (fun x hx => ?_) | refine exU8 ?_ | refine nilc (fun hn => ?_) ?_ | exact cl3 | refine imp0 (fun hpos => ?_) | refine fits_i64 ?_ ?_ | exact rfl | exact trivial | (with_reducible first | show LeG _ _ | show Lp _ _ _ _ | show Exists _ | show callX _ _ _ _ _)))) <;> (try exact cl5)
        (all_goals (try ((first | (with_reducible show (_ : Int) ≤ _) | (with_reducible show (_ : Int) < _) | (with_reducible show (_ : Nat) ≤ _) | (with_reducible show (_ : Nat) < _) | (with_reducible show ¬ _) | (with_reducible show (_ : Int) = _) | (with_reducible show (_ : Nat) = _) | (with_reducible show False)); (try dsimp only at *); (try simp only [List.length_map, List.length_append, List.length_cons, List.length_nil, List.length_replicate, List.length_take, List.length_drop, List.length_set, Int.toNat_natCast, Int.reduceToNat] at *); omega)))
        all_goals first
        | (have hs1 : cntA t k y = true := by simp_all [cntA]
           refine ⟨⟨i + 1, hlt⟩, by show l.length - (i + 1) < l.length - i; omega, ?_⟩
           show Ent _ _ (hdS [0, 1, 2, 3, 4, 5, 12, 13, 15, 16, 17, 18, 19, 20, 21, 23, 24, 25, 27, 28, 29, 30, 32, 39, 40, 41, 42, 43, 55, 113, 114, 115, 116, 117, 139, 163, 171] _ _ _ [(13, outV 1 ((l.take (i + 1)).filter (cntA t k))), (42, .p (eI ((i + 1 : Nat) : Int)))] (outH 1 ((l.take (i + 1)).filter (cntA t k))) _)
           rw [hfa, hG, if_pos hs1]
           (first | refine Ent.ofA [] ?_ | refine Ent.ofC [] ?_) <;> (repeat' (first | exact trivial | refine HpLe.dd ?_ | refine HpLe.mk rfl (by simp) rfl (fun h => AObj.noConfusion h) ?_ ?_ | refine And.intro ?_ ?_ | exact cl9 | refine VLe.pe ?_ | refine VLe.agg ?_ | refine VLe.tup ?_ | refine VLe.fn ?_ ?_ | refine VLeL.cons ?_ ?_ | exact VLeL.nil | exact OLe.row _ _ | rfl | refine VLe.rsle rfl ?_ ?_ ?_ | refine OLe.rowe2 ?_ ?_ | refine OLe.mape ?_ ?_ | refine OLe.iter0 ?_ | refine OLe.itere ?_ ?_ | refine OLe.chane ?_ ?_ | refine OLe.mapSe ?_ ?_ ?_ | exact OLe.mapS0 rfl)) <;> try (first | (simp; done) | (congr 1; omega) | (congr 1; (first | (simp; done) | (simp; omega))))
           all_goals (try (show List.map eA (g :: gr) ++ [eA y] = List.map eA (g :: (gr ++ [y])); simp; done)))
        | (have hs1 : cntA t k y = false := by
             unfold cntA
             first
             | (rw [decide_eq_false (show ¬ y.tm ≤ t by assumption)]; rfl)
             | (rw [decide_eq_false (show ¬ y.known ≤ k by assumption), Bool.and_false])
           refine ⟨⟨i + 1, hlt⟩, by show l.length - (i + 1) < l.length - i; omega, ?_⟩
           show Ent _ _ (hdS [0, 1, 2, 3, 4, 5, 12, 13, 15, 16, 17, 18, 19, 20, 21, 23, 24, 25, 27, 28, 29, 30, 32, 39, 40, 41, 42, 43, 55, 113, 114, 115, 116, 117, 139, 163, 171] _ _ _ [(13, outV 1 ((l.take (i + 1)).filter (cntA t k))), (42, .p (eI ((i + 1 : Nat) : Int)))] (outH 1 ((l.take (i + 1)).filter (cntA t k))) _)
           rw [hfa, hG, if_neg (by rw [hs1]; exact Bool.false_ne_true), List.append_nil]
           (first | refine Ent.ofA [] ?_ | refine Ent.ofC [] ?_) <;> (repeat' (first | exact trivial | refine HpLe.dd ?_ | refine HpLe.mk rfl (by simp) rfl (fun h => AObj.noConfusion h) ?_ ?_ | refine And.intro ?_ ?_ | exact cl9 | refine VLe.pe ?_ | refine VLe.agg ?_ | refine VLe.tup ?_ | refine VLe.fn ?_ ?_ | refine VLeL.cons ?_ ?_ | exact VLeL.nil | exact OLe.row _ _ | rfl | refine VLe.rsle rfl ?_ ?_ ?_ | refine OLe.rowe2 ?_ ?_ | refine OLe.mape ?_ ?_ | refine OLe.iter0 ?_ | refine OLe.itere ?_ ?_ | refine OLe.chane ?_ ?_ | refine OLe.mapSe ?_ ?_ ?_ | exact OLe.mapS0 rfl)) <;> try (first | (simp; done) | (congr 1; omega) | (congr 1; (first | (simp; done) | (simp; omega)))))
        | trace_state
    | none =>
      have hge : l.length ≤ i := List.getElem?_eq_none_iff.1 hxi
      have hno : ¬ ((i : Int) < ((l.map eA).length : Int)) := by rw [List.length_map]; omega
      rw [List.take_of_length_le hge]
      cases hG : l.filter (cntA t k) with
      | nil =>
        rw [hG] at q2
        repeat' (first | exact cl1 | ((with_reducible show Exists _); first | exact exHM _ | refine exU8 ?_) | ((with_reducible show callX _ _ _ _ _); (first | refine call_p (q1) (by kernel_rfl) rfl ?_ | (refine call_z (q2) (by kernel_rfl) rfl ?_; (repeat' (first | exact PV.leL_nil | refine PV.leL_cons ?_ ?_ | refine And.intro ?_ ?_ | exact Nat.zero_lt_succ _ | exact Nat.le_of_ble_eq_true rfl | exact PV.le_refl _ | exact PV.le_nil _ _ _ | exact PV.le_clip _ _ _ | refine PV.le_agg ?_ | refine PV.le_tup ?_ | rfl)); fail_if_success (any_goals (refine PV.le_of ?_))) | (refine call_z (q3) (by kernel_rfl) rfl ?_; (repeat' (first | exact PV.leL_nil | refine PV.leL_cons ?_ ?_ | refine And.intro ?_ ?_ | exact Nat.zero_lt_succ _ | exact Nat.le_of_ble_eq_true rfl | exact PV.le_refl _ | exact PV.le_nil _ _ _ | exact PV.le_clip _ _ _ | refine PV.le_agg ?_ | refine PV.le_tup ?_ | rfl)); fail_if_success (any_goals (refine PV.le_of ?_))) | refine call_p (q5) (by kernel_rfl) rfl ?_)) | ((fail_if_success with_reducible first | show LeG _ _ | show Lp _ _ _ _ | show Exists _ | show callX _ _ _ _ _ | show (_ : Int) ≤ _ | show (_ : Int) < _ | show (_ : Nat) ≤ _ | show (_ : Nat) < _); (conv => whnf) <;> (first | exact cl2 | refine Br.dec (fun hc => absurd hc hno) (fun hc => ?_) | refine XAlt.l ?_ | refine Sq.pr ?_ | refine Br.dec (fun hc => ?_) (fun hc => ?_) | refine Br.tt ?_ | refine Br.ff ?_ | refine Br.not ?_ | refine Br.mk (fun hc => ?_) (fun hc => ?_) | refine Opt.nn ?_ | refine Opt.ss ?_ | refine AltA.l ?_ | exact PV.leL_nil | refine PV.leL_cons ?_ ?_ | refine And.intro ?_ ?_ | refine ix_map (fun x hx => ?_) | refine exU8 ?_ | refine nilc (fun hn => ?_) ?_ | exact cl3 | refine imp0 (fun hpos => ?_) | refine fits_i64 ?_ ?_ | exact rfl | exact trivial | (with_reducible first | show LeG _ _ | show Lp _ _ _ _ | show Exists _ | show callX _ _ _ _ _)))) <;> (try exact cl5)
        all_goals first
        | exact absurd rfl hc
        | skip
        refine Wpc.loopA (α := {j : Nat // j ≤ P.length}) mixed [0, 1, 2, 3, 4, 5, 12, 13, 15, 16, 17, 18, 19, 20, 21, 23, 24, 25, 27, 28, 29, 30, 32, 39, 40, 41, 42, 43, 55, 113, 114, 115, 116, 117, 139, 163, 171] (fun j => [(25, outVI 2 (wideL (IntKind.i64.wrap m) (P.take j.1))), (116, .p (eI j.1))]) (fun j => outHI 2 (wideL (IntKind.i64.wrap m) (P.take j.1))) (fun _ => 0) (fun j => P.length - j.1) ⟨0, by omega⟩ ?_ ?_
        · (first | refine Ent.ofA [] ?_ | refine Ent.ofC [] ?_) <;> (repeat' (first | exact trivial | refine HpLe.dd ?_ | refine HpLe.mk rfl (by simp) rfl (fun h => AObj.noConfusion h) ?_ ?_ | refine And.intro ?_ ?_ | exact cl9 | refine VLe.pe ?_ | refine VLe.agg ?_ | refine VLe.tup ?_ | refine VLe.fn ?_ ?_ | refine VLeL.cons ?_ ?_ | exact VLeL.nil | exact OLe.row _ _ | rfl | refine VLe.rsle rfl ?_ ?_ ?_ | refine OLe.rowe2 ?_ ?_ | refine OLe.mape ?_ ?_ | refine OLe.iter0 ?_ | refine OLe.itere ?_ ?_ | refine OLe.chane ?_ ?_ | refine OLe.mapSe ?_ ?_ ?_ | exact OLe.mapS0 rfl)) <;> try (first | (simp; done) | (congr 1; omega) | (congr 1; (first | (simp; done) | (simp; omega))))
        rintro ⟨j, hj⟩
        have hj : j ≤ P.length := hj
        have hwl : (wideL (IntKind.i64.wrap m) (P.take j)).length ≤ 32 := by
          have h1 := (wideL_len (IntKind.i64.wrap m) (P.take j) []).2
          rw [List.length_take] at h1
          unfold wideL
          simp at h1; omega
        show lpE [(25, outVI 2 (wideL (IntKind.i64.wrap m) (P.take j))), (116, _)] _ _ fun e => lpH (outHI 2 (wideL (IntKind.i64.wrap m) (P.take j))) _ [] fun h => _
        cases hxj : P[j]? with
        | some p =>
          have hltj : j < P.length := (List.getElem?_eq_some_iff.1 hxj).1
          have hyj : ((j : Int) < ((P.map eI).length : Int)) := by rw [List.length_map]; omega
          have ew := wideL_take (m := (IntKind.i64.wrap m)) hxj
          cases hG : wideL (IntKind.i64.wrap m) (P.take j) with
          | nil =>
            rw [hG] at ew
            repeat' (first | exact cl1 | ((with_reducible show Exists _); first | exact exHM _ | refine exU8 ?_) | ((fail_if_success with_reducible first | show LeG _ _ | show Lp _ _ _ _ | show Exists _ | show callX _ _ _ _ _ | show (_ : Int) ≤ _ | show (_ : Int) < _ | show (_ : Nat) ≤ _ | show (_ : Nat) < _); (conv => whnf) <;> (first | exact cl2 | refine Br.dec (fun hc => ?_) (fun hc => absurd hyj hc) | refine ix_at hxj ?_ | refine XAlt.l ?_ | refine Sq.pr ?_ | refine Br.dec (fun hc => ?_) (fun hc => ?_) | refine Br.tt ?_ | refine Br.ff ?_ | refine Br.not ?_ | refine Br.mk (fun hc => ?_) (fun hc => ?_) | refine Opt.nn ?_ | refine Opt.ss ?_ | refine AltA.l ?_ | exact PV.leL_nil | refine PV.leL_cons ?_ ?_ | refine And.intro ?_ ?_ | refine ix_map (fun x hx => ?_) | refine exU8 ?_ | refine nilc (fun hn => ?_) ?_ | exact cl3 | refine imp0 (fun hpos => ?_) | refine fits_i64 ?_ ?_ | exact rfl | exact trivial | (with_reducible first | show LeG _ _ | show Lp _ _ _ _ | show Exists _ | show callX _ _ _ _ _)))) <;> (try exact cl5)
            all_goals first
            | (have e2 : stepW (IntKind.i64.wrap m) [] p = [(IntKind.i64.wrap m)] ++ [p] := by unfold stepW; rw [decide_eq_true (show (IntKind.i64.wrap m) < p by assumption)]; rfl
               refine ⟨⟨j + 1, hltj⟩, by show P.length - (j + 1) < P.length - j; omega, ?_⟩
               show Ent _ _ (hdS [0, 1, 2, 3, 4, 5, 12, 13, 15, 16, 17, 18, 19, 20, 21, 23, 24, 25, 27, 28, 29, 30, 32, 39, 40, 41, 42, 43, 55, 113, 114, 115, 116, 117, 139, 163, 171] _ _ _ [(25, outVI 2 (wideL (IntKind.i64.wrap m) (P.take (j + 1)))), (116, .p (eI ((j + 1 : Nat) : Int)))] (outHI 2 (wideL (IntKind.i64.wrap m) (P.take (j + 1)))) _)
               rw [ew, e2]
               (first | refine Ent.ofA [] ?_ | refine Ent.ofC [] ?_) <;> (repeat' (first | exact trivial | refine HpLe.dd ?_ | refine HpLe.mk rfl (by simp) rfl (fun h => AObj.noConfusion h) ?_ ?_ | refine And.intro ?_ ?_ | exact cl9 | refine VLe.pe ?_ | refine VLe.agg ?_ | refine VLe.tup ?_ | refine VLe.fn ?_ ?_ | refine VLeL.cons ?_ ?_ | exact VLeL.nil | exact OLe.row _ _ | rfl | refine VLe.rsle rfl ?_ ?_ ?_ | refine OLe.rowe2 ?_ ?_ | refine OLe.mape ?_ ?_ | refine OLe.iter0 ?_ | refine OLe.itere ?_ ?_ | refine OLe.chane ?_ ?_ | refine OLe.mapSe ?_ ?_ ?_ | exact OLe.mapS0 rfl)) <;> try (first | (simp; done) | (congr 1; omega) | (congr 1; (first | (simp; done) | (simp; omega))))
               all_goals (first | exact fixA _ _ _ _ | (simp; done) | skip))
            | (have e2 : stepW (IntKind.i64.wrap m) [] p = [p] := by unfold stepW; rw [decide_eq_false (show ¬ (IntKind.i64.wrap m) < p by assumption)]; rfl
               refine ⟨⟨j + 1, hltj⟩, by show P.length - (j + 1) < P.length - j; omega, ?_⟩
               show Ent _ _ (hdS [0, 1, 2, 3, 4, 5, 12, 13, 15, 16, 17, 18, 19, 20, 21, 23, 24, 25, 27, 28, 29, 30, 32, 39, 40, 41, 42, 43, 55, 113, 114, 115, 116, 117, 139, 163, 171] _ _ _ [(25, outVI 2 (wideL (IntKind.i64.wrap m) (P.take (j + 1)))), (116, .p (eI ((j + 1 : Nat) : Int)))] (outHI 2 (wideL (IntKind.i64.wrap m) (P.take (j + 1)))) _)
               rw [ew, e2]
               (first | refine Ent.ofA [] ?_ | refine Ent.ofC [] ?_) <;> (repeat' (first | exact trivial | refine HpLe.dd ?_ | refine HpLe.mk rfl (by simp) rfl (fun h => AObj.noConfusion h) ?_ ?_ | refine And.intro ?_ ?_ | exact cl9 | refine VLe.pe ?_ | refine VLe.agg ?_ | refine VLe.tup ?_ | refine VLe.fn ?_ ?_ | refine VLeL.cons ?_ ?_ | exact VLeL.nil | exact OLe.row _ _ | rfl | refine VLe.rsle rfl ?_ ?_ ?_ | refine OLe.rowe2 ?_ ?_ | refine OLe.mape ?_ ?_ | refine OLe.iter0 ?_ | refine OLe.itere ?_ ?_ | refine OLe.chane ?_ ?_ | refine OLe.mapSe ?_ ?_ ?_ | exact OLe.mapS0 rfl)) <;> try (first | (simp; done) | (congr 1; omega) | (congr 1; (first | (simp; done) | (simp; omega))))
               all_goals (first | exact fixA _ _ _ _ | (simp; done) | skip))
            | (exfalso; simp_all; done)
            | trace_state
          | cons g gr =>
            rw [hG] at ew hwl
            have hgr : gr.length + 1 ≤ 32 := by simpa using hwl
            obtain ⟨y, hy1, hy2⟩ := last_ix (g := g) (gr := gr)
            have hll : lastLt (IntKind.i64.wrap m) (g :: gr) = decide (y < (IntKind.i64.wrap m)) := by unfold lastLt; rw [hy1]
            repeat' (first | exact cl1 | ((with_reducible show Exists _); first | exact exHM _ | refine exU8 ?_) | ((fail_if_success with_reducible first | show LeG _ _ | show Lp _ _ _ _ | show Exists _ | show callX _ _ _ _ _ | show (_ : Int) ≤ _ | show (_ : Int) < _ | show (_ : Nat) ≤ _ | show (_ : Nat) < _); (conv => whnf) <;> (first | exact cl2 | refine Br.dec (fun hc => ?_) (fun hc => absurd hyj hc) | refine ix_at hxj ?_ | refine ix_at hy2 ?_ | refine XAlt.l ?_ | refine Sq.pr ?_ | refine Br.dec (fun hc => ?_) (fun hc => ?_) | refine Br.tt ?_ | refine Br.ff ?_ | refine Br.not ?_ | refine Br.mk (fun hc => ?_) (fun hc => ?_) | refine Opt.nn ?_ | refine Opt.ss ?_ | refine AltA.l ?_ | exact PV.leL_nil | refine PV.leL_cons ?_ ?_ | refine And.intro ?_ ?_ | refine ix_map (fun x hx => ?_) | refine exU8 ?_ | refine nilc (fun hn => ?_) ?_ | exact cl3 | refine imp0 (fun hpos => ?_) | refine fits_i64 ?_ ?_ | exact rfl | exact trivial | (with_reducible first | show LeG _ _ | show Lp _ _ _ _ | show Exists _ | show callX _ _ _ _ _)))) <;> (try exact cl5)
            (all_goals (try ((first | (with_reducible show (_ : Int) ≤ _) | (with_reducible show (_ : Int) < _) | (with_reducible show (_ : Nat) ≤ _) | (with_reducible show (_ : Nat) < _) | (with_reducible show ¬ _) | (with_reducible show (_ : Int) = _) | (with_reducible show (_ : Nat) = _) | (with_reducible show False)); (try dsimp only at *); (try simp only [List.length_map, List.length_append, List.length_cons, List.length_nil, List.length_replicate, List.length_take, List.length_drop, List.length_set, Int.toNat_natCast, Int.reduceToNat] at *); omega)))
            all_goals first
            | (have e2 : stepW (IntKind.i64.wrap m) (g :: gr) p = (g :: gr) ++ [(IntKind.i64.wrap m)] ++ [p] := by unfold stepW; rw [hll, decide_eq_true (show (IntKind.i64.wrap m) < p by assumption), decide_eq_true (show y < (IntKind.i64.wrap m) by assumption)]; rfl
               refine ⟨⟨j + 1, hltj⟩, by show P.length - (j + 1) < P.length - j; omega, ?_⟩
               show Ent _ _ (hdS [0, 1, 2, 3, 4, 5, 12, 13, 15, 16, 17, 18, 19, 20, 21, 23, 24, 25, 27, 28, 29, 30, 32, 39, 40, 41, 42, 43, 55, 113, 114, 115, 116, 117, 139, 163, 171] _ _ _ [(25, outVI 2 (wideL (IntKind.i64.wrap m) (P.take (j + 1)))), (116, .p (eI ((j + 1 : Nat) : Int)))] (outHI 2 (wideL (IntKind.i64.wrap m) (P.take (j + 1)))) _)
               rw [ew, e2]
               (first | refine Ent.ofA [] ?_ | refine Ent.ofC [] ?_) <;> (repeat' (first | exact trivial | refine HpLe.dd ?_ | refine HpLe.mk rfl (by simp) rfl (fun h => AObj.noConfusion h) ?_ ?_ | refine And.intro ?_ ?_ | exact cl9 | refine VLe.pe ?_ | refine VLe.agg ?_ | refine VLe.tup ?_ | refine VLe.fn ?_ ?_ | refine VLeL.cons ?_ ?_ | exact VLeL.nil | exact OLe.row _ _ | rfl | refine VLe.rsle rfl ?_ ?_ ?_ | refine OLe.rowe2 ?_ ?_ | refine OLe.mape ?_ ?_ | refine OLe.iter0 ?_ | refine OLe.itere ?_ ?_ | refine OLe.chane ?_ ?_ | refine OLe.mapSe ?_ ?_ ?_ | exact OLe.mapS0 rfl)) <;> try (first | (simp; done) | (congr 1; omega) | (congr 1; (first | (simp; done) | (simp; omega))))
               all_goals (first | exact fixA _ _ _ _ | (simp; done) | skip))
            | (have e2 : stepW (IntKind.i64.wrap m) (g :: gr) p = (g :: gr) ++ [p] := by unfold stepW; rw [hll, decide_eq_false (show ¬ y < (IntKind.i64.wrap m) by assumption), Bool.and_false]; rfl
               refine ⟨⟨j + 1, hltj⟩, by show P.length - (j + 1) < P.length - j; omega, ?_⟩
               show Ent _ _ (hdS [0, 1, 2, 3, 4, 5, 12, 13, 15, 16, 17, 18, 19, 20, 21, 23, 24, 25, 27, 28, 29, 30, 32, 39, 40, 41, 42, 43, 55, 113, 114, 115, 116, 117, 139, 163, 171] _ _ _ [(25, outVI 2 (wideL (IntKind.i64.wrap m) (P.take (j + 1)))), (116, .p (eI ((j + 1 : Nat) : Int)))] (outHI 2 (wideL (IntKind.i64.wrap m) (P.take (j + 1)))) _)
               rw [ew, e2]
               (first | refine Ent.ofA [] ?_ | refine Ent.ofC [] ?_) <;> (repeat' (first | exact trivial | refine HpLe.dd ?_ | refine HpLe.mk rfl (by simp) rfl (fun h => AObj.noConfusion h) ?_ ?_ | refine And.intro ?_ ?_ | exact cl9 | refine VLe.pe ?_ | refine VLe.agg ?_ | refine VLe.tup ?_ | refine VLe.fn ?_ ?_ | refine VLeL.cons ?_ ?_ | exact VLeL.nil | exact OLe.row _ _ | rfl | refine VLe.rsle rfl ?_ ?_ ?_ | refine OLe.rowe2 ?_ ?_ | refine OLe.mape ?_ ?_ | refine OLe.iter0 ?_ | refine OLe.itere ?_ ?_ | refine OLe.chane ?_ ?_ | refine OLe.mapSe ?_ ?_ ?_ | exact OLe.mapS0 rfl)) <;> try (first | (simp; done) | (congr 1; omega) | (congr 1; (first | (simp; done) | (simp; omega))))
               all_goals (first | exact fixA _ _ _ _ | (simp; done) | skip))
            | (have e2 : stepW (IntKind.i64.wrap m) (g :: gr) p = (g :: gr) ++ [p] := by unfold stepW; rw [decide_eq_false (show ¬ (IntKind.i64.wrap m) < p by assumption)]; rfl
               refine ⟨⟨j + 1, hltj⟩, by show P.length - (j + 1) < P.length - j; omega, ?_⟩
               show Ent _ _ (hdS [0, 1, 2, 3, 4, 5, 12, 13, 15, 16, 17, 18, 19, 20, 21, 23, 24, 25, 27, 28, 29, 30, 32, 39, 40, 41, 42, 43, 55, 113, 114, 115, 116, 117, 139, 163, 171] _ _ _ [(25, outVI 2 (wideL (IntKind.i64.wrap m) (P.take (j + 1)))), (116, .p (eI ((j + 1 : Nat) : Int)))] (outHI 2 (wideL (IntKind.i64.wrap m) (P.take (j + 1)))) _)
               rw [ew, e2]
               (first | refine Ent.ofA [] ?_ | refine Ent.ofC [] ?_) <;> (repeat' (first | exact trivial | refine HpLe.dd ?_ | refine HpLe.mk rfl (by simp) rfl (fun h => AObj.noConfusion h) ?_ ?_ | refine And.intro ?_ ?_ | exact cl9 | refine VLe.pe ?_ | refine VLe.agg ?_ | refine VLe.tup ?_ | refine VLe.fn ?_ ?_ | refine VLeL.cons ?_ ?_ | exact VLeL.nil | exact OLe.row _ _ | rfl | refine VLe.rsle rfl ?_ ?_ ?_ | refine OLe.rowe2 ?_ ?_ | refine OLe.mape ?_ ?_ | refine OLe.iter0 ?_ | refine OLe.itere ?_ ?_ | refine OLe.chane ?_ ?_ | refine OLe.mapSe ?_ ?_ ?_ | exact OLe.mapS0 rfl)) <;> try (first | (simp; done) | (congr 1; omega) | (congr 1; (first | (simp; done) | (simp; omega))))
               all_goals (first | exact fixA _ _ _ _ | (simp; done) | skip))
            | (exfalso; simp_all; done)
            | trace_state
        | none =>
          have hgej : P.length ≤ j := List.getElem?_eq_none_iff.1 hxj
          have hnoj : ¬ ((j : Int) < ((P.map eI).length : Int)) := by rw [List.length_map]; omega
          rw [List.take_of_length_le hgej] at hwl ⊢
          cases hG2 : wideL (IntKind.i64.wrap m) P with
          | nil =>
            have hW : wideF (IntKind.i64.wrap m) P = [(IntKind.i64.wrap m)] := by unfold wideF; rw [hG2]; rfl
            rw [hW] at q8
            have q8 := q8 (by show 1 ≤ 16; decide)
            repeat' (first | exact cl1 | ((with_reducible show Exists _); first | exact exHM _ | refine exU8 ?_) | ((with_reducible show callX _ _ _ _ _); (first | refine call_p (q9) (by kernel_rfl) rfl ?_ | (refine call_z (q8) (by kernel_rfl) rfl ?_; (repeat' (first | exact PV.leL_nil | refine PV.leL_cons ?_ ?_ | refine And.intro ?_ ?_ | exact Nat.zero_lt_succ _ | exact Nat.le_of_ble_eq_true rfl | exact PV.le_refl _ | exact PV.le_nil _ _ _ | exact PV.le_clip _ _ _ | refine PV.le_agg ?_ | refine PV.le_tup ?_ | rfl)); fail_if_success (any_goals (refine PV.le_of ?_))))) | ((fail_if_success with_reducible first | show LeG _ _ | show Lp _ _ _ _ | show Exists _ | show callX _ _ _ _ _ | show (_ : Int) ≤ _ | show (_ : Int) < _ | show (_ : Nat) ≤ _ | show (_ : Nat) < _); (conv => whnf) <;> (first | exact cl2 | refine Br.dec (fun hc => absurd hc hnoj) (fun hc => ?_) | refine XAlt.l ?_ | refine Sq.pr ?_ | refine Br.dec (fun hc => ?_) (fun hc => ?_) | refine Br.tt ?_ | refine Br.ff ?_ | refine Br.not ?_ | refine Br.mk (fun hc => ?_) (fun hc => ?_) | refine Opt.nn ?_ | refine Opt.ss ?_ | refine AltA.l ?_ | exact PV.leL_nil | refine PV.leL_cons ?_ ?_ | refine And.intro ?_ ?_ | refine ix_map (fun x hx => ?_) | refine exU8 ?_ | refine nilc (fun hn => ?_) ?_ | exact cl3 | refine imp0 (fun hpos => ?_) | refine fits_i64 ?_ ?_ | exact rfl | exact trivial | (with_reducible first | show LeG _ _ | show Lp _ _ _ _ | show Exists _ | show callX _ _ _ _ _)))) <;> (try exact cl5)
            all_goals first
            | exact absurd rfl hc
            | (refine LeG.bool ?_; simp_all; done)
            | (exfalso; simp_all; done)
            | trace_state
          | cons g gr =>
            rw [hG2] at hwl
            have hgr : gr.length + 1 ≤ 32 := by simpa using hwl
            obtain ⟨y, hy1, hy2⟩ := last_ix (g := g) (gr := gr)
            have hll : lastLt (IntKind.i64.wrap m) (g :: gr) = decide (y < (IntKind.i64.wrap m)) := by unfold lastLt; rw [hy1]
            by_cases hym : y < (IntKind.i64.wrap m)
            · have hW : wideF (IntKind.i64.wrap m) P = (g :: gr) ++ [(IntKind.i64.wrap m)] := by unfold wideF; rw [hG2, hll, decide_eq_true hym]; rfl
              by_cases h16 : gr.length + 2 ≤ 16
              · have q8 := q8 (by rw [hW]; simp; omega)
                rw [hW] at q8
                have h16i : ¬ (16 : Int) < ((gr.length + 1 + 1 : Nat) : Int) := by omega
                repeat' (first | exact cl1 | ((with_reducible show Exists _); first | exact exHM _ | refine exU8 ?_) | ((with_reducible show callX _ _ _ _ _); (first | refine call_p (q9) (by kernel_rfl) rfl ?_ | refine call_z q8 (by kernel_rfl) rfl ?_)) | ((fail_if_success with_reducible first | show LeG _ _ | show Lp _ _ _ _ | show Exists _ | show callX _ _ _ _ _ | show (_ : Int) ≤ _ | show (_ : Int) < _ | show (_ : Nat) ≤ _ | show (_ : Nat) < _); (conv => whnf) <;> (first | exact cl2 | refine Br.dec (fun hc => absurd hc hnoj) (fun hc => ?_) | refine ix_at hy2 ?_ | refine Br.dec (fun hc => ?_) (fun hc => absurd hym hc) | refine Br.dec (fun hc => absurd hc h16i) (fun hc => ?_) | refine XAlt.l ?_ | refine Sq.pr ?_ | refine Br.dec (fun hc => ?_) (fun hc => ?_) | refine Br.tt ?_ | refine Br.ff ?_ | refine Br.not ?_ | refine Br.mk (fun hc => ?_) (fun hc => ?_) | refine Opt.nn ?_ | refine Opt.ss ?_ | refine AltA.l ?_ | exact PV.leL_nil | refine PV.leL_cons ?_ ?_ | refine And.intro ?_ ?_ | refine ix_map (fun x hx => ?_) | refine exU8 ?_ | refine nilc (fun hn => ?_) ?_ | refine call_z q8 (by kernel_rfl) rfl ?_ | exact cl3 | refine imp0 (fun hpos => ?_) | refine fits_i64 ?_ ?_ | exact rfl | exact trivial | (with_reducible first | show LeG _ _ | show Lp _ _ _ _ | show Exists _ | show callX _ _ _ _ _)))) <;> (try exact cl5)
                (all_goals (try ((first | (with_reducible show (_ : Int) ≤ _) | (with_reducible show (_ : Int) < _) | (with_reducible show (_ : Nat) ≤ _) | (with_reducible show (_ : Nat) < _) | (with_reducible show ¬ _) | (with_reducible show (_ : Int) = _) | (with_reducible show (_ : Nat) = _) | (with_reducible show False)); (try dsimp only at *); (try simp only [List.length_map, List.length_append, List.length_cons, List.length_nil, List.length_replicate, List.length_take, List.length_drop, List.length_set, Int.toNat_natCast, Int.reduceToNat] at *); omega)))
                all_goals first
                | exact absurd rfl hc
                | (refine LeG.bool ?_; simp_all; done)
                | exact fixB _ _ _
                | exact fixC _ _
                | (exfalso; simp_all; done)
                | trace_state
              · have h16i : (16 : Int) < ((gr.length + 1 + 1 : Nat) : Int) := by omega
                repeat' (first | exact cl1 | ((with_reducible show Exists _); first | exact exHM _ | refine exU8 ?_) | ((fail_if_success with_reducible first | show LeG _ _ | show Lp _ _ _ _ | show Exists _ | show callX _ _ _ _ _ | show (_ : Int) ≤ _ | show (_ : Int) < _ | show (_ : Nat) ≤ _ | show (_ : Nat) < _); (conv => whnf) <;> (first | exact cl2 | refine Br.dec (fun hc => absurd hc hnoj) (fun hc => ?_) | refine ix_at hy2 ?_ | refine Br.dec (fun hc => ?_) (fun hc => absurd hym hc) | refine Br.dec (fun hc => ?_) (fun hc => absurd h16i hc) | refine XAlt.l ?_ | refine Sq.pr ?_ | refine Br.dec (fun hc => ?_) (fun hc => ?_) | refine Br.tt ?_ | refine Br.ff ?_ | refine Br.not ?_ | refine Br.mk (fun hc => ?_) (fun hc => ?_) | refine Opt.nn ?_ | refine Opt.ss ?_ | refine AltA.l ?_ | exact PV.leL_nil | refine PV.leL_cons ?_ ?_ | refine And.intro ?_ ?_ | refine ix_map (fun x hx => ?_) | refine exU8 ?_ | refine nilc (fun hn => ?_) ?_ | exact cl3 | refine imp0 (fun hpos => ?_) | refine fits_i64 ?_ ?_ | exact rfl | exact trivial | (with_reducible first | show LeG _ _ | show Lp _ _ _ _ | show Exists _ | show callX _ _ _ _ _)))) <;> (try exact cl5)
                (all_goals (try ((first | (with_reducible show (_ : Int) ≤ _) | (with_reducible show (_ : Int) < _) | (with_reducible show (_ : Nat) ≤ _) | (with_reducible show (_ : Nat) < _) | (with_reducible show ¬ _) | (with_reducible show (_ : Int) = _) | (with_reducible show (_ : Nat) = _) | (with_reducible show False)); (try dsimp only at *); (try simp only [List.length_map, List.length_append, List.length_cons, List.length_nil, List.length_replicate, List.length_take, List.length_drop, List.length_set, Int.toNat_natCast, Int.reduceToNat] at *); omega)))
                all_goals first
                | exact absurd rfl hc
                | trace_state
            · have hW : wideF (IntKind.i64.wrap m) P = g :: gr := by unfold wideF; rw [hG2, hll, decide_eq_false hym]; rfl
              by_cases h16 : gr.length + 1 ≤ 16
              · have q8 := q8 (by rw [hW]; simp; omega)
                rw [hW] at q8
                have h16i : ¬ (16 : Int) < ((gr.length + 1 : Nat) : Int) := by omega
                repeat' (first | exact cl1 | ((with_reducible show Exists _); first | exact exHM _ | refine exU8 ?_) | ((with_reducible show callX _ _ _ _ _); (first | refine call_p (q9) (by kernel_rfl) rfl ?_ | refine call_z q8 (by kernel_rfl) rfl ?_)) | ((fail_if_success with_reducible first | show LeG _ _ | show Lp _ _ _ _ | show Exists _ | show callX _ _ _ _ _ | show (_ : Int) ≤ _ | show (_ : Int) < _ | show (_ : Nat) ≤ _ | show (_ : Nat) < _); (conv => whnf) <;> (first | exact cl2 | refine Br.dec (fun hc => absurd hc hnoj) (fun hc => ?_) | refine ix_at hy2 ?_ | refine Br.dec (fun hc => absurd hc hym) (fun hc => ?_) | refine Br.dec (fun hc => absurd hc h16i) (fun hc => ?_) | refine XAlt.l ?_ | refine Sq.pr ?_ | refine Br.dec (fun hc => ?_) (fun hc => ?_) | refine Br.tt ?_ | refine Br.ff ?_ | refine Br.not ?_ | refine Br.mk (fun hc => ?_) (fun hc => ?_) | refine Opt.nn ?_ | refine Opt.ss ?_ | refine AltA.l ?_ | exact PV.leL_nil | refine PV.leL_cons ?_ ?_ | refine And.intro ?_ ?_ | refine ix_map (fun x hx => ?_) | refine exU8 ?_ | refine nilc (fun hn => ?_) ?_ | refine call_z q8 (by kernel_rfl) rfl ?_ | exact cl3 | refine imp0 (fun hpos => ?_) | refine fits_i64 ?_ ?_ | exact rfl | exact trivial | (with_reducible first | show LeG _ _ | show Lp _ _ _ _ | show Exists _ | show callX _ _ _ _ _)))) <;> (try exact cl5)
                (all_goals (try ((first | (with_reducible show (_ : Int) ≤ _) | (with_reducible show (_ : Int) < _) | (with_reducible show (_ : Nat) ≤ _) | (with_reducible show (_ : Nat) < _) | (with_reducible show ¬ _) | (with_reducible show (_ : Int) = _) | (with_reducible show (_ : Nat) = _) | (with_reducible show False)); (try dsimp only at *); (try simp only [List.length_map, List.length_append, List.length_cons, List.length_nil, List.length_replicate, List.length_take, List.length_drop, List.length_set, Int.toNat_natCast, Int.reduceToNat] at *); omega)))
                all_goals first
                | exact absurd rfl hc
                | (refine LeG.bool ?_; simp_all; done)
                | exact fixB _ _ _
                | exact fixC _ _
                | (exfalso; simp_all; done)
                | trace_state
              · have h16i : (16 : Int) < ((gr.length + 1 : Nat) : Int) := by omega
                repeat' (first | exact cl1 | ((with_reducible show Exists _); first | exact exHM _ | refine exU8 ?_) | ((fail_if_success with_reducible first | show LeG _ _ | show Lp _ _ _ _ | show Exists _ | show callX _ _ _ _ _ | show (_ : Int) ≤ _ | show (_ : Int) < _ | show (_ : Nat) ≤ _ | show (_ : Nat) < _); (conv => whnf) <;> (first | exact cl2 | refine Br.dec (fun hc => absurd hc hnoj) (fun hc => ?_) | refine ix_at hy2 ?_ | refine Br.dec (fun hc => absurd hc hym) (fun hc => ?_) | refine Br.dec (fun hc => ?_) (fun hc => absurd h16i hc) | refine XAlt.l ?_ | refine Sq.pr ?_ | refine Br.dec (fun hc => ?_) (fun hc => ?_) | refine Br.tt ?_ | refine Br.ff ?_ | refine Br.not ?_ | refine Br.mk (fun hc => ?_) (fun hc => ?_) | refine Opt.nn ?_ | refine Opt.ss ?_ | refine AltA.l ?_ | exact PV.leL_nil | refine PV.leL_cons ?_ ?_ | refine And.intro ?_ ?_ | refine ix_map (fun x hx => ?_) | refine exU8 ?_ | refine nilc (fun hn => ?_) ?_ | exact cl3 | refine imp0 (fun hpos => ?_) | refine fits_i64 ?_ ?_ | exact rfl | exact trivial | (with_reducible first | show LeG _ _ | show Lp _ _ _ _ | show Exists _ | show callX _ _ _ _ _)))) <;> (try exact cl5)
                (all_goals (try ((first | (with_reducible show (_ : Int) ≤ _) | (with_reducible show (_ : Int) < _) | (with_reducible show (_ : Nat) ≤ _) | (with_reducible show (_ : Nat) < _) | (with_reducible show ¬ _) | (with_reducible show (_ : Int) = _) | (with_reducible show (_ : Nat) = _) | (with_reducible show False)); (try dsimp only at *); (try simp only [List.length_map, List.length_append, List.length_cons, List.length_nil, List.length_replicate, List.length_take, List.length_drop, List.length_set, Int.toNat_natCast, Int.reduceToNat] at *); omega)))
                all_goals first
                | exact absurd rfl hc
                | trace_state
      | cons g0 gr0 =>
        rw [hG] at q2
        repeat' (first | exact cl1 | ((with_reducible show Exists _); first | exact exHM _ | refine exU8 ?_) | ((with_reducible show callX _ _ _ _ _); (first | refine call_p (q1) (by kernel_rfl) rfl ?_ | (refine call_z (q3) (by kernel_rfl) rfl ?_; (repeat' (first | exact PV.leL_nil | refine PV.leL_cons ?_ ?_ | refine And.intro ?_ ?_ | exact Nat.zero_lt_succ _ | exact Nat.le_of_ble_eq_true rfl | exact PV.le_refl _ | exact PV.le_nil _ _ _ | exact PV.le_clip _ _ _ | refine PV.le_agg ?_ | refine PV.le_tup ?_ | rfl)); fail_if_success (any_goals (refine PV.le_of ?_))) | refine call_p (q5) (by kernel_rfl) rfl ?_ | (refine call_z q2 (by kernel_rfl) rfl ?_; refine And.intro ⟨rfl, Nat.zero_lt_succ _, (by simp)⟩ ?_))) | ((fail_if_success with_reducible first | show LeG _ _ | show Lp _ _ _ _ | show Exists _ | show callX _ _ _ _ _ | show (_ : Int) ≤ _ | show (_ : Int) < _ | show (_ : Nat) ≤ _ | show (_ : Nat) < _); (conv => whnf) <;> (first | exact cl2 | refine Br.dec (fun hc => absurd hc hno) (fun hc => ?_) | refine XAlt.l ?_ | refine Sq.pr ?_ | refine Br.dec (fun hc => ?_) (fun hc => ?_) | refine Br.tt ?_ | refine Br.ff ?_ | refine Br.not ?_ | refine Br.mk (fun hc => ?_) (fun hc => ?_) | refine Opt.nn ?_ | refine Opt.ss ?_ | refine AltA.l ?_ | exact PV.leL_nil | refine PV.leL_cons ?_ ?_ | refine And.intro ?_ ?_ | refine ix_map (fun x hx => ?_) | refine exU8 ?_ | refine nilc (fun hn => ?_) ?_ | (refine call_z q2 (by kernel_rfl) rfl ?_; refine And.intro ⟨rfl, Nat.zero_lt_succ _, (by simp)⟩ ?_) | exact cl3 | refine imp0 (fun hpos => ?_) | refine fits_i64 ?_ ?_ | exact rfl | exact trivial | (with_reducible first | show LeG _ _ | show Lp _ _ _ _ | show Exists _ | show callX _ _ _ _ _)))) <;> (try exact cl5)
        all_goals first
        | exact absurd rfl hc
        | (refine PV.le_of (congrArg (PV.sl 7 false) ?_)
           rw [List.drop_zero, List.take_of_length_le (by simp)])
        | skip
        refine Wpc.loopA (α := {j : Nat // j ≤ P.length}) mixed [0, 1, 2, 3, 4, 5, 12, 13, 15, 16, 17, 18, 19, 20, 21, 23, 24, 25, 27, 28, 29, 30, 32, 39, 40, 41, 42, 43, 55, 113, 114, 115, 116, 117, 139, 163, 171] (fun j => [(25, outVI 2 (wideL (IntKind.i64.wrap m) (P.take j.1))), (116, .p (eI j.1))]) (fun j => outHI 2 (wideL (IntKind.i64.wrap m) (P.take j.1))) (fun _ => 0) (fun j => P.length - j.1) ⟨0, by omega⟩ ?_ ?_
        · (first | refine Ent.ofA [] ?_ | refine Ent.ofC [] ?_) <;> (repeat' (first | exact trivial | refine HpLe.dd ?_ | refine HpLe.mk rfl (by simp) rfl (fun h => AObj.noConfusion h) ?_ ?_ | refine And.intro ?_ ?_ | exact cl9 | refine VLe.pe ?_ | refine VLe.agg ?_ | refine VLe.tup ?_ | refine VLe.fn ?_ ?_ | refine VLeL.cons ?_ ?_ | exact VLeL.nil | exact OLe.row _ _ | rfl | refine VLe.rsle rfl ?_ ?_ ?_ | refine OLe.rowe2 ?_ ?_ | refine OLe.mape ?_ ?_ | refine OLe.iter0 ?_ | refine OLe.itere ?_ ?_ | refine OLe.chane ?_ ?_ | refine OLe.mapSe ?_ ?_ ?_ | exact OLe.mapS0 rfl)) <;> try (first | (simp; done) | (congr 1; omega) | (congr 1; (first | (simp; done) | (simp; omega))))
        rintro ⟨j, hj⟩
        have hj : j ≤ P.length := hj
        have hwl : (wideL (IntKind.i64.wrap m) (P.take j)).length ≤ 32 := by
          have h1 := (wideL_len (IntKind.i64.wrap m) (P.take j) []).2
          rw [List.length_take] at h1
          unfold wideL
          simp at h1; omega
        show lpE [(25, outVI 2 (wideL (IntKind.i64.wrap m) (P.take j))), (116, _)] _ _ fun e => lpH (outHI 2 (wideL (IntKind.i64.wrap m) (P.take j))) _ [] fun h => _
        cases hxj : P[j]? with
        | some p =>
          have hltj : j < P.length := (List.getElem?_eq_some_iff.1 hxj).1
          have hyj : ((j : Int) < ((P.map eI).length : Int)) := by rw [List.length_map]; omega
          have ew := wideL_take (m := (IntKind.i64.wrap m)) hxj
          cases hG : wideL (IntKind.i64.wrap m) (P.take j) with
          | nil =>
            rw [hG] at ew
            repeat' (first | exact cl1 | ((with_reducible show Exists _); first | exact exHM _ | refine exU8 ?_) | ((fail_if_success with_reducible first | show LeG _ _ | show Lp _ _ _ _ | show Exists _ | show callX _ _ _ _ _ | show (_ : Int) ≤ _ | show (_ : Int) < _ | show (_ : Nat) ≤ _ | show (_ : Nat) < _); (conv => whnf) <;> (first | exact cl2 | refine Br.dec (fun hc => ?_) (fun hc => absurd hyj hc) | refine ix_at hxj ?_ | refine XAlt.l ?_ | refine Sq.pr ?_ | refine Br.dec (fun hc => ?_) (fun hc => ?_) | refine Br.tt ?_ | refine Br.ff ?_ | refine Br.not ?_ | refine Br.mk (fun hc => ?_) (fun hc => ?_) | refine Opt.nn ?_ | refine Opt.ss ?_ | refine AltA.l ?_ | exact PV.leL_nil | refine PV.leL_cons ?_ ?_ | refine And.intro ?_ ?_ | refine ix_map (fun x hx => ?_) | refine exU8 ?_ | refine nilc (fun hn => ?_) ?_ | exact cl3 | refine imp0 (fun hpos => ?_) | refine fits_i64 ?_ ?_ | exact rfl | exact trivial | (with_reducible first | show LeG _ _ | show Lp _ _ _ _ | show Exists _ | show callX _ _ _ _ _)))) <;> (try exact cl5)
            all_goals first
            | (have e2 : stepW (IntKind.i64.wrap m) [] p = [(IntKind.i64.wrap m)] ++ [p] := by unfold stepW; rw [decide_eq_true (show (IntKind.i64.wrap m) < p by assumption)]; rfl
               refine ⟨⟨j + 1, hltj⟩, by show P.length - (j + 1) < P.length - j; omega, ?_⟩
               show Ent _ _ (hdS [0, 1, 2, 3, 4, 5, 12, 13, 15, 16, 17, 18, 19, 20, 21, 23, 24, 25, 27, 28, 29, 30, 32, 39, 40, 41, 42, 43, 55, 113, 114, 115, 116, 117, 139, 163, 171] _ _ _ [(25, outVI 2 (wideL (IntKind.i64.wrap m) (P.take (j + 1)))), (116, .p (eI ((j + 1 : Nat) : Int)))] (outHI 2 (wideL (IntKind.i64.wrap m) (P.take (j + 1)))) _)
               rw [ew, e2]
               (first | refine Ent.ofA [] ?_ | refine Ent.ofC [] ?_) <;> (repeat' (first | exact trivial | refine HpLe.dd ?_ | refine HpLe.mk rfl (by simp) rfl (fun h => AObj.noConfusion h) ?_ ?_ | refine And.intro ?_ ?_ | exact cl9 | refine VLe.pe ?_ | refine VLe.agg ?_ | refine VLe.tup ?_ | refine VLe.fn ?_ ?_ | refine VLeL.cons ?_ ?_ | exact VLeL.nil | exact OLe.row _ _ | rfl | refine VLe.rsle rfl ?_ ?_ ?_ | refine OLe.rowe2 ?_ ?_ | refine OLe.mape ?_ ?_ | refine OLe.iter0 ?_ | refine OLe.itere ?_ ?_ | refine OLe.chane ?_ ?_ | refine OLe.mapSe ?_ ?_ ?_ | exact OLe.mapS0 rfl)) <;> try (first | (simp; done) | (congr 1; omega) | (congr 1; (first | (simp; done) | (simp; omega))))
               all_goals (first | exact fixA _ _ _ _ | (simp; done) | skip))
            | (have e2 : stepW (IntKind.i64.wrap m) [] p = [p] := by unfold stepW; rw [decide_eq_false (show ¬ (IntKind.i64.wrap m) < p by assumption)]; rfl
               refine ⟨⟨j + 1, hltj⟩, by show P.length - (j + 1) < P.length - j; omega, ?_⟩
               show Ent _ _ (hdS [0, 1, 2, 3, 4, 5, 12, 13, 15, 16, 17, 18, 19, 20, 21, 23, 24, 25, 27, 28, 29, 30, 32, 39, 40, 41, 42, 43, 55, 113, 114, 115, 116, 117, 139, 163, 171] _ _ _ [(25, outVI 2 (wideL (IntKind.i64.wrap m) (P.take (j + 1)))), (116, .p (eI ((j + 1 : Nat) : Int)))] (outHI 2 (wideL (IntKind.i64.wrap m) (P.take (j + 1)))) _)
               rw [ew, e2]
               (first | refine Ent.ofA [] ?_ | refine Ent.ofC [] ?_) <;> (repeat' (first | exact trivial | refine HpLe.dd ?_ | refine HpLe.mk rfl (by simp) rfl (fun h => AObj.noConfusion h) ?_ ?_ | refine And.intro ?_ ?_ | exact cl9 | refine VLe.pe ?_ | refine VLe.agg ?_ | refine VLe.tup ?_ | refine VLe.fn ?_ ?_ | refine VLeL.cons ?_ ?_ | exact VLeL.nil | exact OLe.row _ _ | rfl | refine VLe.rsle rfl ?_ ?_ ?_ | refine OLe.rowe2 ?_ ?_ | refine OLe.mape ?_ ?_ | refine OLe.iter0 ?_ | refine OLe.itere ?_ ?_ | refine OLe.chane ?_ ?_ | refine OLe.mapSe ?_ ?_ ?_ | exact OLe.mapS0 rfl)) <;> try (first | (simp; done) | (congr 1; omega) | (congr 1; (first | (simp; done) | (simp; omega))))
               all_goals (first | exact fixA _ _ _ _ | (simp; done) | skip))
            | (exfalso; simp_all; done)
            | trace_state
          | cons g gr =>
            rw [hG] at ew hwl
            have hgr : gr.length + 1 ≤ 32 := by simpa using hwl
            obtain ⟨y, hy1, hy2⟩ := last_ix (g := g) (gr := gr)
            have hll : lastLt (IntKind.i64.wrap m) (g :: gr) = decide (y < (IntKind.i64.wrap m)) := by unfold lastLt; rw [hy1]
            repeat' (first | exact cl1 | ((with_reducible show Exists _); first | exact exHM _ | refine exU8 ?_) | ((fail_if_success with_reducible first | show LeG _ _ | show Lp _ _ _ _ | show Exists _ | show callX _ _ _ _ _ | show (_ : Int) ≤ _ | show (_ : Int) < _ | show (_ : Nat) ≤ _ | show (_ : Nat) < _); (conv => whnf) <;> (first | exact cl2 | refine Br.dec (fun hc => ?_) (fun hc => absurd hyj hc) | refine ix_at hxj ?_ | refine ix_at hy2 ?_ | refine XAlt.l ?_ | refine Sq.pr ?_ | refine Br.dec (fun hc => ?_) (fun hc => ?_) | refine Br.tt ?_ | refine Br.ff ?_ | refine Br.not ?_ | refine Br.mk (fun hc => ?_) (fun hc => ?_) | refine Opt.nn ?_ | refine Opt.ss ?_ | refine AltA.l ?_ | exact PV.leL_nil | refine PV.leL_cons ?_ ?_ | refine And.intro ?_ ?_ | refine ix_map (fun x hx => ?_) | refine exU8 ?_ | refine nilc (fun hn => ?_) ?_ | exact cl3 | refine imp0 (fun hpos => ?_) | refine fits_i64 ?_ ?_ | exact rfl | exact trivial | (with_reducible first | show LeG _ _ | show Lp _ _ _ _ | show Exists _ | show callX _ _ _ _ _)))) <;> (try exact cl5)
            (all_goals (try ((first | (with_reducible show (_ : Int) ≤ _) | (with_reducible show (_ : Int) < _) | (with_reducible show (_ : Nat) ≤ _) | (with_reducible show (_ : Nat) < _) | (with_reducible show ¬ _) | (with_reducible show (_ : Int) = _) | (with_reducible show (_ : Nat) = _) | (with_reducible show False)); (try dsimp only at *); (try simp only [List.length_map, List.length_append, List.length_cons, List.length_nil, List.length_replicate, List.length_take, List.length_drop, List.length_set, Int.toNat_natCast, Int.reduceToNat] at *); omega)))
            all_goals first
            | (have e2 : stepW (IntKind.i64.wrap m) (g :: gr) p = (g :: gr) ++ [(IntKind.i64.wrap m)] ++ [p] := by unfold stepW; rw [hll, decide_eq_true (show (IntKind.i64.wrap m) < p by assumption), decide_eq_true (show y < (IntKind.i64.wrap m) by assumption)]; rfl
               refine ⟨⟨j + 1, hltj⟩, by show P.length - (j + 1) < P.length - j; omega, ?_⟩
               show Ent _ _ (hdS [0, 1, 2, 3, 4, 5, 12, 13, 15, 16, 17, 18, 19, 20, 21, 23, 24, 25, 27, 28, 29, 30, 32, 39, 40, 41, 42, 43, 55, 113, 114, 115, 116, 117, 139, 163, 171] _ _ _ [(25, outVI 2 (wideL (IntKind.i64.wrap m) (P.take (j + 1)))), (116, .p (eI ((j + 1 : Nat) : Int)))] (outHI 2 (wideL (IntKind.i64.wrap m) (P.take (j + 1)))) _)
               rw [ew, e2]
               (first | refine Ent.ofA [] ?_ | refine Ent.ofC [] ?_) <;> (repeat' (first | exact trivial | refine HpLe.dd ?_ | refine HpLe.mk rfl (by simp) rfl (fun h => AObj.noConfusion h) ?_ ?_ | refine And.intro ?_ ?_ | exact cl9 | refine VLe.pe ?_ | refine VLe.agg ?_ | refine VLe.tup ?_ | refine VLe.fn ?_ ?_ | refine VLeL.cons ?_ ?_ | exact VLeL.nil | exact OLe.row _ _ | rfl | refine VLe.rsle rfl ?_ ?_ ?_ | refine OLe.rowe2 ?_ ?_ | refine OLe.mape ?_ ?_ | refine OLe.iter0 ?_ | refine OLe.itere ?_ ?_ | refine OLe.chane ?_ ?_ | refine OLe.mapSe ?_ ?_ ?_ | exact OLe.mapS0 rfl)) <;> try (first | (simp; done) | (congr 1; omega) | (congr 1; (first | (simp; done) | (simp; omega))))
               all_goals (first | exact fixA _ _ _ _ | (simp; done) | skip))
            | (have e2 : stepW (IntKind.i64.wrap m) (g :: gr) p = (g :: gr) ++ [p] := by unfold stepW; rw [hll, decide_eq_false (show ¬ y < (IntKind.i64.wrap m) by assumption), Bool.and_false]; rfl
               refine ⟨⟨j + 1, hltj⟩, by show P.length - (j + 1) < P.length - j; omega, ?_⟩
               show Ent _ _ (hdS [0, 1, 2, 3, 4, 5, 12, 13, 15, 16, 17, 18, 19, 20, 21, 23, 24, 25, 27, 28, 29, 30, 32, 39, 40, 41, 42, 43, 55, 113, 114, 115, 116, 117, 139, 163, 171] _ _ _ [(25, outVI 2 (wideL (IntKind.i64.wrap m) (P.take (j + 1)))), (116, .p (eI ((j + 1 : Nat) : Int)))] (outHI 2 (wideL (IntKind.i64.wrap m) (P.take (j + 1)))) _)
               rw [ew, e2]
               (first | refine Ent.ofA [] ?_ | refine Ent.ofC [] ?_) <;> (repeat' (first | exact trivial | refine HpLe.dd ?_ | refine HpLe.mk rfl (by simp) rfl (fun h => AObj.noConfusion h) ?_ ?_ | refine And.intro ?_ ?_ | exact cl9 | refine VLe.pe ?_ | refine VLe.agg ?_ | refine VLe.tup ?_ | refine VLe.fn ?_ ?_ | refine VLeL.cons ?_ ?_ | exact VLeL.nil | exact OLe.row _ _ | rfl | refine VLe.rsle rfl ?_ ?_ ?_ | refine OLe.rowe2 ?_ ?_ | refine OLe.mape ?_ ?_ | refine OLe.iter0 ?_ | refine OLe.itere ?_ ?_ | refine OLe.chane ?_ ?_ | refine OLe.mapSe ?_ ?_ ?_ | exact OLe.mapS0 rfl)) <;> try (first | (simp; done) | (congr 1; omega) | (congr 1; (first | (simp; done) | (simp; omega))))
               all_goals (first | exact fixA _ _ _ _ | (simp; done) | skip))
            | (have e2 : stepW (IntKind.i64.wrap m) (g :: gr) p = (g :: gr) ++ [p] := by unfold stepW; rw [decide_eq_false (show ¬ (IntKind.i64.wrap m) < p by assumption)]; rfl
               refine ⟨⟨j + 1, hltj⟩, by show P.length - (j + 1) < P.length - j; omega, ?_⟩
               show Ent _ _ (hdS [0, 1, 2, 3, 4, 5, 12, 13, 15, 16, 17, 18, 19, 20, 21, 23, 24, 25, 27, 28, 29, 30, 32, 39, 40, 41, 42, 43, 55, 113, 114, 115, 116, 117, 139, 163, 171] _ _ _ [(25, outVI 2 (wideL (IntKind.i64.wrap m) (P.take (j + 1)))), (116, .p (eI ((j + 1 : Nat) : Int)))] (outHI 2 (wideL (IntKind.i64.wrap m) (P.take (j + 1)))) _)
               rw [ew, e2]
               (first | refine Ent.ofA [] ?_ | refine Ent.ofC [] ?_) <;> (repeat' (first | exact trivial | refine HpLe.dd ?_ | refine HpLe.mk rfl (by simp) rfl (fun h => AObj.noConfusion h) ?_ ?_ | refine And.intro ?_ ?_ | exact cl9 | refine VLe.pe ?_ | refine VLe.agg ?_ | refine VLe.tup ?_ | refine VLe.fn ?_ ?_ | refine VLeL.cons ?_ ?_ | exact VLeL.nil | exact OLe.row _ _ | rfl | refine VLe.rsle rfl ?_ ?_ ?_ | refine OLe.rowe2 ?_ ?_ | refine OLe.mape ?_ ?_ | refine OLe.iter0 ?_ | refine OLe.itere ?_ ?_ | refine OLe.chane ?_ ?_ | refine OLe.mapSe ?_ ?_ ?_ | exact OLe.mapS0 rfl)) <;> try (first | (simp; done) | (congr 1; omega) | (congr 1; (first | (simp; done) | (simp; omega))))
               all_goals (first | exact fixA _ _ _ _ | (simp; done) | skip))
            | (exfalso; simp_all; done)
            | trace_state
        | none =>
          have hgej : P.length ≤ j := List.getElem?_eq_none_iff.1 hxj
          have hnoj : ¬ ((j : Int) < ((P.map eI).length : Int)) := by rw [List.length_map]; omega
          rw [List.take_of_length_le hgej] at hwl ⊢
          cases hG2 : wideL (IntKind.i64.wrap m) P with
          | nil =>
            have hW : wideF (IntKind.i64.wrap m) P = [(IntKind.i64.wrap m)] := by unfold wideF; rw [hG2]; rfl
            rw [hW] at q8
            have q8 := q8 (by show 1 ≤ 16; decide)
            repeat' (first | exact cl1 | ((with_reducible show Exists _); first | exact exHM _ | refine exU8 ?_) | ((with_reducible show callX _ _ _ _ _); (first | refine call_p (q9) (by kernel_rfl) rfl ?_ | (refine call_z (q8) (by kernel_rfl) rfl ?_; (repeat' (first | exact PV.leL_nil | refine PV.leL_cons ?_ ?_ | refine And.intro ?_ ?_ | exact Nat.zero_lt_succ _ | exact Nat.le_of_ble_eq_true rfl | exact PV.le_refl _ | exact PV.le_nil _ _ _ | exact PV.le_clip _ _ _ | refine PV.le_agg ?_ | refine PV.le_tup ?_ | rfl)); fail_if_success (any_goals (refine PV.le_of ?_))))) | ((fail_if_success with_reducible first | show LeG _ _ | show Lp _ _ _ _ | show Exists _ | show callX _ _ _ _ _ | show (_ : Int) ≤ _ | show (_ : Int) < _ | show (_ : Nat) ≤ _ | show (_ : Nat) < _); (conv => whnf) <;> (first | exact cl2 | refine Br.dec (fun hc => absurd hc hnoj) (fun hc => ?_) | refine XAlt.l ?_ | refine Sq.pr ?_ | refine Br.dec (fun hc => ?_) (fun hc => ?_) | refine Br.tt ?_ | refine Br.ff ?_ | refine Br.not ?_ | refine Br.mk (fun hc => ?_) (fun hc => ?_) | refine Opt.nn ?_ | refine Opt.ss ?_ | refine AltA.l ?_ | exact PV.leL_nil | refine PV.leL_cons ?_ ?_ | refine And.intro ?_ ?_ | refine ix_map (fun x hx => ?_) | refine exU8 ?_ | refine nilc (fun hn => ?_) ?_ | exact cl3 | refine imp0 (fun hpos => ?_) | refine fits_i64 ?_ ?_ | exact rfl | exact trivial | (with_reducible first | show LeG _ _ | show Lp _ _ _ _ | show Exists _ | show callX _ _ _ _ _)))) <;> (try exact cl5)
            all_goals first
            | exact absurd rfl hc
            | (refine LeG.bool ?_; simp_all; done)
            | (exfalso; simp_all; done)
            | trace_state
          | cons g gr =>
            rw [hG2] at hwl
            have hgr : gr.length + 1 ≤ 32 := by simpa using hwl
            obtain ⟨y, hy1, hy2⟩ := last_ix (g := g) (gr := gr)
            have hll : lastLt (IntKind.i64.wrap m) (g :: gr) = decide (y < (IntKind.i64.wrap m)) := by unfold lastLt; rw [hy1]
            by_cases hym : y < (IntKind.i64.wrap m)
            · have hW : wideF (IntKind.i64.wrap m) P = (g :: gr) ++ [(IntKind.i64.wrap m)] := by unfold wideF; rw [hG2, hll, decide_eq_true hym]; rfl
              by_cases h16 : gr.length + 2 ≤ 16
              · have q8 := q8 (by rw [hW]; simp; omega)
                rw [hW] at q8
                have h16i : ¬ (16 : Int) < ((gr.length + 1 + 1 : Nat) : Int) := by omega
                repeat' (first | exact cl1 | ((with_reducible show Exists _); first | exact exHM _ | refine exU8 ?_) | ((with_reducible show callX _ _ _ _ _); (first | refine call_p (q9) (by kernel_rfl) rfl ?_ | refine call_z q8 (by kernel_rfl) rfl ?_)) | ((fail_if_success with_reducible first | show LeG _ _ | show Lp _ _ _ _ | show Exists _ | show callX _ _ _ _ _ | show (_ : Int) ≤ _ | show (_ : Int) < _ | show (_ : Nat) ≤ _ | show (_ : Nat) < _); (conv => whnf) <;> (first | exact cl2 | refine Br.dec (fun hc => absurd hc hnoj) (fun hc => ?_) | refine ix_at hy2 ?_ | refine Br.dec (fun hc => ?_) (fun hc => absurd hym hc) | refine Br.dec (fun hc => absurd hc h16i) (fun hc => ?_) | refine XAlt.l ?_ | refine Sq.pr ?_ | refine Br.dec (fun hc => ?_) (fun hc => ?_) | refine Br.tt ?_ | refine Br.ff ?_ | refine Br.not ?_ | refine Br.mk (fun hc => ?_) (fun hc => ?_) | refine Opt.nn ?_ | refine Opt.ss ?_ | refine AltA.l ?_ | exact PV.leL_nil | refine PV.leL_cons ?_ ?_ | refine And.intro ?_ ?_ | refine ix_map (fun x hx => ?_) | refine exU8 ?_ | refine nilc (fun hn => ?_) ?_ | refine call_z q8 (by kernel_rfl) rfl ?_ | exact cl3 | refine imp0 (fun hpos => ?_) | refine fits_i64 ?_ ?_ | exact rfl | exact trivial | (with_reducible first | show LeG _ _ | show Lp _ _ _ _ | show Exists _ | show callX _ _ _ _ _)))) <;> (try exact cl5)
                (all_goals (try ((first | (with_reducible show (_ : Int) ≤ _) | (with_reducible show (_ : Int) < _) | (with_reducible show (_ : Nat) ≤ _) | (with_reducible show (_ : Nat) < _) | (with_reducible show ¬ _) | (with_reducible show (_ : Int) = _) | (with_reducible show (_ : Nat) = _) | (with_reducible show False)); (try dsimp only at *); (try simp only [List.length_map, List.length_append, List.length_cons, List.length_nil, List.length_replicate, List.length_take, List.length_drop, List.length_set, Int.toNat_natCast, Int.reduceToNat] at *); omega)))
                all_goals first
                | exact absurd rfl hc
                | (refine LeG.bool ?_; simp_all; done)
                | exact fixB _ _ _
                | exact fixC _ _
                | (exfalso; simp_all; done)
                | trace_state
              · have h16i : (16 : Int) < ((gr.length + 1 + 1 : Nat) : Int) := by omega
                repeat' (first | exact cl1 | ((with_reducible show Exists _); first | exact exHM _ | refine exU8 ?_) | ((fail_if_success with_reducible first | show LeG _ _ | show Lp _ _ _ _ | show Exists _ | show callX _ _ _ _ _ | show (_ : Int) ≤ _ | show (_ : Int) < _ | show (_ : Nat) ≤ _ | show (_ : Nat) < _); (conv => whnf) <;> (first | exact cl2 | refine Br.dec (fun hc => absurd hc hnoj) (fun hc => ?_) | refine ix_at hy2 ?_ | refine Br.dec (fun hc => ?_) (fun hc => absurd hym hc) | refine Br.dec (fun hc => ?_) (fun hc => absurd h16i hc) | refine XAlt.l ?_ | refine Sq.pr ?_ | refine Br.dec (fun hc => ?_) (fun hc => ?_) | refine Br.tt ?_ | refine Br.ff ?_ | refine Br.not ?_ | refine Br.mk (fun hc => ?_) (fun hc => ?_) | refine Opt.nn ?_ | refine Opt.ss ?_ | refine AltA.l ?_ | exact PV.leL_nil | refine PV.leL_cons ?_ ?_ | refine And.intro ?_ ?_ | refine ix_map (fun x hx => ?_) | refine exU8 ?_ | refine nilc (fun hn => ?_) ?_ | exact cl3 | refine imp0 (fun hpos => ?_) | refine fits_i64 ?_ ?_ | exact rfl | exact trivial | (with_reducible first | show LeG _ _ | show Lp _ _ _ _ | show Exists _ | show callX _ _ _ _ _)))) <;> (try exact cl5)
                (all_goals (try ((first | (with_reducible show (_ : Int) ≤ _) | (with_reducible show (_ : Int) < _) | (with_reducible show (_ : Nat) ≤ _) | (with_reducible show (_ : Nat) < _) | (with_reducible show ¬ _) | (with_reducible show (_ : Int) = _) | (with_reducible show (_ : Nat) = _) | (with_reducible show False)); (try dsimp only at *); (try simp only [List.length_map, List.length_append, List.length_cons, List.length_nil, List.length_replicate, List.length_take, List.length_drop, List.length_set, Int.toNat_natCast, Int.reduceToNat] at *); omega)))
                all_goals first
                | exact absurd rfl hc
                | trace_state
            · have hW : wideF (IntKind.i64.wrap m) P = g :: gr := by unfold wideF; rw [hG2, hll, decide_eq_false hym]; rfl
              by_cases h16 : gr.length + 1 ≤ 16
              · have q8 := q8 (by rw [hW]; simp; omega)
                rw [hW] at q8
                have h16i : ¬ (16 : Int) < ((gr.length + 1 : Nat) : Int) := by omega
                repeat' (first | exact cl1 | ((with_reducible show Exists _); first | exact exHM _ | refine exU8 ?_) | ((with_reducible show callX _ _ _ _ _); (first | refine call_p (q9) (by kernel_rfl) rfl ?_ | refine call_z q8 (by kernel_rfl) rfl ?_)) | ((fail_if_success with_reducible first | show LeG _ _ | show Lp _ _ _ _ | show Exists _ | show callX _ _ _ _ _ | show (_ : Int) ≤ _ | show (_ : Int) < _ | show (_ : Nat) ≤ _ | show (_ : Nat) < _); (conv => whnf) <;> (first | exact cl2 | refine Br.dec (fun hc => absurd hc hnoj) (fun hc => ?_) | refine ix_at hy2 ?_ | refine Br.dec (fun hc => absurd hc hym) (fun hc => ?_) | refine Br.dec (fun hc => absurd hc h16i) (fun hc => ?_) | refine XAlt.l ?_ | refine Sq.pr ?_ | refine Br.dec (fun hc => ?_) (fun hc => ?_) | refine Br.tt ?_ | refine Br.ff ?_ | refine Br.not ?_ | refine Br.mk (fun hc => ?_) (fun hc => ?_) | refine Opt.nn ?_ | refine Opt.ss ?_ | refine AltA.l ?_ | exact PV.leL_nil | refine PV.leL_cons ?_ ?_ | refine And.intro ?_ ?_ | refine ix_map (fun x hx => ?_) | refine exU8 ?_ | refine nilc (fun hn => ?_) ?_ | refine call_z q8 (by kernel_rfl) rfl ?_ | exact cl3 | refine imp0 (fun hpos => ?_) | refine fits_i64 ?_ ?_ | exact rfl | exact trivial | (with_reducible first | show LeG _ _ | show Lp _ _ _ _ | show Exists _ | show callX _ _ _ _ _)))) <;> (try exact cl5)
                (all_goals (try ((first | (with_reducible show (_ : Int) ≤ _) | (with_reducible show (_ : Int) < _) | (with_reducible show (_ : Nat) ≤ _) | (with_reducible show (_ : Nat) < _) | (with_reducible show ¬ _) | (with_reducible show (_ : Int) = _) | (with_reducible show (_ : Nat) = _) | (with_reducible show False)); (try dsimp only at *); (try simp only [List.length_map, List.length_append, List.length_cons, List.length_nil, List.length_replicate, List.length_take, List.length_drop, List.length_set, Int.toNat_natCast, Int.reduceToNat] at *); omega)))
                all_goals first
                | exact absurd rfl hc
                | (refine LeG.bool ?_; simp_all; done)
                | exact fixB _ _ _
                | exact fixC _ _
                | (exfalso; simp_all; done)
                | trace_state
              · have h16i : (16 : Int) < ((gr.length + 1 : Nat) : Int) := by omega
                repeat' (first | exact cl1 | ((with_reducible show Exists _); first | exact exHM _ | refine exU8 ?_) | ((fail_if_success with_reducible first | show LeG _ _ | show Lp _ _ _ _ | show Exists _ | show callX _ _ _ _ _ | show (_ : Int) ≤ _ | show (_ : Int) < _ | show (_ : Nat) ≤ _ | show (_ : Nat) < _); (conv => whnf) <;> (first | exact cl2 | refine Br.dec (fun hc => absurd hc hnoj) (fun hc => ?_) | refine ix_at hy2 ?_ | refine Br.dec (fun hc => absurd hc hym) (fun hc => ?_) | refine Br.dec (fun hc => ?_) (fun hc => absurd h16i hc) | refine XAlt.l ?_ | refine Sq.pr ?_ | refine Br.dec (fun hc => ?_) (fun hc => ?_) | refine Br.tt ?_ | refine Br.ff ?_ | refine Br.not ?_ | refine Br.mk (fun hc => ?_) (fun hc => ?_) | refine Opt.nn ?_ | refine Opt.ss ?_ | refine AltA.l ?_ | exact PV.leL_nil | refine PV.leL_cons ?_ ?_ | refine And.intro ?_ ?_ | refine ix_map (fun x hx => ?_) | refine exU8 ?_ | refine nilc (fun hn => ?_) ?_ | exact cl3 | refine imp0 (fun hpos => ?_) | refine fits_i64 ?_ ?_ | exact rfl | exact trivial | (with_reducible first | show LeG _ _ | show Lp _ _ _ _ | show Exists _ | show callX _ _ _ _ _)))) <;> (try exact cl5)
                (all_goals (try ((first | (with_reducible show (_ : Int) ≤ _) | (with_reducible show (_ : Int) < _) | (with_reducible show (_ : Nat) ≤ _) | (with_reducible show (_ : Nat) < _) | (with_reducible show ¬ _) | (with_reducible show (_ : Int) = _) | (with_reducible show (_ : Nat) = _) | (with_reducible show False)); (try dsimp only at *); (try simp only [List.length_map, List.length_append, List.length_cons, List.length_nil, List.length_replicate, List.length_take, List.length_drop, List.length_set, Int.toNat_natCast, Int.reduceToNat] at *); omega)))
                all_goals first
                | exact absurd rfl hc
                | trace_state
end Go.Proofs.Ythlpjjnfcpjgoaa
