/- A part of the proof: contracts of the functions that the statement reaches. -/
import Derived.Test.YthlpjjnfcpjgoaaChp1
set_option linter.unusedSimpArgs false
set_option linter.unusedVariables false
set_option linter.unnecessarySimpa false
namespace Go.Proofs.Ythlpjjnfcpjgoaa
open Go Go.Sg
set_option maxRecDepth 100000
set_option maxHeartbeats 4000000
theorem right_no {x : It} (h : rightA x = true) : 0 ≤ x.no := by
  unfold rightA wiB at h
  simp only [Bool.and_eq_true, decide_eq_true_eq] at h
  exact h.1.1.1.1.1
theorem chkA_of {l : List It} (h1 : l.length ≤ 4096) (h2 : ∀ x ∈ l, rightA x = true) (h3 : l.Pairwise (fun a b => It.no a < It.no b)) : chkA l = 0 :=
  chkL_ok rightA It.no (by omega) ((okFrom_iff rightA It.no _ _).2 ⟨fun x hx => ⟨h2 x hx, by have := right_no (h2 x hx); omega⟩, h3⟩)
theorem chkA_filter {l : List It} (p : It → Bool) (h : chkA l = 0) : chkA (l.filter p) = 0 := by
  obtain ⟨h1, h2, h3⟩ := chkA_srt h
  exact chkA_of (by have := List.length_filter_le p l; omega) (fun x hx => h2 x (List.mem_filter.1 hx).1) (h3.sublist List.filter_sublist)
theorem stL_later {l : List It} {t k : Int} (ht : 0 ≤ t) (hk : 0 ≤ k) (hz : chkA l = 0) : stL t k (l.filter (cntA t k)) = stL t k l := by
  rw [← stL_eq ht hk hz, ← stL_eq ht hk (chkA_filter _ hz), List.filter_filter]
  refine List.filter_congr fun x hx => ?_
  have hany : (l.filter (cntA t k)).any (badB t k x) = l.any (badB t k x) := by
    rw [Bool.eq_iff_iff, List.any_eq_true, List.any_eq_true]
    constructor
    · rintro ⟨z, hz, h⟩; exact ⟨z, (List.mem_filter.1 hz).1, h⟩
    · rintro ⟨z, hz, h⟩; exact ⟨z, List.mem_filter.2 ⟨hz, ((badB_iff t k x z).1 h).1⟩, h⟩
  unfold stR
  rw [hany]
  cases cntA t k x <;> simp
theorem exam_ok {l : List It} {who : Int} {P : List Int} {t k : Int} (h1 : chkA l = 0) (h2 : argB who P t k = true) : examA l who P t k = 0 := by
  unfold examA; rw [if_pos h1, if_pos h2]
theorem conF_nil {S : List It} (hs : S.Pairwise (fun a b => a.no < b.no)) (who : Int) : (conF S [] who).2 = false := by
  cases h : (conF S [] who).2 with
  | false => rfl
  | true =>
    obtain ⟨⟨p, _, h2⟩, _⟩ := (conF_res hs who []).yes h
    cases h2
/-! ### One more party -/
def lastLt (m : Int) (w : List Int) : Bool := match w.getLast? with
  | none => true
  | some y => decide (y < m)
def stepW (m : Int) (w : List Int) (p : Int) : List Int := (if decide (m < p) && lastLt m w then w ++ [m] else w) ++ [p]
def wideL (m : Int) (P : List Int) : List Int := P.foldl (stepW m) []
def wideF (m : Int) (P : List Int) : List Int := if lastLt m (wideL m P) then wideL m P ++ [m] else wideL m P
theorem lastLt_all {m : Int} {w : List Int} (hw : w.Pairwise (· < ·)) (h : lastLt m w = true) : ∀ a ∈ w, a < m := by
  rcases List.eq_nil_or_concat w with rfl | ⟨v, y, rfl⟩
  · intro a ha; cases ha
  · rw [List.concat_eq_append] at *
    unfold lastLt at h
    rw [List.getLast?_append] at h
    have h : y < m := of_decide_eq_true h
    intro a ha
    rcases List.mem_append.1 ha with ha | ha
    · have := (List.pairwise_append.1 hw).2.2 a ha y (by simp); omega
    · simp at ha; omega
structure WI (Q w : List Int) : Prop where
  srt : w.Pairwise (· < ·)
  rng : ∀ a ∈ w, 0 ≤ a ∧ a ≤ 1048576
  sub : ∀ q ∈ Q, q ∈ w
  bnd : ∀ a ∈ w, ∃ q ∈ Q, a ≤ q
theorem pw_app {w : List Int} {x : Int} (h : w.Pairwise (· < ·)) (hx : ∀ a ∈ w, a < x) : (w ++ [x]).Pairwise (· < ·) :=
  List.pairwise_append.2 ⟨h, by simp, fun a ha b hb => by simp at hb; subst hb; exact hx a ha⟩
theorem WI.step {m : Int} (hm : 0 ≤ m ∧ m ≤ 255) {Q w : List Int} (h : WI Q w) {p : Int} (hp : 0 ≤ p ∧ p ≤ 1048576) (hQ : ∀ q ∈ Q, q < p) : WI (Q ++ [p]) (stepW m w p) := by
  have hlt : ∀ a ∈ w, a < p := fun a ha => by
    obtain ⟨q, hq, h1⟩ := h.bnd a ha
    have := hQ q hq; omega
  unfold stepW
  cases hc : (decide (m < p) && lastLt m w) with
  | true =>
    simp only [Bool.and_eq_true, decide_eq_true_eq] at hc
    rw [if_pos rfl]
    refine ⟨pw_app (pw_app h.srt (lastLt_all h.srt hc.2)) (fun a ha => ?_), fun a ha => ?_, fun q hq => ?_, fun a ha => ?_⟩
    · rcases List.mem_append.1 ha with ha | ha
      · exact hlt a ha
      · simp at ha; omega
    · rcases List.mem_append.1 ha with ha | ha
      · rcases List.mem_append.1 ha with ha | ha
        · exact h.rng a ha
        · simp at ha; omega
      · simp at ha; omega
    · rcases List.mem_append.1 hq with hq | hq
      · exact List.mem_append_left _ (List.mem_append_left _ (h.sub q hq))
      · exact List.mem_append_right _ hq
    · refine ⟨p, by simp, ?_⟩
      rcases List.mem_append.1 ha with ha | ha
      · rcases List.mem_append.1 ha with ha | ha
        · have := hlt a ha; omega
        · simp at ha; omega
      · simp at ha; omega
  | false =>
    rw [if_neg Bool.false_ne_true]
    refine ⟨pw_app h.srt hlt, fun a ha => ?_, fun q hq => ?_, fun a ha => ?_⟩
    · rcases List.mem_append.1 ha with ha | ha
      · exact h.rng a ha
      · simp at ha; omega
    · rcases List.mem_append.1 hq with hq | hq
      · exact List.mem_append_left _ (h.sub q hq)
      · exact List.mem_append_right _ hq
    · refine ⟨p, by simp, ?_⟩
      rcases List.mem_append.1 ha with ha | ha
      · have := hlt a ha; omega
      · simp at ha; omega
theorem WI.fold {m : Int} (hm : 0 ≤ m ∧ m ≤ 255) : ∀ (r Q w : List Int), WI Q w → (∀ p ∈ r, 0 ≤ p ∧ p ≤ 1048576) → (Q ++ r).Pairwise (· < ·) → WI (Q ++ r) (r.foldl (stepW m) w)
  | [], Q, w, h, _, _ => by rw [List.append_nil]; exact h
  | p :: r, Q, w, h, hr, hs => by
    have e : Q ++ p :: r = (Q ++ [p]) ++ r := by simp
    rw [e] at hs ⊢
    have hs2 := List.pairwise_append.1 hs
    have hq := (List.pairwise_append.1 hs2.1).2.2
    exact WI.fold hm r (Q ++ [p]) (stepW m w p) (h.step hm (hr p (by simp)) (fun q hq' => hq q hq' p (by simp))) (fun x hx => hr x (List.mem_cons_of_mem _ hx)) hs
theorem okP_iff {P : List Int} : okP P = true ↔ (∀ p ∈ P, 0 ≤ p ∧ p ≤ 1048576) ∧ P.Pairwise (· < ·) := by
  unfold okP
  rw [okFrom_iff]
  constructor
  · rintro ⟨h1, h2⟩
    refine ⟨fun p hp => ?_, h2⟩
    have := (h1 p hp).1
    unfold wiB at this
    simp only [Bool.and_eq_true, decide_eq_true_eq] at this
    omega
  · rintro ⟨h1, h2⟩
    refine ⟨fun p hp => ?_, h2⟩
    have := h1 p hp
    refine ⟨?_, by show (-1 : Int) < p; omega⟩
    unfold wiB
    rw [decide_eq_true this.1, decide_eq_true (by omega)]; rfl
theorem wide_ok {m : Int} (hm : 0 ≤ m ∧ m ≤ 255) {P : List Int} (h : okP P = true) : okP (wideF m P) = true ∧ ∀ p ∈ P, p ∈ wideF m P := by
  obtain ⟨h1, h2⟩ := okP_iff.1 h
  have W := WI.fold hm P [] [] ⟨List.Pairwise.nil, fun a ha => (by cases ha), fun a ha => (by cases ha), fun a ha => (by cases ha)⟩ h1 h2
  rw [List.nil_append] at W
  have W : WI P (wideL m P) := W
  unfold wideF
  cases hl : lastLt m (wideL m P) with
  | true =>
    rw [if_pos rfl]
    refine ⟨okP_iff.2 ⟨fun a ha => ?_, pw_app W.srt (lastLt_all W.srt hl)⟩, fun p hp => List.mem_append_left _ (W.sub p hp)⟩
    rcases List.mem_append.1 ha with ha | ha
    · exact W.rng a ha
    · simp at ha; omega
  | false =>
    rw [if_neg Bool.false_ne_true]
    exact ⟨okP_iff.2 ⟨W.rng, W.srt⟩, W.sub⟩
theorem wideL_take {m : Int} {P : List Int} {i : Nat} {p : Int} (h : P[i]? = some p) : wideL m (P.take (i + 1)) = stepW m (wideL m (P.take i)) p := by
  unfold wideL; rw [List.take_add_one, h]; simp [List.foldl_append]
theorem stepW_len (m : Int) (w : List Int) (p : Int) : w.length + 1 ≤ (stepW m w p).length ∧ (stepW m w p).length ≤ w.length + 2 := by
  unfold stepW; split <;> simp
theorem wideL_len (m : Int) : ∀ (P w : List Int), w.length ≤ (P.foldl (stepW m) w).length ∧ (P.foldl (stepW m) w).length ≤ w.length + 2 * P.length
  | [], w => by simp
  | p :: P, w => by
    have h1 := stepW_len m w p
    have h2 := wideL_len m P (stepW m w p)
    simp only [List.foldl_cons, List.length_cons]; omega
/-- With more parties there is no less conflict. -/
theorem wide_law {S : List It} (hs : S.Pairwise (fun a b => a.no < b.no)) {who : Int} {P W : List Int} (hsub : ∀ p ∈ P, p ∈ W) (h : (conF S P who).2 = true) : (conF S W who).2 = true ∧ befB (conF S P who).1 (conF S W who).1 = false := by
  obtain ⟨⟨p, h1, h2⟩, h3, h4, _⟩ := (conF_res hs who P).yes h
  have hw : hasB W p = true := by
    unfold hasB at h2 ⊢
    rw [List.any_eq_true] at h2 ⊢
    obtain ⟨x, hx, e⟩ := h2
    exact ⟨x, hsub x hx, e⟩
  have R := conF_res hs who W
  cases hc : (conF S W who).2 with
  | false => have := (R.no hc).2 _ p h1 h3 h4; rw [hw] at this; cases this
  | true => exact ⟨rfl, (R.yes hc).2.2.2 _ p h1 h3 h4 hw⟩
end Go.Proofs.Ythlpjjnfcpjgoaa

namespace Go.Proofs.Ythlpjjnfcpjgoaa
open Go Go.Sg
set_option maxRecDepth 100000
set_option maxHeartbeats 4000000
theorem addA_zero {l : List It} {x : It} (h : (addA l x).2 = 0) : chkA l = 0 ∧ (addA l x).1 = insN It.no l x ∧ rightA x = true ∧ hasN It.no x.no l = false ∧ l.length ≠ 4096 := by
  by_cases hz : chkA l = 0
  · rw [addA_ok hz] at h ⊢
    split at h
    · rename_i hr
      rw [if_pos hr]
      split at h
      · cases h
      · rename_i hh
        rw [if_neg hh]
        split at h
        · cases h
        · rename_i hn
          rw [if_neg hn]
          exact ⟨hz, rfl, hr, by simpa using hh, by omega⟩
    · cases h
  · rw [addA_no hz] at h
    exact absurd h hz
theorem addA_len {l : List It} {x : It} (h : (addA l x).2 ≠ 0) : (addA l x).1 = [] := by
  by_cases hz : chkA l = 0
  · rw [addA_ok hz] at h ⊢
    split
    · rename_i hr
      rw [if_pos hr] at h
      split
      · rfl
      · rename_i hh
        rw [if_neg hh] at h
        split
        · rfl
        · rename_i hn
          rw [if_neg hn] at h
          exact absurd rfl h
    · rfl
  · rw [addA_no hz]
theorem addA_is {l : List It} {x : It} (hz : chkA l = 0) (hr : rightA x = true) (hh : hasN It.no x.no l = false) (hn : l.length ≠ 4096) : addA l x = (insN It.no l x, 0) := by
  rw [addA_ok hz, if_pos hr, if_neg (by rw [hh]; exact Bool.false_ne_true), if_neg (by omega)]
theorem chkA_ins {l : List It} {x : It} (hz : chkA l = 0) (hr : rightA x = true) (hh : hasN It.no x.no l = false) (hn : l.length ≠ 4096) : chkA (insN It.no l x) = 0 := by
  obtain ⟨h1, h2⟩ := chkL_zero rightA It.no (by decide) hz
  refine chkL_ok rightA It.no ?_ (ok_insN rightA It.no h2 hr (by have := right_no hr; omega) hh)
  rw [length_insN]; omega
theorem any_ins {l : List It} {x : It} (p : It → Bool) : (insN It.no l x).any p = (p x || l.any p) := by
  rw [Bool.eq_iff_iff, List.any_eq_true, Bool.or_eq_true, List.any_eq_true]
  constructor
  · rintro ⟨y, hy, h⟩
    rcases (mem_insN It.no).1 hy with rfl | hy
    · exact .inl h
    · exact .inr ⟨y, hy, h⟩
  · rintro (h | ⟨y, hy, h⟩)
    · exact ⟨x, (mem_insN It.no).2 (.inl rfl), h⟩
    · exact ⟨y, (mem_insN It.no).2 (.inr hy), h⟩
/-- More entries that stand: no less conflict. -/
theorem prov_mono {S S' : List It} (hs : S.Pairwise (fun a b => a.no < b.no)) (hs' : S'.Pairwise (fun a b => a.no < b.no)) (hsub : ∀ x ∈ S, x ∈ S') : ∀ (q : List Int) (b : Bool) (p r : Int), provF (byF S) b q p = some r → provF (byF S') b q p = some r
  | [], _, _, _, h => h
  | no :: q, b, p, r, h => by
    rw [provF_cons] at h ⊢
    cases hst : stp (byF S) b no p with
    | none => rw [hst] at h; cases h
    | some v =>
      rw [hst] at h
      obtain ⟨x, h1, h2⟩ := (stp_some hs).1 hst
      rw [(stp_some hs').2 ⟨x, hsub x h1, h2⟩]
      exact prov_mono hs hs' hsub q true v r h
theorem conf_mono {S S' : List It} (hs : S.Pairwise (fun a b => a.no < b.no)) (hs' : S'.Pairwise (fun a b => a.no < b.no)) (hsub : ∀ x ∈ S, x ∈ S') {who : Int} {P : List Int} (h : (conF S P who).2 = true) : (conF S' P who).2 = true := by
  obtain ⟨⟨p, h1, h2⟩, h3, h4, _⟩ := (conF_res hs who P).yes h
  cases hc : (conF S' P who).2 with
  | true => rfl
  | false =>
    have := ((conF_res hs' who P).no hc).2 _ p (prov_mono hs hs' hsub _ _ _ _ h1) h3 h4
    rw [h2] at this; cases this
theorem abtB_symm (x y : It) : abtB x y = abtB y x := by
  rw [Bool.eq_iff_iff, abtB_key, abtB_key]; exact eq_comm
section
variable {l : List It} {x : It} {t k : Int}
theorem st_mem (ht : 0 ≤ t) (hk : 0 ≤ k) (hz : chkA l = 0) (y : It) : y ∈ stL t k l ↔ y ∈ l ∧ stR t k l y = true := by rw [← stL_eq ht hk hz, List.mem_filter]
theorem st_more (ht : 0 ≤ t) (hk : 0 ≤ k) (hz : chkA l = 0) (hz2 : chkA (insN It.no l x) = 0) (ha : l.any (fun i => abtB i x) = false) : ∀ y ∈ stL t k l, y ∈ stL t k (insN It.no l x) := fun y hy => by
  obtain ⟨h1, h2⟩ := (st_mem ht hk hz y).1 hy
  refine (st_mem ht hk hz2 y).2 ⟨(mem_insN It.no).2 (.inr h1), ?_⟩
  unfold stR at h2 ⊢
  rw [any_ins]
  have hb : badB t k y x = false := by
    unfold badB
    have := List.any_eq_false.1 ha y h1
    rw [abtB_symm x y]
    cases hab : abtB y x with
    | true => exact absurd hab this
    | false => rfl
  rw [hb]; exact h2
theorem st_less (ht : 0 ≤ t) (hk : 0 ≤ k) (hz : chkA l = 0) (hz2 : chkA (insN It.no l x) = 0) (hg : x.gone = true) : ∀ y ∈ stL t k (insN It.no l x), y ∈ stL t k l := fun y hy => by
  obtain ⟨h1, h2⟩ := (st_mem ht hk hz2 y).1 hy
  rcases (mem_insN It.no).1 h1 with rfl | h1
  · unfold stR at h2; rw [hg] at h2; cases h2
  · refine (st_mem ht hk hz y).2 ⟨h1, ?_⟩
    unfold stR at h2 ⊢
    rw [any_ins] at h2
    simp only [Bool.and_eq_true, Bool.not_eq_true', Bool.or_eq_false_iff] at h2 ⊢
    exact ⟨h2.1, h2.2.2⟩
end
theorem hasN_ins {l : List It} {x : It} (hz : chkA l = 0) (hx : hasN It.no x.no l = false) {n : Int} : hasN It.no n (insN It.no l x) = true ↔ n = x.no ∨ hasN It.no n l = true := by
  obtain ⟨_, _, hs⟩ := chkA_srt hz
  rw [hasN_iff It.no (srt_insN It.no hs hx), hasN_iff It.no hs]
  constructor
  · rintro ⟨y, hy, e⟩
    rcases (mem_insN It.no).1 hy with rfl | hy
    · exact .inl e.symm
    · exact .inr ⟨y, hy, e⟩
  · rintro (h | ⟨y, hy, e⟩)
    · exact ⟨x, (mem_insN It.no).2 (.inl rfl), h.symm⟩
    · exact ⟨y, (mem_insN It.no).2 (.inr hy), e⟩
theorem ins_comm {l : List It} {x z : It} (hz : chkA l = 0) (hx : hasN It.no x.no l = false) (hzl : hasN It.no z.no l = false) (hne : z.no ≠ x.no) : insN It.no (insN It.no l x) z = insN It.no (insN It.no l z) x := by
  obtain ⟨_, _, hs⟩ := chkA_srt hz
  have f1 : hasN It.no z.no (insN It.no l x) = false := by
    cases h : hasN It.no z.no (insN It.no l x) with
    | false => rfl
    | true => rcases (hasN_ins hz hx).1 h with h | h
              · exact absurd h hne
              · rw [hzl] at h; cases h
  have f2 : hasN It.no x.no (insN It.no l z) = false := by
    cases h : hasN It.no x.no (insN It.no l z) with
    | false => rfl
    | true => rcases (hasN_ins hz hzl).1 h with h | h
              · exact absurd h.symm hne
              · rw [hx] at h; cases h
  refine srt_ext It.no (srt_insN It.no (srt_insN It.no hs hx) f1) (srt_insN It.no (srt_insN It.no hs hzl) f2) fun y => ?_
  rw [mem_insN, mem_insN, mem_insN, mem_insN]
  exact ⟨fun h => h.elim (fun h => .inr (.inl h)) (fun h => h.elim .inl (fun h => .inr (.inr h))), fun h => h.elim (fun h => .inr (.inl h)) (fun h => h.elim .inl (fun h => .inr (.inr h)))⟩
end Go.Proofs.Ythlpjjnfcpjgoaa

namespace Go.Proofs.Ythlpjjnfcpjgoaa
open Go Go.Sg
set_option maxRecDepth 100000
set_option maxHeartbeats 20000000
theorem added_calls (l : List It) (x z : It) (who : Int) (P : List Int) (t k : Int) (hPU : P.length < 140737488355328) : PCalls Try.prog 8 [eL l, eA x, eA z, eI who, eIs P, eI t, eI k] (.bool true) := by
  have q0 := lright_calls l who P t k hPU
  cases hr : rightL l who P t k with
  | false =>
    rw [hr] at q0
    refine PCalls.of (N := 161) (res := [.tmp 14]) mixed Try.func8 rfl rfl rfl (by kernel_rfl) (by simp) [0, 1, 2, 3, 4, 5, 6, 8, 9, 14, 15, 16, 18, 19, 21, 22, 23, 25, 26, 27, 28, 29, 30, 31, 33, 45, 53, 82, 83, 84, 85, 86, 120, 134] ?_
    repeat' (first | exact cl1 | ((with_reducible show Exists _); first | exact exHM _ | refine exU8 ?_) | ((with_reducible show callX _ _ _ _ _); (first | refine call_p (sane_calls) (by kernel_rfl) rfl ?_ | refine call_p (q0) (by kernel_rfl) rfl ?_)) | ((fail_if_success with_reducible first | show LeG _ _ | show Lp _ _ _ _ | show Exists _ | show callX _ _ _ _ _ | show (_ : Int) ≤ _ | show (_ : Int) < _ | show (_ : Nat) ≤ _ | show (_ : Nat) < _); (conv => whnf) <;> (first | exact cl2 | refine XAlt.l ?_ | refine Sq.pr ?_ | refine Br.dec (fun hc => ?_) (fun hc => ?_) | refine Br.tt ?_ | refine Br.ff ?_ | refine Br.not ?_ | refine Br.mk (fun hc => ?_) (fun hc => ?_) | refine Opt.nn ?_ | refine Opt.ss ?_ | refine AltA.l ?_ | exact PV.leL_nil | refine PV.leL_cons ?_ ?_ | refine And.intro ?_ ?_ | refine ix_map (fun x hx => ?_) | refine exU8 ?_ | refine nilc (fun hn => ?_) ?_ | exact cl3 | refine imp0 (fun hpos => ?_) | refine fits_i64 ?_ ?_ | exact rfl | exact trivial | (with_reducible first | show LeG _ _ | show Lp _ _ _ _ | show Exists _ | show callX _ _ _ _ _)))) <;> (try exact cl5)
  | true =>
    rw [hr] at q0
    obtain ⟨hl40, hz, hP16⟩ := rightL_ok hr
    have hl : l.length < 1000000 := by omega
    have hP : P.length < 1000000 := by omega
    obtain ⟨hchk, harg⟩ := examA_ok hz
    have htk : 0 ≤ t ∧ 0 ≤ k := by
      unfold argB wiB at harg
      simp only [Bool.and_eq_true, decide_eq_true_eq] at harg
      omega
    by_cases h38 : l.length ≤ 38
    · have h38i : ¬ (38 : Int) < ((l.map eA).length : Int) := by rw [List.length_map]; omega
      have q1 := add_calls l x hl
      by_cases he : (addA l x).2 = 0
      · obtain ⟨_, e1, hrx, hhx, hnx⟩ := addA_zero he
        have hz2 := chkA_ins hchk hrx hhx hnx
        have hyl : (insN It.no l x).length ≤ 39 := by rw [length_insN]; omega
        rw [addA_is hchk hrx hhx hnx] at q1
        have q2 := conflict_calls l who P t k hl hP
        unfold conA at q2
        rw [if_pos hz] at q2
        have q3 := conflict_calls (insN It.no l x) who P t k (by omega) hP
        unfold conA at q3
        rw [if_pos (exam_ok hz2 harg)] at q3
        have hs := stL_srt (t := t) (k := k) hchk
        have hs2 := stL_srt (t := t) (k := k) hz2
        have law1 : l.any (fun i => abtB i x) = false → (conF (stL t k l) P who).2 = true → (conF (stL t k (insN It.no l x)) P who).2 = true := fun ha h => conf_mono hs hs2 (st_more htk.1 htk.2 hchk hz2 ha) h
        have law2 : x.gone = true → (conF (stL t k (insN It.no l x)) P who).2 = true → (conF (stL t k l) P who).2 = true := fun hg h => conf_mono hs2 hs (st_less htk.1 htk.2 hchk hz2 hg) h
        generalize conF (stL t k l) P who = c at *
        generalize conF (stL t k (insN It.no l x)) P who = cy at *
        obtain ⟨own, ok⟩ := c
        obtain ⟨oy, is⟩ := cy
        have law1 : l.any (fun i => abtB i x) = false → ok = true → is = true := law1
        have law2 : x.gone = true → is = true → ok = true := law2
        refine PCalls.of (N := 161) (res := [.tmp 14]) mixed Try.func8 rfl rfl rfl (by kernel_rfl) (by simp) [0, 1, 2, 3, 4, 5, 6, 8, 9, 14, 15, 16, 18, 19, 21, 22, 23, 25, 26, 27, 28, 29, 30, 31, 33, 45, 53, 82, 83, 84, 85, 86, 120, 134] ?_
        repeat' (first | exact cl1 | ((with_reducible show Exists _); first | exact exHM _ | refine exU8 ?_) | ((with_reducible show callX _ _ _ _ _); (first | refine call_p (sane_calls) (by kernel_rfl) rfl ?_ | refine call_p (q0) (by kernel_rfl) rfl ?_ | refine call_p (q1) (by kernel_rfl) rfl ?_ | refine call_p (q2) (by kernel_rfl) rfl ?_ | refine call_p (q3) (by kernel_rfl) rfl ?_)) | ((fail_if_success with_reducible first | show LeG _ _ | show Lp _ _ _ _ | show Exists _ | show callX _ _ _ _ _ | show (_ : Int) ≤ _ | show (_ : Int) < _ | show (_ : Nat) ≤ _ | show (_ : Nat) < _); (conv => whnf) <;> (first | exact cl2 | refine Br.dec (fun hc => absurd hc h38i) (fun hc => ?_) | refine XAlt.l ?_ | refine Sq.pr ?_ | refine Br.dec (fun hc => ?_) (fun hc => ?_) | refine Br.tt ?_ | refine Br.ff ?_ | refine Br.not ?_ | refine Br.mk (fun hc => ?_) (fun hc => ?_) | refine Opt.nn ?_ | refine Opt.ss ?_ | refine AltA.l ?_ | exact PV.leL_nil | refine PV.leL_cons ?_ ?_ | refine And.intro ?_ ?_ | refine ix_map (fun x hx => ?_) | refine exU8 ?_ | refine nilc (fun hn => ?_) ?_ | exact cl3 | refine imp0 (fun hpos => ?_) | refine fits_i64 ?_ ?_ | exact rfl | exact trivial | (with_reducible first | show LeG _ _ | show Lp _ _ _ _ | show Exists _ | show callX _ _ _ _ _)))) <;> (try exact cl5)
        all_goals first
        | exact absurd rfl hc
        | skip
        refine Wpc.loopA (α := {i : Nat // i ≤ l.length}) mixed [0, 1, 2, 3, 4, 5, 6, 8, 9, 14, 15, 16, 18, 19, 21, 22, 23, 25, 26, 27, 28, 29, 30, 31, 33, 45, 53, 82, 83, 84, 85, 86, 120, 134] (fun i => [(23, .p (.bool ((l.take i.1).any fun y => abtB y x))), (85, .p (eI i.1))]) (fun _ => []) (fun _ => 0) (fun i => l.length - i.1) ⟨0, by omega⟩ ?_ ?_
        · (first | refine Ent.ofA [] ?_ | refine Ent.ofC [] ?_) <;> (repeat' (first | exact trivial | refine HpLe.dd ?_ | refine HpLe.mk rfl (by simp) rfl (fun h => AObj.noConfusion h) ?_ ?_ | refine And.intro ?_ ?_ | exact cl9 | refine VLe.pe ?_ | refine VLe.agg ?_ | refine VLe.tup ?_ | refine VLe.fn ?_ ?_ | refine VLeL.cons ?_ ?_ | exact VLeL.nil | exact OLe.row _ _ | rfl | refine VLe.rsle rfl ?_ ?_ ?_ | refine OLe.rowe2 ?_ ?_ | refine OLe.mape ?_ ?_ | refine OLe.iter0 ?_ | refine OLe.itere ?_ ?_ | refine OLe.chane ?_ ?_ | refine OLe.mapSe ?_ ?_ ?_ | exact OLe.mapS0 rfl)) <;> try (first | (simp; done) | (congr 1; omega) | (congr 1; (first | (simp; done) | (simp; omega))))
        rintro ⟨i, hi⟩
        have hi : i ≤ l.length := hi
        cases hxi : l[i]? with
        | some y =>
          have hlt : i < l.length := (List.getElem?_eq_some_iff.1 hxi).1
          have hyes : ((i : Int) < ((l.map eA).length : Int)) := by rw [List.length_map]; omega
          have ea := any_take (p := fun y => abtB y x) hxi
          have q4 := rabout_calls y x
          generalize ha : (l.take i).any (fun y => abtB y x) = a at *
          repeat' (first | exact cl1 | ((with_reducible show Exists _); first | exact exHM _ | refine exU8 ?_) | ((with_reducible show callX _ _ _ _ _); (first | refine call_p (q4) (by kernel_rfl) rfl ?_)) | ((fail_if_success with_reducible first | show LeG _ _ | show Lp _ _ _ _ | show Exists _ | show callX _ _ _ _ _ | show (_ : Int) ≤ _ | show (_ : Int) < _ | show (_ : Nat) ≤ _ | show (_ : Nat) < _); (conv => whnf) <;> (first | exact cl2 | refine Br.dec (fun hc => ?_) (fun hc => absurd hyes hc) | refine ix_at hxi ?_ | refine XAlt.l ?_ | refine Sq.pr ?_ | refine Br.dec (fun hc => ?_) (fun hc => ?_) | refine Br.tt ?_ | refine Br.ff ?_ | refine Br.not ?_ | refine Br.mk (fun hc => ?_) (fun hc => ?_) | refine Opt.nn ?_ | refine Opt.ss ?_ | refine AltA.l ?_ | exact PV.leL_nil | refine PV.leL_cons ?_ ?_ | refine And.intro ?_ ?_ | refine ix_map (fun x hx => ?_) | refine exU8 ?_ | refine nilc (fun hn => ?_) ?_ | exact cl3 | refine imp0 (fun hpos => ?_) | refine fits_i64 ?_ ?_ | exact rfl | exact trivial | (with_reducible first | show LeG _ _ | show Lp _ _ _ _ | show Exists _ | show callX _ _ _ _ _)))) <;> (try exact cl5)
          all_goals (
            refine ⟨⟨i + 1, hlt⟩, by show l.length - (i + 1) < l.length - i; omega, ?_⟩
            show Ent _ _ (hdS _ _ _ _ [(23, .p (.bool ((l.take (i + 1)).any fun y => abtB y x))), (85, .p (eI ((i + 1 : Nat) : Int)))] [] 0)
            rw [ea]
            (first | refine Ent.ofA [] ?_ | refine Ent.ofC [] ?_) <;> (repeat' (first | exact trivial | refine HpLe.dd ?_ | refine HpLe.mk rfl (by simp) rfl (fun h => AObj.noConfusion h) ?_ ?_ | refine And.intro ?_ ?_ | exact cl9 | refine VLe.pe ?_ | refine VLe.agg ?_ | refine VLe.tup ?_ | refine VLe.fn ?_ ?_ | refine VLeL.cons ?_ ?_ | exact VLeL.nil | exact OLe.row _ _ | rfl | refine VLe.rsle rfl ?_ ?_ ?_ | refine OLe.rowe2 ?_ ?_ | refine OLe.mape ?_ ?_ | refine OLe.iter0 ?_ | refine OLe.itere ?_ ?_ | refine OLe.chane ?_ ?_ | refine OLe.mapSe ?_ ?_ ?_ | exact OLe.mapS0 rfl)) <;> try (first | (simp; done) | (congr 1; omega) | (congr 1; (first | (simp; done) | (simp; omega))))
            all_goals first | (simp_all; done) | trace_state)
        | none =>
          have hge : l.length ≤ i := List.getElem?_eq_none_iff.1 hxi
          have hno : ¬ ((i : Int) < ((l.map eA).length : Int)) := by rw [List.length_map]; omega
          show lpE [(23, .p (.bool ((l.take i).any fun y => abtB y x))), (85, _)] _ _ fun e => lpH [] _ [] fun h => _
          rw [List.take_of_length_le hge]
          generalize l.any (fun i => abtB i x) = a at *
          have q5 := add_calls (insN It.no l x) z (by omega)
          have q6 := add_calls l z hl
          have hfin : (if (addA (insN It.no l x) z).2 = 0 then (∃ b, addA l z = (b, 0) ∧ b.length ≤ 39 ∧ addA b x = ((addA (insN It.no l x) z).1, 0)) else ((addA l z).2 ≠ 0 ∨ z.no = x.no)) := by
            split
            · rename_i h0
              obtain ⟨_, e2, hrz, hhz, hnz⟩ := addA_zero h0
              have hzl : hasN It.no z.no l = false := by
                cases h : hasN It.no z.no l with
                | false => rfl
                | true => rw [(hasN_ins hchk hhx).2 (.inr h)] at hhz; cases hhz
              have hne : z.no ≠ x.no := fun e => by rw [(hasN_ins hchk hhx).2 (.inl e)] at hhz; cases hhz
              have hz3 := chkA_ins hchk hrz hzl hnx
              have hxb : hasN It.no x.no (insN It.no l z) = false := by
                cases h : hasN It.no x.no (insN It.no l z) with
                | false => rfl
                | true =>
                  rcases (hasN_ins hchk hzl).1 h with h | h
                  · exact absurd h.symm hne
                  · rw [hhx] at h; cases h
              refine ⟨insN It.no l z, addA_is hchk hrz hzl hnx, by rw [length_insN]; omega, ?_⟩
              rw [addA_is hz3 hrx hxb (by rw [length_insN]; omega), e2, ins_comm hchk hhx hzl hne]
            · rename_i h0
              by_cases hrz : rightA z = true
              · by_cases hzl : hasN It.no z.no l = true
                · left; rw [addA_ok hchk, if_pos hrz, if_pos hzl]; decide
                · right
                  by_cases hne : z.no = x.no
                  · exact hne
                  · exfalso
                    apply h0
                    have hzy : hasN It.no z.no (insN It.no l x) = false := by
                      cases h : hasN It.no z.no (insN It.no l x) with
                      | false => rfl
                      | true =>
                        rcases (hasN_ins hchk hhx).1 h with h | h
                        · exact absurd h hne
                        · exact absurd h hzl
                    rw [addA_is hz2 hrz hzy (by omega)]
              · left; rw [addA_ok hchk, if_neg hrz]; decide
          by_cases h0 : (addA (insN It.no l x) z).2 = 0
          · rw [if_pos h0] at hfin
            obtain ⟨b, hb1, hb2, hb3⟩ := hfin
            have hal : (addA (insN It.no l x) z).1.length < 1000000 := by
              obtain ⟨_, e2, _⟩ := addA_zero h0
              rw [e2, length_insN]; omega
            generalize addA (insN It.no l x) z = w at *
            obtain ⟨wa, we⟩ := w
            have h0 : we = 0 := h0
            subst h0
            rw [hb1] at q6
            have q7 := add_calls b x (by omega)
            rw [hb3] at q7
            have q8 := same_calls wa wa hal
            rw [decide_eq_true rfl] at q8
            repeat' (first | exact cl1 | ((with_reducible show Exists _); first | exact exHM _ | refine exU8 ?_) | ((with_reducible show callX _ _ _ _ _); (first | refine call_p (q5) (by kernel_rfl) rfl ?_ | refine call_p (q6) (by kernel_rfl) rfl ?_ | refine call_p (q7) (by kernel_rfl) rfl ?_ | refine call_p (q8) (by kernel_rfl) rfl ?_)) | ((fail_if_success with_reducible first | show LeG _ _ | show Lp _ _ _ _ | show Exists _ | show callX _ _ _ _ _ | show (_ : Int) ≤ _ | show (_ : Int) < _ | show (_ : Nat) ≤ _ | show (_ : Nat) < _); (conv => whnf) <;> (first | exact cl2 | refine Br.dec (fun hc => absurd hc hno) (fun hc => ?_) | refine XAlt.l ?_ | refine Sq.pr ?_ | refine Br.dec (fun hc => ?_) (fun hc => ?_) | refine Br.tt ?_ | refine Br.ff ?_ | refine Br.not ?_ | refine Br.mk (fun hc => ?_) (fun hc => ?_) | refine Opt.nn ?_ | refine Opt.ss ?_ | refine AltA.l ?_ | exact PV.leL_nil | refine PV.leL_cons ?_ ?_ | refine And.intro ?_ ?_ | refine ix_map (fun x hx => ?_) | refine exU8 ?_ | refine nilc (fun hn => ?_) ?_ | exact cl3 | refine imp0 (fun hpos => ?_) | refine fits_i64 ?_ ?_ | exact rfl | exact trivial | (with_reducible first | show LeG _ _ | show Lp _ _ _ _ | show Exists _ | show callX _ _ _ _ _)))) <;> (try exact cl5)
            all_goals first
            | (exfalso; simp_all; done)
            | (refine LeG.bool ?_; simp_all; done)
            | trace_state
          · rw [if_neg h0] at hfin
            generalize addA (insN It.no l x) z = w at *
            generalize addA l z = v at *
            obtain ⟨wa, we⟩ := w
            obtain ⟨va, ve⟩ := v
            have h0 : ¬ we = 0 := h0
            have hfin : ve ≠ 0 ∨ z.no = x.no := hfin
            repeat' (first | exact cl1 | ((with_reducible show Exists _); first | exact exHM _ | refine exU8 ?_) | ((with_reducible show callX _ _ _ _ _); (first | refine call_p (q5) (by kernel_rfl) rfl ?_ | refine call_p (q6) (by kernel_rfl) rfl ?_)) | ((fail_if_success with_reducible first | show LeG _ _ | show Lp _ _ _ _ | show Exists _ | show callX _ _ _ _ _ | show (_ : Int) ≤ _ | show (_ : Int) < _ | show (_ : Nat) ≤ _ | show (_ : Nat) < _); (conv => whnf) <;> (first | exact cl2 | refine Br.dec (fun hc => absurd hc hno) (fun hc => ?_) | refine XAlt.l ?_ | refine Sq.pr ?_ | refine Br.dec (fun hc => ?_) (fun hc => ?_) | refine Br.tt ?_ | refine Br.ff ?_ | refine Br.not ?_ | refine Br.mk (fun hc => ?_) (fun hc => ?_) | refine Opt.nn ?_ | refine Opt.ss ?_ | refine AltA.l ?_ | exact PV.leL_nil | refine PV.leL_cons ?_ ?_ | refine And.intro ?_ ?_ | refine ix_map (fun x hx => ?_) | refine exU8 ?_ | refine nilc (fun hn => ?_) ?_ | exact cl3 | refine imp0 (fun hpos => ?_) | refine fits_i64 ?_ ?_ | exact rfl | exact trivial | (with_reducible first | show LeG _ _ | show Lp _ _ _ _ | show Exists _ | show callX _ _ _ _ _)))) <;> (try exact cl5)
            all_goals first
            | (exfalso; simp_all; done)
            | (refine LeG.bool ?_; simp_all; done)
            | trace_state
      · have e1 := addA_len he
        have h3 : (addA l x).2 ≠ 0 := he
        generalize addA l x = w at *
        obtain ⟨wa, we⟩ := w
        have e1 : wa = [] := e1
        subst e1
        have he : ¬ we = 0 := he
        refine PCalls.of (N := 161) (res := [.tmp 14]) mixed Try.func8 rfl rfl rfl (by kernel_rfl) (by simp) [0, 1, 2, 3, 4, 5, 6, 8, 9, 14, 15, 16, 18, 19, 21, 22, 23, 25, 26, 27, 28, 29, 30, 31, 33, 45, 53, 82, 83, 84, 85, 86, 120, 134] ?_
        repeat' (first | exact cl1 | ((with_reducible show Exists _); first | exact exHM _ | refine exU8 ?_) | ((with_reducible show callX _ _ _ _ _); (first | refine call_p (sane_calls) (by kernel_rfl) rfl ?_ | refine call_p (q0) (by kernel_rfl) rfl ?_ | refine call_p (q1) (by kernel_rfl) rfl ?_)) | ((fail_if_success with_reducible first | show LeG _ _ | show Lp _ _ _ _ | show Exists _ | show callX _ _ _ _ _ | show (_ : Int) ≤ _ | show (_ : Int) < _ | show (_ : Nat) ≤ _ | show (_ : Nat) < _); (conv => whnf) <;> (first | exact cl2 | refine Br.dec (fun hc => absurd hc h38i) (fun hc => ?_) | refine XAlt.l ?_ | refine Sq.pr ?_ | refine Br.dec (fun hc => ?_) (fun hc => ?_) | refine Br.tt ?_ | refine Br.ff ?_ | refine Br.not ?_ | refine Br.mk (fun hc => ?_) (fun hc => ?_) | refine Opt.nn ?_ | refine Opt.ss ?_ | refine AltA.l ?_ | exact PV.leL_nil | refine PV.leL_cons ?_ ?_ | refine And.intro ?_ ?_ | refine ix_map (fun x hx => ?_) | refine exU8 ?_ | refine nilc (fun hn => ?_) ?_ | exact cl3 | refine imp0 (fun hpos => ?_) | refine fits_i64 ?_ ?_ | exact rfl | exact trivial | (with_reducible first | show LeG _ _ | show Lp _ _ _ _ | show Exists _ | show callX _ _ _ _ _)))) <;> (try exact cl5)
        all_goals first
        | (exfalso; simp_all; done)
        | exact LeG.bool (decide_eq_true rfl)
        | trace_state
    · have h38i : (38 : Int) < ((l.map eA).length : Int) := by rw [List.length_map]; omega
      refine PCalls.of (N := 161) (res := [.tmp 14]) mixed Try.func8 rfl rfl rfl (by kernel_rfl) (by simp) [0, 1, 2, 3, 4, 5, 6, 8, 9, 14, 15, 16, 18, 19, 21, 22, 23, 25, 26, 27, 28, 29, 30, 31, 33, 45, 53, 82, 83, 84, 85, 86, 120, 134] ?_
      repeat' (first | exact cl1 | ((with_reducible show Exists _); first | exact exHM _ | refine exU8 ?_) | ((with_reducible show callX _ _ _ _ _); (first | refine call_p (sane_calls) (by kernel_rfl) rfl ?_ | refine call_p (q0) (by kernel_rfl) rfl ?_)) | ((fail_if_success with_reducible first | show LeG _ _ | show Lp _ _ _ _ | show Exists _ | show callX _ _ _ _ _ | show (_ : Int) ≤ _ | show (_ : Int) < _ | show (_ : Nat) ≤ _ | show (_ : Nat) < _); (conv => whnf) <;> (first | exact cl2 | refine Br.dec (fun hc => ?_) (fun hc => absurd h38i hc) | refine XAlt.l ?_ | refine Sq.pr ?_ | refine Br.dec (fun hc => ?_) (fun hc => ?_) | refine Br.tt ?_ | refine Br.ff ?_ | refine Br.not ?_ | refine Br.mk (fun hc => ?_) (fun hc => ?_) | refine Opt.nn ?_ | refine Opt.ss ?_ | refine AltA.l ?_ | exact PV.leL_nil | refine PV.leL_cons ?_ ?_ | refine And.intro ?_ ?_ | refine ix_map (fun x hx => ?_) | refine exU8 ?_ | refine nilc (fun hn => ?_) ?_ | exact cl3 | refine imp0 (fun hpos => ?_) | refine fits_i64 ?_ ?_ | exact rfl | exact trivial | (with_reducible first | show LeG _ _ | show Lp _ _ _ _ | show Exists _ | show callX _ _ _ _ _)))) <;> (try exact cl5)
end Go.Proofs.Ythlpjjnfcpjgoaa
