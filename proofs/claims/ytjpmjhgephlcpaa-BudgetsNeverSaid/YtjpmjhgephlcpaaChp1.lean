/- A part of the proof: contracts of the functions that the statement reaches. -/
import Derived.Test.YtjpmjhgephlcpaaChp0
set_option linter.unusedSimpArgs false
set_option linter.unusedVariables false
set_option linter.unnecessarySimpa false
namespace Go.Proofs.Ytjpmjhgephlcpaa
open Go Go.Sg
set_option maxRecDepth 100000
set_option maxHeartbeats 4000000
theorem tdiv_bd {a b : Int} (ha : 0 ≤ a) (hb : 1 ≤ b) : 0 ≤ a.tdiv b ∧ a.tdiv b ≤ a := by
  refine ⟨Int.tdiv_nonneg ha (by omega), ?_⟩
  rw [Int.tdiv_eq_ediv_of_nonneg ha]
  exact Int.ediv_le_self b ha
theorem rU_tm {x : Us} (h : rU x = true) : 0 ≤ x.tm ∧ x.tm ≤ TM := by
  simp only [rU, inB, Bool.and_eq_true, decide_eq_true_eq] at h; exact h.2.1
theorem rU_val {x : Us} (h : rU x = true) : 0 ≤ x.val ∧ x.val ≤ 1099511627776 := by
  simp only [rU, inB, Bool.and_eq_true, decide_eq_true_eq] at h; exact h.1.2
theorem used_iter (b : Bg) (u : List Us) (t k : Int) (hl : u.length < 1000000) (hb : 1 ≤ b.per) (ht : 0 ≤ t ∧ t ≤ TM) (hu : ∀ x ∈ u, rU x = true) : Iter Try.prog 48 (capU b u t k) ((u.filter (perB b t k)).map fun y => [eI y.val]) := by
  refine Iter.of (N := 50) mixed Try.func48 rfl rfl rfl (by kernel_rfl) (by simp) [0, 1, 2, 3, 4, 7, 8, 9, 10, 11, 48] ?_
  intro G hG hxx
  repeat' (first | ((with_reducible show _ = _); exact rfl) | ((with_reducible show (_ : Nat) < _); exact Nat.zero_lt_succ _) | ((with_reducible show (_ : Nat) ≤ _); exact Nat.le_of_ble_eq_true rfl) | ((with_reducible show Exists _); refine exU8 ?_) | ((fail_if_success (first | (with_reducible show LeG _ _) | (with_reducible show Lp _ _ _ _) | (with_reducible show Exists _) | (with_reducible show callX _ _ _ _ _) | (with_reducible show (_ : Int) ≤ _) | (with_reducible show (_ : Int) < _) | (with_reducible show (_ : Nat) ≤ _) | (with_reducible show (_ : Nat) < _))); (conv => whnf) <;> (first | exact OkR.mk (by kernel_rfl) | exact OkC.mk (by kernel_rfl) | refine Sq.pr ?_ | refine Br.dec (fun hc => ?_) (fun hc => ?_) | refine Br.tt ?_ | refine Br.ff ?_ | refine Br.not ?_ | refine Br.mk (fun hc => ?_) (fun hc => ?_) | refine Opt.nn ?_ | refine Opt.ss ?_ | refine AltA.l ?_ | exact PV.leL_nil | refine PV.leL_cons ?_ ?_ | refine And.intro ?_ ?_ | refine ix_map (fun x hx => ?_) | refine exU8 ?_ | refine nilc (fun hn => ?_) ?_ | exact PV.le_refl _ | exact Nat.zero_lt_succ _ | exact Nat.le_of_ble_eq_true rfl | exact onesOf rfl | exact Or.inl rfl | exact noMem | exact onesOfP rfl | exact okAll rfl | exact okMap (fun _ => ⟨rfl, onesOfP rfl⟩) | exact nonz | refine imp0 (fun hpos => ?_) | refine fits_i64 ?_ ?_ | exact rfl | (with_reducible show LeG _ _) | (with_reducible show Lp _ _ _ _) | (with_reducible show Exists _) | (with_reducible show callX _ _ _ _ _)))) <;> (try (first | exact LeG.refl _ | omega | ((first | (with_reducible show (_ : Int) ≤ _) | (with_reducible show (_ : Int) < _) | (with_reducible show (_ : Nat) ≤ _) | (with_reducible show (_ : Nat) < _) | (with_reducible show ¬ _) | (with_reducible show (_ : Int) = _) | (with_reducible show (_ : Nat) = _)); (simp only [List.length_map, List.length_append, List.length_cons, List.length_nil, List.length_replicate, List.length_take, List.length_drop, List.length_set, Int.toNat_natCast, Int.reduceToNat] <;> omega)) | exact of_decide_eq_true rfl))
  refine Wpc.loopA (α := {i : Nat // i ≤ u.length ∧ cntQ (perB b t k) u i ≤ G.stop}) mixed [0, 1, 2, 3, 4, 7, 8, 9, 10, 11, 48] (fun i => [(10, .p (eI i.1))]) (fun _ => []) (fun i => cntQ (perB b t k) u i.1) (fun i => u.length - i.1) ⟨0, by omega, by simp [cntQ]⟩ ?_ ?_
  · (first | refine Ent.ofA [] ?_ | refine Ent.ofC [] ?_) <;> (repeat' (first | exact trivial | refine HpLe.dd ?_ | refine HpLe.mk rfl (by simp) rfl (fun h => AObj.noConfusion h) ?_ ?_ | refine And.intro ?_ ?_ | exact VLe.refl _ | exact VLe.msl rfl | exact VLe.rsl rfl | exact VLe.csl rfl | exact VLe.cslr rfl | exact VLe.mp rfl | exact VLe.eptr rfl | exact VLe.ptr rfl | exact VLe.any _ | refine VLe.pe ?_ | refine VLe.agg ?_ | refine VLeL.cons ?_ ?_ | exact VLeL.nil | exact OLe.row _ _ | rfl | refine VLe.rsle rfl ?_ ?_ ?_ | refine OLe.rowe2 ?_ ?_ | refine OLe.mape ?_ ?_ | refine OLe.iter0 ?_ | refine OLe.itere ?_ ?_)) <;> try (first | (simp; done) | (congr 1; omega) | (congr 1; (first | (simp; done) | (simp; omega))))
  rintro ⟨i, hi, hs⟩
  have hi : i ≤ u.length := hi
  have hs : cntQ (perB b t k) u i ≤ G.stop := hs
  have hxl : G.xs.length = (u.filter (perB b t k)).length := by rw [hxx]; simp
  have htd := tdiv_bd ht.1 hb
  repeat' (first | ((with_reducible show _ = _); exact rfl) | ((with_reducible show (_ : Nat) < _); exact Nat.zero_lt_succ _) | ((with_reducible show (_ : Nat) ≤ _); exact Nat.le_of_ble_eq_true rfl) | ((with_reducible show Exists _); refine exU8 ?_) | ((fail_if_success (first | (with_reducible show LeG _ _) | (with_reducible show Lp _ _ _ _) | (with_reducible show Exists _) | (with_reducible show callX _ _ _ _ _) | (with_reducible show (_ : Int) ≤ _) | (with_reducible show (_ : Int) < _) | (with_reducible show (_ : Nat) ≤ _) | (with_reducible show (_ : Nat) < _))); (conv => whnf) <;> (first | exact OkR.mk (by kernel_rfl) | exact OkC.mk (by kernel_rfl) | refine Sq.pr ?_ | refine Br.dec (fun hc => ?_) (fun hc => ?_) | refine Br.tt ?_ | refine Br.ff ?_ | refine Br.not ?_ | refine Br.mk (fun hc => ?_) (fun hc => ?_) | refine Opt.nn ?_ | refine Opt.ss ?_ | refine AltA.l ?_ | exact PV.leL_nil | refine PV.leL_cons ?_ ?_ | refine And.intro ?_ ?_ | refine ix_map (fun x hx => ?_) | refine exU8 ?_ | refine nilc (fun hn => ?_) ?_ | exact PV.le_refl _ | exact Nat.zero_lt_succ _ | exact Nat.le_of_ble_eq_true rfl | exact onesOf rfl | exact Or.inl rfl | exact noMem | exact onesOfP rfl | exact okAll rfl | exact okMap (fun _ => ⟨rfl, onesOfP rfl⟩) | exact nonz | refine imp0 (fun hpos => ?_) | refine fits_i64 ?_ ?_ | exact rfl | (with_reducible show LeG _ _) | (with_reducible show Lp _ _ _ _) | (with_reducible show Exists _) | (with_reducible show callX _ _ _ _ _)))) <;> (try (first | exact LeG.refl _ | omega | ((first | (with_reducible show (_ : Int) ≤ _) | (with_reducible show (_ : Int) < _) | (with_reducible show (_ : Nat) ≤ _) | (with_reducible show (_ : Nat) < _) | (with_reducible show ¬ _) | (with_reducible show (_ : Int) = _) | (with_reducible show (_ : Nat) = _)); (simp only [List.length_map, List.length_append, List.length_cons, List.length_nil, List.length_replicate, List.length_take, List.length_drop, List.length_set, Int.toNat_natCast, Int.reduceToNat] <;> omega)) | exact of_decide_eq_true rfl))
  all_goals first
  | (have hc : ¬ (i : Int) < ((u.map eU).length : Int) := hc
     rw [List.length_map] at hc
     have e := cntQ_end (perB b t k) (show u.length ≤ i by omega)
     show cntQ (perB b t k) u i = min (G.stop + 1) ((u.filter (perB b t k)).map fun y => [eI y.val]).length
     rw [List.length_map]; omega)
  | (have hx : u[i]? = some x := hx
     have hux := hu x (List.mem_of_getElem? hx)
     have htx := tdiv_bd (rU_tm hux).1 hb
     have hbx := (rU_tm hux).2
     have hbt := ht.2
     simp only [TM] at hbx hbt
     first
     | omega
     | (have hq : perB b t k x = false := by first | (simp_all [perB]; done) | (simp_all [perB]; intros; omega)
        have hlt := (List.getElem?_eq_some_iff.1 hx).1
        have e := cntQ_no (perB b t k) hx hq
        refine ⟨⟨i + 1, hlt, by show cntQ (perB b t k) u (i + 1) ≤ G.stop; omega⟩, by show u.length - (i + 1) < u.length - i; omega, ?_⟩
        (first | refine Ent.ofA [] ?_ | refine Ent.ofC [] ?_) <;> (repeat' (first | exact trivial | refine HpLe.dd ?_ | refine HpLe.mk rfl (by simp) rfl (fun h => AObj.noConfusion h) ?_ ?_ | refine And.intro ?_ ?_ | exact VLe.refl _ | exact VLe.msl rfl | exact VLe.rsl rfl | exact VLe.csl rfl | exact VLe.cslr rfl | exact VLe.mp rfl | exact VLe.eptr rfl | exact VLe.ptr rfl | exact VLe.any _ | refine VLe.pe ?_ | refine VLe.agg ?_ | refine VLeL.cons ?_ ?_ | exact VLeL.nil | exact OLe.row _ _ | rfl | refine VLe.rsle rfl ?_ ?_ ?_ | refine OLe.rowe2 ?_ ?_ | refine OLe.mape ?_ ?_ | refine OLe.iter0 ?_ | refine OLe.itere ?_ ?_)) <;> try (first | (simp; done) | (congr 1; omega) | (congr 1; (first | (simp; done) | (simp; omega))))
        exact e)
     | (have hq : perB b t k x = true := by simp_all [perB]; done
        have hlt := (List.getElem?_eq_some_iff.1 hx).1
        have h1 := (List.getElem?_eq_some_iff.1 (cntQ_get (perB b t k) hx hq)).1
        first
        | (show cntQ (perB b t k) u i < G.xs.length
           omega)
        | (show _ = List.map AV.p (G.xs.getD (cntQ (perB b t k) u i) [])
           have e : G.xs.getD (cntQ (perB b t k) u i) [] = [eI x.val] := by
             rw [hxx]; simp [List.getD, cntQ_get (perB b t k) hx hq]
           rw [e]; rfl)
        | (have hc : cntQ (perB b t k) u i ≠ G.stop := hc
           have e := cntQ_yes (perB b t k) hx hq
           refine ⟨⟨i + 1, hlt, by show cntQ (perB b t k) u (i + 1) ≤ G.stop; omega⟩, by show u.length - (i + 1) < u.length - i; omega, ?_⟩
           (first | refine Ent.ofA [] ?_ | refine Ent.ofC [] ?_) <;> (repeat' (first | exact trivial | refine HpLe.dd ?_ | refine HpLe.mk rfl (by simp) rfl (fun h => AObj.noConfusion h) ?_ ?_ | refine And.intro ?_ ?_ | exact VLe.refl _ | exact VLe.msl rfl | exact VLe.rsl rfl | exact VLe.csl rfl | exact VLe.cslr rfl | exact VLe.mp rfl | exact VLe.eptr rfl | exact VLe.ptr rfl | exact VLe.any _ | refine VLe.pe ?_ | refine VLe.agg ?_ | refine VLeL.cons ?_ ?_ | exact VLeL.nil | exact OLe.row _ _ | rfl | refine VLe.rsle rfl ?_ ?_ ?_ | refine OLe.rowe2 ?_ ?_ | refine OLe.mape ?_ ?_ | refine OLe.iter0 ?_ | refine OLe.itere ?_ ?_)) <;> try (first | (simp; done) | (congr 1; omega) | (congr 1; (first | (simp; done) | (simp; omega))))
           exact e)
        | (have hc : ¬ cntQ (perB b t k) u i ≠ G.stop := hc
           show cntQ (perB b t k) u i + 1 = min (G.stop + 1) ((u.filter (perB b t k)).map fun y => [eI y.val]).length
           rw [List.length_map]; omega)))
end Go.Proofs.Ytjpmjhgephlcpaa

namespace Go.Proofs.Ytjpmjhgephlcpaa
open Go Go.Sg
set_option maxRecDepth 100000
set_option maxHeartbeats 20000000
def sumV (l : List Us) : Int := (l.map Us.val).sum
def overB (u : List Us) (v t k : Int) (b : Bg) : Bool := decide (b.cnt < 1 + ((u.filter (perB b t k)).length : Int)) || decide (b.val < v + sumV (u.filter (perB b t k)))
def argR (n v t k : Int) : Bool := inB 0 15 n && inB 0 1099511627776 v && (inB 0 TM t && inB 0 TM k)
def roomF (S : List Bg) (u : List Us) (v t k : Int) : Int × Bool × Int := match S.find? (overB u v t k) with | some b => (b.no, false, 0) | none => (-1, true, 0)
def roomA (l : List Bg) (u : List Us) (n v t k : Int) : Int × Bool × Int := if chkA l = 0 then (if u.length ≤ 4096 then (if usB u then (if argR n v t k then roomF (stA l n t k) u v t k else (0, false, 1)) else (0, false, 180)) else (0, false, 2)) else (0, false, chkA l)
theorem sumV_take {F : List Us} {i : Nat} {y : Us} (h : F[i]? = some y) : sumV (F.take (i + 1)) = sumV (F.take i) + y.val := by
  unfold sumV; rw [List.take_add_one, h]; simp [List.map_append]
theorem sumV_bd (F : List Us) (hF : ∀ y ∈ F, 0 ≤ y.val ∧ y.val ≤ 1099511627776) : ∀ i, 0 ≤ sumV (F.take i) ∧ sumV (F.take i) ≤ 1099511627776 * (i : Int) := by
  intro i
  induction i with
  | zero => simp [sumV]
  | succ i ih =>
    cases hx : F[i]? with
    | none =>
      have : F.take (i + 1) = F.take i := by rw [List.take_add_one, hx]; simp
      rw [this]; omega
    | some y =>
      have := hF y (List.mem_of_getElem? hx)
      rw [sumV_take hx]; omega
theorem roomF_at {S : List Bg} {u : List Us} {v t k : Int} {j : Nat} {x : Bg} (hq : ∀ i b, i < j → S[i]? = some b → overB u v t k b = false) (hx : S[j]? = some x) (h : overB u v t k x = true) : roomF S u v t k = (x.no, false, 0) := by
  have : S.find? (overB u v t k) = some x := by
    rw [List.find?_eq_some_iff_getElem]
    have hlt := List.getElem?_eq_some_iff.1 hx
    obtain ⟨hlt, he⟩ := hlt
    refine ⟨h, j, hlt, he, fun i hij => ?_⟩
    rw [hq i _ hij (List.getElem?_eq_getElem (by omega))]; rfl
  unfold roomF; rw [this]
theorem roomF_none {S : List Bg} {u : List Us} {v t k : Int} {j : Nat} (hq : ∀ i b, i < j → S[i]? = some b → overB u v t k b = false) (hj : S.length ≤ j) : roomF S u v t k = (-1, true, 0) := by
  have : S.find? (overB u v t k) = none := by
    rw [List.find?_eq_none]
    intro b hb
    obtain ⟨i, hi⟩ := List.getElem?_of_mem hb
    have := (List.getElem?_eq_some_iff.1 hi).1
    rw [hq i b (by omega) hi]; simp
  unfold roomF; rw [this]
theorem Room_calls (l : List Bg) (u : List Us) (n v t k : Int) (hl : l.length < 1000000) (hul : u.length < 1000000) : PCalls Try.prog 19 [eL l, eUs u, eI n, eI v, eI t, eI k] (.tup [eI (roomA l u n v t k).1, .bool (roomA l u n v t k).2.1, eI (roomA l u n v t k).2.2]) := by
  have q1 := check_calls l hl
  have q2 := uses_calls u hul
  by_cases hz : chkA l = 0
  · rw [hz] at q1
    unfold roomA
    rw [if_pos hz]
    obtain ⟨_, hr, hs⟩ := chkA_srt hz
    have q3 := standing2_calls l n t k hl hr hs
    have q4 := fun b => used_calls b u t k
    refine PCalls.of (N := 84) (res := [.tmp 12, .tmp 13, .tmp 14]) mixed Try.func19 rfl rfl rfl (by kernel_rfl) (by simp) [0, 1, 2, 3, 4, 5, 12, 13, 14, 15, 17, 18, 19, 20, 24, 28, 31, 48, 53, 54, 55, 56, 64, 65, 80] ?_
    repeat' (first | ((with_reducible show _ = _); exact rfl) | ((with_reducible show (_ : Nat) < _); exact Nat.zero_lt_succ _) | ((with_reducible show (_ : Nat) ≤ _); exact Nat.le_of_ble_eq_true rfl) | ((with_reducible show Exists _); refine exU8 ?_) | ((with_reducible show callX _ _ _ _ _); (first | refine call_p (q1) (by kernel_rfl) rfl ?_ | refine call_p (q2) (by kernel_rfl) rfl ?_ | (refine call_z (w1 0 15 n) (by kernel_rfl) rfl ?_; (repeat' (first | exact PV.leL_nil | refine PV.leL_cons ?_ ?_ | refine And.intro ?_ ?_ | exact Nat.zero_lt_succ _ | exact Nat.le_of_ble_eq_true rfl | exact PV.le_refl _ | exact PV.le_nil _ _ _ | exact PV.le_clip _ _ _ | refine PV.le_agg ?_ | refine PV.le_tup ?_ | rfl)); fail_if_success (any_goals (refine PV.le_of ?_))) | (refine call_z (w1 0 1099511627776 v) (by kernel_rfl) rfl ?_; (repeat' (first | exact PV.leL_nil | refine PV.leL_cons ?_ ?_ | refine And.intro ?_ ?_ | exact Nat.zero_lt_succ _ | exact Nat.le_of_ble_eq_true rfl | exact PV.le_refl _ | exact PV.le_nil _ _ _ | exact PV.le_clip _ _ _ | refine PV.le_agg ?_ | refine PV.le_tup ?_ | rfl)); fail_if_success (any_goals (refine PV.le_of ?_))) | (refine call_z (w2 0 TM t k) (by kernel_rfl) rfl ?_; (repeat' (first | exact PV.leL_nil | refine PV.leL_cons ?_ ?_ | refine And.intro ?_ ?_ | exact Nat.zero_lt_succ _ | exact Nat.le_of_ble_eq_true rfl | exact PV.le_refl _ | exact PV.le_nil _ _ _ | exact PV.le_clip _ _ _ | refine PV.le_agg ?_ | refine PV.le_tup ?_ | rfl)); fail_if_success (any_goals (refine PV.le_of ?_))) | refine call_p (q3) (by kernel_rfl) rfl ?_ | refine call_p (q4 _) (by kernel_rfl) rfl ?_)) | ((fail_if_success (first | (with_reducible show LeG _ _) | (with_reducible show Lp _ _ _ _) | (with_reducible show Exists _) | (with_reducible show callX _ _ _ _ _) | (with_reducible show (_ : Int) ≤ _) | (with_reducible show (_ : Int) < _) | (with_reducible show (_ : Nat) ≤ _) | (with_reducible show (_ : Nat) < _))); (conv => whnf) <;> (first | exact OkR.mk (by kernel_rfl) | exact OkC.mk (by kernel_rfl) | refine Sq.pr ?_ | refine Br.dec (fun hc => ?_) (fun hc => ?_) | refine Br.tt ?_ | refine Br.ff ?_ | refine Br.not ?_ | refine Br.mk (fun hc => ?_) (fun hc => ?_) | refine Opt.nn ?_ | refine Opt.ss ?_ | refine AltA.l ?_ | exact PV.leL_nil | refine PV.leL_cons ?_ ?_ | refine And.intro ?_ ?_ | refine ix_map (fun x hx => ?_) | refine exU8 ?_ | refine nilc (fun hn => ?_) ?_ | refine call_p (q1) (by kernel_rfl) rfl ?_ | refine call_p (q2) (by kernel_rfl) rfl ?_ | (refine call_z (w1 0 15 n) (by kernel_rfl) rfl ?_; (repeat' (first | exact PV.leL_nil | refine PV.leL_cons ?_ ?_ | refine And.intro ?_ ?_ | exact Nat.zero_lt_succ _ | exact Nat.le_of_ble_eq_true rfl | exact PV.le_refl _ | exact PV.le_nil _ _ _ | exact PV.le_clip _ _ _ | refine PV.le_agg ?_ | refine PV.le_tup ?_ | rfl)); fail_if_success (any_goals (refine PV.le_of ?_))) | (refine call_z (w1 0 1099511627776 v) (by kernel_rfl) rfl ?_; (repeat' (first | exact PV.leL_nil | refine PV.leL_cons ?_ ?_ | refine And.intro ?_ ?_ | exact Nat.zero_lt_succ _ | exact Nat.le_of_ble_eq_true rfl | exact PV.le_refl _ | exact PV.le_nil _ _ _ | exact PV.le_clip _ _ _ | refine PV.le_agg ?_ | refine PV.le_tup ?_ | rfl)); fail_if_success (any_goals (refine PV.le_of ?_))) | (refine call_z (w2 0 TM t k) (by kernel_rfl) rfl ?_; (repeat' (first | exact PV.leL_nil | refine PV.leL_cons ?_ ?_ | refine And.intro ?_ ?_ | exact Nat.zero_lt_succ _ | exact Nat.le_of_ble_eq_true rfl | exact PV.le_refl _ | exact PV.le_nil _ _ _ | exact PV.le_clip _ _ _ | refine PV.le_agg ?_ | refine PV.le_tup ?_ | rfl)); fail_if_success (any_goals (refine PV.le_of ?_))) | refine call_p (q3) (by kernel_rfl) rfl ?_ | refine call_p (q4 _) (by kernel_rfl) rfl ?_ | exact PV.le_refl _ | exact Nat.zero_lt_succ _ | exact Nat.le_of_ble_eq_true rfl | exact onesOf rfl | exact Or.inl rfl | exact noMem | exact onesOfP rfl | exact okAll rfl | exact okMap (fun _ => ⟨rfl, onesOfP rfl⟩) | exact nonz | refine imp0 (fun hpos => ?_) | refine fits_i64 ?_ ?_ | exact rfl | (with_reducible show LeG _ _) | (with_reducible show Lp _ _ _ _) | (with_reducible show Exists _) | (with_reducible show callX _ _ _ _ _)))) <;> (try (first | exact LeG.refl _ | omega | ((first | (with_reducible show (_ : Int) ≤ _) | (with_reducible show (_ : Int) < _) | (with_reducible show (_ : Nat) ≤ _) | (with_reducible show (_ : Nat) < _) | (with_reducible show ¬ _) | (with_reducible show (_ : Int) = _) | (with_reducible show (_ : Nat) = _)); (simp only [List.length_map, List.length_append, List.length_cons, List.length_nil, List.length_replicate, List.length_take, List.length_drop, List.length_set, Int.toNat_natCast, Int.reduceToNat] <;> omega)) | exact of_decide_eq_true rfl))
    all_goals first
    | (have hc : (4096 : Int) < ((u.map eU).length : Int) := hc
       rw [List.length_map] at hc
       rw [if_neg (by omega)]; exact LeG.refl _)
    | (have hu4 : ¬ (4096 : Int) < ((u.map eU).length : Int) := by assumption
       rw [List.length_map] at hu4
       rw [if_pos (show u.length ≤ 4096 by omega)]
       first
       | (rw [if_neg (show ¬ usB u = true by simp [*])]; exact LeG.refl _)
       | (rw [if_pos (show usB u = true by assumption), if_neg (show ¬ argR n v t k = true by simp only [argR, *, Bool.false_and, Bool.and_false, Bool.true_and]; simp)]; exact LeG.refl _)
       | (rw [if_pos (show usB u = true by assumption), if_pos (show argR n v t k = true by simp only [argR, *, Bool.and_self])]; skip))
    have hU : ∀ x ∈ u, rU x = true := fun x hx => by
      have h : usB u = true := by assumption
      unfold usB at h
      rw [Bool.and_eq_true] at h
      exact List.all_eq_true.1 h.1 x hx
    have hV : 0 ≤ v ∧ v ≤ 1099511627776 := by
      have h : inB 0 1099511627776 v = true := by assumption
      simpa [inB] using h
    have hT : 0 ≤ t ∧ t ≤ TM := by
      have h : (inB 0 TM t && inB 0 TM k) = true := by assumption
      rw [Bool.and_eq_true] at h
      simpa [inB] using h.1
    have hS : ∀ b ∈ stA l n t k, rightA b = true := fun b hb => hr b (List.mem_filter.1 hb).1
    have hSl : (stA l n t k).length < 1000000 := Nat.lt_of_le_of_lt (List.length_filter_le _ _) hl
    clear q1 q2 q3
    generalize stA l n t k = S at *
    refine Wpc.loopA (α := {j : Nat // j ≤ S.length ∧ ∀ i b, i < j → S[i]? = some b → overB u v t k b = false}) mixed [0, 1, 2, 3, 4, 5, 12, 13, 14, 15, 17, 18, 19, 20, 24, 28, 31, 48, 53, 54, 55, 56, 64, 65, 80] (fun j => [(55, .p (eI j.1))]) (fun _ => [(1728, .dead), (1280, .dead), (960, .dead)]) (fun _ => 0) (fun j => S.length - j.1) ⟨0, by omega, fun i b h => absurd h (by omega)⟩ ?_ ?_
    · (first | refine Ent.ofA [] ?_ | refine Ent.ofC [] ?_) <;> (repeat' (first | exact trivial | refine HpLe.dd ?_ | refine HpLe.mk rfl (by simp) rfl (fun h => AObj.noConfusion h) ?_ ?_ | refine And.intro ?_ ?_ | exact VLe.refl _ | exact VLe.msl rfl | exact VLe.rsl rfl | exact VLe.csl rfl | exact VLe.cslr rfl | exact VLe.mp rfl | exact VLe.eptr rfl | exact VLe.ptr rfl | exact VLe.any _ | refine VLe.pe ?_ | refine VLe.agg ?_ | refine VLeL.cons ?_ ?_ | exact VLeL.nil | exact OLe.row _ _ | rfl | refine VLe.rsle rfl ?_ ?_ ?_ | refine OLe.rowe2 ?_ ?_ | refine OLe.mape ?_ ?_ | refine OLe.iter0 ?_ | refine OLe.itere ?_ ?_)) <;> try (first | (simp; done) | (congr 1; omega) | (congr 1; (first | (simp; done) | (simp; omega))))
    rintro ⟨j, hj, hq⟩
    have hj : j ≤ S.length := hj
    have hq : ∀ i b, i < j → S[i]? = some b → overB u v t k b = false := hq
    clear hc
    repeat' (first | ((with_reducible show _ = _); exact rfl) | ((with_reducible show (_ : Nat) < _); exact Nat.zero_lt_succ _) | ((with_reducible show (_ : Nat) ≤ _); exact Nat.le_of_ble_eq_true rfl) | ((with_reducible show Exists _); refine exU8 ?_) | ((with_reducible show callX _ _ _ _ _); (first | refine call_p (q4 _) (by kernel_rfl) rfl ?_)) | ((fail_if_success (first | (with_reducible show LeG _ _) | (with_reducible show Lp _ _ _ _) | (with_reducible show Exists _) | (with_reducible show callX _ _ _ _ _) | (with_reducible show (_ : Int) ≤ _) | (with_reducible show (_ : Int) < _) | (with_reducible show (_ : Nat) ≤ _) | (with_reducible show (_ : Nat) < _))); (conv => whnf) <;> (first | exact OkR.mk (by kernel_rfl) | exact OkC.mk (by kernel_rfl) | refine Sq.pr ?_ | refine Br.dec (fun hc => ?_) (fun hc => ?_) | refine Br.tt ?_ | refine Br.ff ?_ | refine Br.not ?_ | refine Br.mk (fun hc => ?_) (fun hc => ?_) | refine Opt.nn ?_ | refine Opt.ss ?_ | refine AltA.l ?_ | exact PV.leL_nil | refine PV.leL_cons ?_ ?_ | refine And.intro ?_ ?_ | refine ix_map (fun x hx => ?_) | refine exU8 ?_ | refine nilc (fun hn => ?_) ?_ | refine call_p (q4 _) (by kernel_rfl) rfl ?_ | exact PV.le_refl _ | exact Nat.zero_lt_succ _ | exact Nat.le_of_ble_eq_true rfl | exact onesOf rfl | exact Or.inl rfl | exact noMem | exact onesOfP rfl | exact okAll rfl | exact okMap (fun _ => ⟨rfl, onesOfP rfl⟩) | exact nonz | refine imp0 (fun hpos => ?_) | refine fits_i64 ?_ ?_ | exact rfl | (with_reducible show LeG _ _) | (with_reducible show Lp _ _ _ _) | (with_reducible show Exists _) | (with_reducible show callX _ _ _ _ _)))) <;> (try (first | exact LeG.refl _ | omega | ((first | (with_reducible show (_ : Int) ≤ _) | (with_reducible show (_ : Int) < _) | (with_reducible show (_ : Nat) ≤ _) | (with_reducible show (_ : Nat) < _) | (with_reducible show ¬ _) | (with_reducible show (_ : Int) = _) | (with_reducible show (_ : Nat) = _)); (simp only [List.length_map, List.length_append, List.length_cons, List.length_nil, List.length_replicate, List.length_take, List.length_drop, List.length_set, Int.toNat_natCast, Int.reduceToNat] <;> omega)) | exact of_decide_eq_true rfl))
    · have hx : S[j]? = some x := hx
      have hrx := hS x (List.mem_of_getElem? hx)
      have hper : 1 ≤ x.per := by simp [rightA, inB] at hrx; omega
      have hit := used_iter x u t k hul hper hT hU
      have hF : ∀ y ∈ u.filter (perB x t k), 0 ≤ y.val ∧ y.val ≤ 1099511627776 := fun y hy => rU_val (hU y (List.mem_filter.1 hy).1)
      have hFl := List.length_filter_le (perB x t k) u
      have hov : overB u v t k x = (decide (x.cnt < 1 + ((u.filter (perB x t k)).length : Int)) || decide (x.val < v + sumV (u.filter (perB x t k)))) := rfl
      have hxs : ∀ y ∈ ((u.filter (perB x t k)).map fun y => [eI y.val]), y.length = 1 := fun y hy => by
        obtain ⟨z, _, rfl⟩ := List.mem_map.1 hy; rfl
      have hget : ∀ i y, (u.filter (perB x t k))[i]? = some y → ((u.filter (perB x t k)).map fun y => [eI y.val]).getD i [] = [eI y.val] := fun i y h => by simp [List.getD, h]
      generalize u.filter (perB x t k) = F at *
      refine Wpc.range mixed hit (by kernel_rfl) rfl [0, 1, 2, 3, 4, 5, 12, 13, 14, 15, 17, 18, 19, 20, 24, 28, 31, 48, 53, 54, 55, 56, 64, 65, 80] F.length [2624, 2816, 2880] (fun i => ([(2880, .cells [.p (eI (v + sumV (F.take i)))]), (2816, .cells [.p (eI (1 + i))]), (2624, .cells [.p (eI x.no), .p (eI x.tm), .p (eI x.known), .p (eI x.kind), .p (eI x.per), .p (eI x.cnt), .p (eI x.val), .p (.bool x.gone)])], 3392)) (by simp [sumV]; rfl) (hen_of rfl) (by simp) (by simp) hxs (fun i hi hm => ?_) (fun _ => ?_)
      · rw [List.length_map] at hi
        obtain ⟨y, hy⟩ : ∃ y, F[i]? = some y := ⟨_, List.getElem?_eq_getElem hi⟩
        rw [hget i y hy]
        have hst := sumV_take hy
        have hsb := sumV_bd F hF i
        have hsb2 := sumV_bd F hF (i + 1)
        repeat' (first | ((with_reducible show _ = _); exact rfl) | ((with_reducible show (_ : Nat) < _); exact Nat.zero_lt_succ _) | ((with_reducible show (_ : Nat) ≤ _); exact Nat.le_of_ble_eq_true rfl) | ((with_reducible show Exists _); refine exU8 ?_) | ((fail_if_success (first | (with_reducible show LeG _ _) | (with_reducible show Lp _ _ _ _) | (with_reducible show Exists _) | (with_reducible show callX _ _ _ _ _) | (with_reducible show (_ : Int) ≤ _) | (with_reducible show (_ : Int) < _) | (with_reducible show (_ : Nat) ≤ _) | (with_reducible show (_ : Nat) < _))); (conv => whnf) <;> (first | exact OkR.mk (by kernel_rfl) | exact OkC.mk (by kernel_rfl) | refine Sq.pr ?_ | refine Br.dec (fun hc => ?_) (fun hc => ?_) | refine Br.tt ?_ | refine Br.ff ?_ | refine Br.not ?_ | refine Br.mk (fun hc => ?_) (fun hc => ?_) | refine Opt.nn ?_ | refine Opt.ss ?_ | refine AltA.l ?_ | exact PV.leL_nil | refine PV.leL_cons ?_ ?_ | refine And.intro ?_ ?_ | refine ix_map (fun x hx => ?_) | refine exU8 ?_ | refine nilc (fun hn => ?_) ?_ | exact PV.le_refl _ | exact Nat.zero_lt_succ _ | exact Nat.le_of_ble_eq_true rfl | exact onesOf rfl | exact Or.inl rfl | exact noMem | exact onesOfP rfl | exact okAll rfl | exact okMap (fun _ => ⟨rfl, onesOfP rfl⟩) | exact nonz | refine imp0 (fun hpos => ?_) | refine fits_i64 ?_ ?_ | exact rfl | (with_reducible show LeG _ _) | (with_reducible show Lp _ _ _ _) | (with_reducible show Exists _) | (with_reducible show callX _ _ _ _ _)))) <;> (try (first | exact LeG.refl _ | omega | ((first | (with_reducible show (_ : Int) ≤ _) | (with_reducible show (_ : Int) < _) | (with_reducible show (_ : Nat) ≤ _) | (with_reducible show (_ : Nat) < _) | (with_reducible show ¬ _) | (with_reducible show (_ : Int) = _) | (with_reducible show (_ : Nat) = _)); (simp only [List.length_map, List.length_append, List.length_cons, List.length_nil, List.length_replicate, List.length_take, List.length_drop, List.length_set, Int.toNat_natCast, Int.reduceToNat] <;> omega)) | exact of_decide_eq_true rfl))
        (refine Ent.ofK [] ?_) <;> (repeat' (first | exact trivial | refine HpLe.dd ?_ | refine HpLe.mk rfl (by simp) rfl (fun h => AObj.noConfusion h) ?_ ?_ | refine And.intro ?_ ?_ | exact VLe.refl _ | exact VLe.msl rfl | exact VLe.rsl rfl | exact VLe.csl rfl | exact VLe.cslr rfl | exact VLe.mp rfl | exact VLe.eptr rfl | exact VLe.ptr rfl | exact VLe.any _ | refine VLe.pe ?_ | refine VLe.agg ?_ | refine VLeL.cons ?_ ?_ | exact VLeL.nil | exact OLe.row _ _ | rfl | refine VLe.rsle rfl ?_ ?_ ?_ | refine OLe.rowe2 ?_ ?_ | refine OLe.mape ?_ ?_ | refine OLe.iter0 ?_ | refine OLe.itere ?_ ?_)) <;> try (first | (simp; done) | (congr 1; omega) | (congr 1; (first | (simp; done) | (simp; omega))))
      · have eF : F.take (F.map fun y => [eI y.val]).length = F := by rw [List.length_map, List.take_length]
        have hsb := sumV_bd F hF F.length
        rw [List.take_length] at hsb
        repeat' (first | ((with_reducible show _ = _); exact rfl) | ((with_reducible show (_ : Nat) < _); exact Nat.zero_lt_succ _) | ((with_reducible show (_ : Nat) ≤ _); exact Nat.le_of_ble_eq_true rfl) | ((with_reducible show Exists _); refine exU8 ?_) | ((fail_if_success (first | (with_reducible show LeG _ _) | (with_reducible show Lp _ _ _ _) | (with_reducible show Exists _) | (with_reducible show callX _ _ _ _ _) | (with_reducible show (_ : Int) ≤ _) | (with_reducible show (_ : Int) < _) | (with_reducible show (_ : Nat) ≤ _) | (with_reducible show (_ : Nat) < _))); (conv => whnf) <;> (first | exact OkR.mk (by kernel_rfl) | exact OkC.mk (by kernel_rfl) | refine Sq.pr ?_ | refine Br.dec (fun hc => ?_) (fun hc => ?_) | refine Br.tt ?_ | refine Br.ff ?_ | refine Br.not ?_ | refine Br.mk (fun hc => ?_) (fun hc => ?_) | refine Opt.nn ?_ | refine Opt.ss ?_ | refine AltA.l ?_ | exact PV.leL_nil | refine PV.leL_cons ?_ ?_ | refine And.intro ?_ ?_ | refine ix_map (fun x hx => ?_) | refine exU8 ?_ | refine nilc (fun hn => ?_) ?_ | exact PV.le_refl _ | exact Nat.zero_lt_succ _ | exact Nat.le_of_ble_eq_true rfl | exact onesOf rfl | exact Or.inl rfl | exact noMem | exact onesOfP rfl | exact okAll rfl | exact okMap (fun _ => ⟨rfl, onesOfP rfl⟩) | exact nonz | refine imp0 (fun hpos => ?_) | refine fits_i64 ?_ ?_ | exact rfl | (with_reducible show LeG _ _) | (with_reducible show Lp _ _ _ _) | (with_reducible show Exists _) | (with_reducible show callX _ _ _ _ _)))) <;> (try (first | exact LeG.refl _ | omega | ((first | (with_reducible show (_ : Int) ≤ _) | (with_reducible show (_ : Int) < _) | (with_reducible show (_ : Nat) ≤ _) | (with_reducible show (_ : Nat) < _) | (with_reducible show ¬ _) | (with_reducible show (_ : Int) = _) | (with_reducible show (_ : Nat) = _)); (simp only [List.length_map, List.length_append, List.length_cons, List.length_nil, List.length_replicate, List.length_take, List.length_drop, List.length_set, Int.toNat_natCast, Int.reduceToNat] <;> omega)) | exact of_decide_eq_true rfl))
        · rw [List.length_map] at hc
          rw [roomF_at hq hx (by rw [hov, decide_eq_true hc]; rfl)]; exact LeG.refl _
        · rw [eF] at hc
          rw [roomF_at hq hx (by rw [hov, decide_eq_true hc]; simp)]; exact LeG.refl _
        · rw [eF] at hc
          have hc1 : ¬ x.cnt < 1 + ((F.map fun y => [eI y.val]).length : Int) := by assumption
          rw [List.length_map] at hc1
          have hlt := (List.getElem?_eq_some_iff.1 hx).1
          refine ⟨⟨j + 1, hlt, noneTo hq hx (by rw [hov, decide_eq_false hc, decide_eq_false hc1]; rfl)⟩, by show S.length - (j + 1) < S.length - j; omega, ?_⟩
          (first | refine Ent.ofA [] ?_ | refine Ent.ofC [] ?_) <;> (repeat' (first | exact trivial | refine HpLe.dd ?_ | refine HpLe.mk rfl (by simp) rfl (fun h => AObj.noConfusion h) ?_ ?_ | refine And.intro ?_ ?_ | exact VLe.refl _ | exact VLe.msl rfl | exact VLe.rsl rfl | exact VLe.csl rfl | exact VLe.cslr rfl | exact VLe.mp rfl | exact VLe.eptr rfl | exact VLe.ptr rfl | exact VLe.any _ | refine VLe.pe ?_ | refine VLe.agg ?_ | refine VLeL.cons ?_ ?_ | exact VLeL.nil | exact OLe.row _ _ | rfl | refine VLe.rsle rfl ?_ ?_ ?_ | refine OLe.rowe2 ?_ ?_ | refine OLe.mape ?_ ?_ | refine OLe.iter0 ?_ | refine OLe.itere ?_ ?_)) <;> try (first | (simp; done) | (congr 1; omega) | (congr 1; (first | (simp; done) | (simp; omega))))
    · have hc : ¬ (j : Int) < ((S.map eA).length : Int) := hc
      rw [List.length_map] at hc
      rw [roomF_none hq (by omega)]; exact LeG.refl _
  · unfold roomA
    rw [if_neg hz]
    refine PCalls.of (N := 84) (res := [.tmp 12, .tmp 13, .tmp 14]) mixed Try.func19 rfl rfl rfl (by kernel_rfl) (by simp) [0, 1, 2, 3, 4, 5, 12, 13, 14, 15, 17, 18, 19, 20, 24, 28, 31, 48, 53, 54, 55, 56, 64, 65, 80] ?_
    repeat' (first | ((with_reducible show _ = _); exact rfl) | ((with_reducible show (_ : Nat) < _); exact Nat.zero_lt_succ _) | ((with_reducible show (_ : Nat) ≤ _); exact Nat.le_of_ble_eq_true rfl) | ((with_reducible show Exists _); refine exU8 ?_) | ((with_reducible show callX _ _ _ _ _); (first | refine call_p (q1) (by kernel_rfl) rfl ?_)) | ((fail_if_success (first | (with_reducible show LeG _ _) | (with_reducible show Lp _ _ _ _) | (with_reducible show Exists _) | (with_reducible show callX _ _ _ _ _) | (with_reducible show (_ : Int) ≤ _) | (with_reducible show (_ : Int) < _) | (with_reducible show (_ : Nat) ≤ _) | (with_reducible show (_ : Nat) < _))); (conv => whnf) <;> (first | exact OkR.mk (by kernel_rfl) | exact OkC.mk (by kernel_rfl) | refine Sq.pr ?_ | refine Br.dec (fun hc => ?_) (fun hc => ?_) | refine Br.tt ?_ | refine Br.ff ?_ | refine Br.not ?_ | refine Br.mk (fun hc => ?_) (fun hc => ?_) | refine Opt.nn ?_ | refine Opt.ss ?_ | refine AltA.l ?_ | exact PV.leL_nil | refine PV.leL_cons ?_ ?_ | refine And.intro ?_ ?_ | refine ix_map (fun x hx => ?_) | refine exU8 ?_ | refine nilc (fun hn => ?_) ?_ | refine call_p (q1) (by kernel_rfl) rfl ?_ | exact PV.le_refl _ | exact Nat.zero_lt_succ _ | exact Nat.le_of_ble_eq_true rfl | exact onesOf rfl | exact Or.inl rfl | exact noMem | exact onesOfP rfl | exact okAll rfl | exact okMap (fun _ => ⟨rfl, onesOfP rfl⟩) | exact nonz | refine imp0 (fun hpos => ?_) | refine fits_i64 ?_ ?_ | exact rfl | (with_reducible show LeG _ _) | (with_reducible show Lp _ _ _ _) | (with_reducible show Exists _) | (with_reducible show callX _ _ _ _ _)))) <;> (try (first | exact LeG.refl _ | omega | ((first | (with_reducible show (_ : Int) ≤ _) | (with_reducible show (_ : Int) < _) | (with_reducible show (_ : Nat) ≤ _) | (with_reducible show (_ : Nat) < _) | (with_reducible show ¬ _) | (with_reducible show (_ : Int) = _) | (with_reducible show (_ : Nat) = _)); (simp only [List.length_map, List.length_append, List.length_cons, List.length_nil, List.length_replicate, List.length_take, List.length_drop, List.length_set, Int.toNat_natCast, Int.reduceToNat] <;> omega)) | exact of_decide_eq_true rfl))
end Go.Proofs.Ytjpmjhgephlcpaa

namespace Go.Proofs.Ytjpmjhgephlcpaa
open Go Go.Sg
set_option maxRecDepth 100000
set_option maxHeartbeats 20000000
theorem rover_calls (b : Bg) (u : List Us) (v t k : Int) (hul : u.length ≤ 4096) (hb : 1 ≤ b.per) (hv : 0 ≤ v ∧ v ≤ 1099511627776) (ht : 0 ≤ t ∧ t ≤ TM) (hu : ∀ x ∈ u, rU x = true) : PCalls Try.prog 41 [eA b, eUs u, eI v, eI t, eI k] (.bool (overB u v t k b)) := by
  refine PCalls.of (N := 77) (res := [.tmp 10]) mixed Try.func41 rfl rfl rfl (by kernel_rfl) (by simp) [0, 1, 2, 3, 4, 5, 10, 11, 12, 13, 18, 57] ?_
  repeat' (first | ((with_reducible show _ = _); exact rfl) | ((with_reducible show (_ : Nat) < _); exact Nat.zero_lt_succ _) | ((with_reducible show (_ : Nat) ≤ _); exact Nat.le_of_ble_eq_true rfl) | ((with_reducible show Exists _); refine exU8 ?_) | ((fail_if_success (first | (with_reducible show LeG _ _) | (with_reducible show Lp _ _ _ _) | (with_reducible show Exists _) | (with_reducible show callX _ _ _ _ _) | (with_reducible show (_ : Int) ≤ _) | (with_reducible show (_ : Int) < _) | (with_reducible show (_ : Nat) ≤ _) | (with_reducible show (_ : Nat) < _))); (conv => whnf) <;> (first | exact OkR.mk (by kernel_rfl) | exact OkC.mk (by kernel_rfl) | refine Sq.pr ?_ | refine Br.dec (fun hc => ?_) (fun hc => ?_) | refine Br.tt ?_ | refine Br.ff ?_ | refine Br.not ?_ | refine Br.mk (fun hc => ?_) (fun hc => ?_) | refine Opt.nn ?_ | refine Opt.ss ?_ | refine AltA.l ?_ | exact PV.leL_nil | refine PV.leL_cons ?_ ?_ | refine And.intro ?_ ?_ | refine ix_map (fun x hx => ?_) | refine exU8 ?_ | refine nilc (fun hn => ?_) ?_ | exact PV.le_refl _ | exact Nat.zero_lt_succ _ | exact Nat.le_of_ble_eq_true rfl | exact onesOf rfl | exact Or.inl rfl | exact noMem | exact onesOfP rfl | exact okAll rfl | exact okMap (fun _ => ⟨rfl, onesOfP rfl⟩) | exact nonz | refine imp0 (fun hpos => ?_) | refine fits_i64 ?_ ?_ | exact rfl | (with_reducible show LeG _ _) | (with_reducible show Lp _ _ _ _) | (with_reducible show Exists _) | (with_reducible show callX _ _ _ _ _)))) <;> (try (first | exact LeG.refl _ | omega | ((first | (with_reducible show (_ : Int) ≤ _) | (with_reducible show (_ : Int) < _) | (with_reducible show (_ : Nat) ≤ _) | (with_reducible show (_ : Nat) < _) | (with_reducible show ¬ _) | (with_reducible show (_ : Int) = _) | (with_reducible show (_ : Nat) = _)); (simp only [List.length_map, List.length_append, List.length_cons, List.length_nil, List.length_replicate, List.length_take, List.length_drop, List.length_set, Int.toNat_natCast, Int.reduceToNat] <;> omega)) | exact of_decide_eq_true rfl))
  have htd := tdiv_bd ht.1 hb
  have hbt := ht.2
  simp only [TM] at hbt
  refine Wpc.loopB (α := {i : Nat // i ≤ u.length}) mixed [0, 1, 2, 3, 4, 5, 10, 11, 12, 13, 18, 57] (fun i => [(11, .p (eI ((u.take i.1).filter (perB b t k)).length)), (12, .p (eI (v + sumV ((u.take i.1).filter (perB b t k))))), (13, .p (eI i.1))]) (fun i => u.length - i.1) ⟨0, by omega⟩ ?_ ?_
  · (first | refine Ent.ofA [] ?_ | refine Ent.ofC [] ?_) <;> (repeat' (first | exact trivial | refine HpLe.dd ?_ | refine HpLe.mk rfl (by simp) rfl (fun h => AObj.noConfusion h) ?_ ?_ | refine And.intro ?_ ?_ | exact VLe.refl _ | exact VLe.msl rfl | exact VLe.rsl rfl | exact VLe.csl rfl | exact VLe.cslr rfl | exact VLe.mp rfl | exact VLe.eptr rfl | exact VLe.ptr rfl | exact VLe.any _ | refine VLe.pe ?_ | refine VLe.agg ?_ | refine VLeL.cons ?_ ?_ | exact VLeL.nil | exact OLe.row _ _ | rfl | refine VLe.rsle rfl ?_ ?_ ?_ | refine OLe.rowe2 ?_ ?_ | refine OLe.mape ?_ ?_ | refine OLe.iter0 ?_ | refine OLe.itere ?_ ?_)) <;> try (first | (simp; done) | (congr 1; omega) | (congr 1; (first | (simp; done) | (simp; omega))))
    show eI v = eI (v + 0)
    rw [Int.add_zero]
  rintro ⟨i, hi⟩
  have hi : i ≤ u.length := hi
  have hfl := List.length_filter_le (perB b t k) (u.take i)
  rw [List.length_take] at hfl
  have hF : ∀ y ∈ (u.take i).filter (perB b t k), 0 ≤ y.val ∧ y.val ≤ 1099511627776 := fun y hy => rU_val (hu y (List.mem_of_mem_take (List.mem_filter.1 hy).1))
  have hsb := sumV_bd _ hF ((u.take i).filter (perB b t k)).length
  rw [List.take_length] at hsb
  cases hxi : u[i]? with
  | none =>
    have hge : u.length ≤ i := List.getElem?_eq_none_iff.1 hxi
    have hno : ¬ ((i : Int) < ((u.map eU).length : Int)) := by rw [List.length_map]; omega
    rw [List.take_of_length_le hge] at *
    repeat' (first | ((with_reducible show _ = _); exact rfl) | ((with_reducible show (_ : Nat) < _); exact Nat.zero_lt_succ _) | ((with_reducible show (_ : Nat) ≤ _); exact Nat.le_of_ble_eq_true rfl) | ((with_reducible show Exists _); refine exU8 ?_) | ((fail_if_success (first | (with_reducible show LeG _ _) | (with_reducible show Lp _ _ _ _) | (with_reducible show Exists _) | (with_reducible show callX _ _ _ _ _) | (with_reducible show (_ : Int) ≤ _) | (with_reducible show (_ : Int) < _) | (with_reducible show (_ : Nat) ≤ _) | (with_reducible show (_ : Nat) < _))); (conv => whnf) <;> (first | exact OkR.mk (by kernel_rfl) | exact OkC.mk (by kernel_rfl) | refine Br.dec (fun hc => absurd hc hno) (fun hc => ?_) | refine Sq.pr ?_ | refine Br.dec (fun hc => ?_) (fun hc => ?_) | refine Br.tt ?_ | refine Br.ff ?_ | refine Br.not ?_ | refine Br.mk (fun hc => ?_) (fun hc => ?_) | refine Opt.nn ?_ | refine Opt.ss ?_ | refine AltA.l ?_ | exact PV.leL_nil | refine PV.leL_cons ?_ ?_ | refine And.intro ?_ ?_ | refine ix_map (fun x hx => ?_) | refine exU8 ?_ | refine nilc (fun hn => ?_) ?_ | exact PV.le_refl _ | exact Nat.zero_lt_succ _ | exact Nat.le_of_ble_eq_true rfl | exact onesOf rfl | exact Or.inl rfl | exact noMem | exact onesOfP rfl | exact okAll rfl | exact okMap (fun _ => ⟨rfl, onesOfP rfl⟩) | exact nonz | refine imp0 (fun hpos => ?_) | refine fits_i64 ?_ ?_ | exact rfl | (with_reducible show LeG _ _) | (with_reducible show Lp _ _ _ _) | (with_reducible show Exists _) | (with_reducible show callX _ _ _ _ _)))) <;> (try (first | exact LeG.refl _ | omega | ((first | (with_reducible show (_ : Int) ≤ _) | (with_reducible show (_ : Int) < _) | (with_reducible show (_ : Nat) ≤ _) | (with_reducible show (_ : Nat) < _) | (with_reducible show ¬ _) | (with_reducible show (_ : Int) = _) | (with_reducible show (_ : Nat) = _)); (simp only [List.length_map, List.length_append, List.length_cons, List.length_nil, List.length_replicate, List.length_take, List.length_drop, List.length_set, Int.toNat_natCast, Int.reduceToNat] <;> omega)) | exact of_decide_eq_true rfl))
    all_goals (refine LeG.bool ?_; unfold overB; rw [Bool.eq_iff_iff]; simp at hc ⊢; omega)
  | some z =>
    have hlt : i < u.length := (List.getElem?_eq_some_iff.1 hxi).1
    have hyes : ((i : Int) < ((u.map eU).length : Int)) := by rw [List.length_map]; omega
    have htz := tdiv_bd (rU_tm (hu z (List.mem_of_getElem? hxi))).1 hb
    have hbz := (rU_tm (hu z (List.mem_of_getElem? hxi))).2
    have hvz := rU_val (hu z (List.mem_of_getElem? hxi))
    simp only [TM] at hbz
    repeat' (first | ((with_reducible show _ = _); exact rfl) | ((with_reducible show (_ : Nat) < _); exact Nat.zero_lt_succ _) | ((with_reducible show (_ : Nat) ≤ _); exact Nat.le_of_ble_eq_true rfl) | ((with_reducible show Exists _); refine exU8 ?_) | ((fail_if_success (first | (with_reducible show LeG _ _) | (with_reducible show Lp _ _ _ _) | (with_reducible show Exists _) | (with_reducible show callX _ _ _ _ _) | (with_reducible show (_ : Int) ≤ _) | (with_reducible show (_ : Int) < _) | (with_reducible show (_ : Nat) ≤ _) | (with_reducible show (_ : Nat) < _))); (conv => whnf) <;> (first | exact OkR.mk (by kernel_rfl) | exact OkC.mk (by kernel_rfl) | refine Br.dec (fun hc => ?_) (fun hc => absurd hyes hc) | refine ix_at hxi ?_ | refine Sq.pr ?_ | refine Br.dec (fun hc => ?_) (fun hc => ?_) | refine Br.tt ?_ | refine Br.ff ?_ | refine Br.not ?_ | refine Br.mk (fun hc => ?_) (fun hc => ?_) | refine Opt.nn ?_ | refine Opt.ss ?_ | refine AltA.l ?_ | exact PV.leL_nil | refine PV.leL_cons ?_ ?_ | refine And.intro ?_ ?_ | refine ix_map (fun x hx => ?_) | refine exU8 ?_ | refine nilc (fun hn => ?_) ?_ | exact PV.le_refl _ | exact Nat.zero_lt_succ _ | exact Nat.le_of_ble_eq_true rfl | exact onesOf rfl | exact Or.inl rfl | exact noMem | exact onesOfP rfl | exact okAll rfl | exact okMap (fun _ => ⟨rfl, onesOfP rfl⟩) | exact nonz | refine imp0 (fun hpos => ?_) | refine fits_i64 ?_ ?_ | exact rfl | (with_reducible show LeG _ _) | (with_reducible show Lp _ _ _ _) | (with_reducible show Exists _) | (with_reducible show callX _ _ _ _ _)))) <;> (try (first | exact LeG.refl _ | omega | ((first | (with_reducible show (_ : Int) ≤ _) | (with_reducible show (_ : Int) < _) | (with_reducible show (_ : Nat) ≤ _) | (with_reducible show (_ : Nat) < _) | (with_reducible show ¬ _) | (with_reducible show (_ : Int) = _) | (with_reducible show (_ : Nat) = _)); (simp only [List.length_map, List.length_append, List.length_cons, List.length_nil, List.length_replicate, List.length_take, List.length_drop, List.length_set, Int.toNat_natCast, Int.reduceToNat] <;> omega)) | exact of_decide_eq_true rfl))
    all_goals first
    | (have hq : perB b t k z = true := by simp_all [perB]; done
       have hft := filter_take (perB b t k) hxi
       simp only [hq, if_true] at hft
       refine ⟨⟨i + 1, hlt⟩, by show u.length - (i + 1) < u.length - i; omega, ?_⟩
       (first | refine Ent.ofA [] ?_ | refine Ent.ofC [] ?_) <;> (repeat' (first | exact trivial | refine HpLe.dd ?_ | refine HpLe.mk rfl (by simp) rfl (fun h => AObj.noConfusion h) ?_ ?_ | refine And.intro ?_ ?_ | exact VLe.refl _ | exact VLe.msl rfl | exact VLe.rsl rfl | exact VLe.csl rfl | exact VLe.cslr rfl | exact VLe.mp rfl | exact VLe.eptr rfl | exact VLe.ptr rfl | exact VLe.any _ | refine VLe.pe ?_ | refine VLe.agg ?_ | refine VLeL.cons ?_ ?_ | exact VLeL.nil | exact OLe.row _ _ | rfl | refine VLe.rsle rfl ?_ ?_ ?_ | refine OLe.rowe2 ?_ ?_ | refine OLe.mape ?_ ?_ | refine OLe.iter0 ?_ | refine OLe.itere ?_ ?_)) <;> try (first | (simp; done) | (congr 1; omega) | (congr 1; (first | (simp; done) | (simp; omega))))
       all_goals first
       | (show eI ((((u.take i).filter (perB b t k)).length : Int) + 1) = eI (((u.take (i + 1)).filter (perB b t k)).length : Int)
          rw [hft, List.length_append]; simp)
       | (show eI (v + sumV ((u.take i).filter (perB b t k)) + z.val) = eI (v + sumV ((u.take (i + 1)).filter (perB b t k)))
          rw [hft]; congr 1; simp [sumV]; omega))
    | (have hq : perB b t k z = false := by first | (simp_all [perB]; done) | (simp_all [perB]; intros; omega)
       have hft := filter_take (perB b t k) hxi
       simp only [hq, Bool.false_eq_true, if_false, List.append_nil] at hft
       refine ⟨⟨i + 1, hlt⟩, by show u.length - (i + 1) < u.length - i; omega, ?_⟩
       (first | refine Ent.ofA [] ?_ | refine Ent.ofC [] ?_) <;> (repeat' (first | exact trivial | refine HpLe.dd ?_ | refine HpLe.mk rfl (by simp) rfl (fun h => AObj.noConfusion h) ?_ ?_ | refine And.intro ?_ ?_ | exact VLe.refl _ | exact VLe.msl rfl | exact VLe.rsl rfl | exact VLe.csl rfl | exact VLe.cslr rfl | exact VLe.mp rfl | exact VLe.eptr rfl | exact VLe.ptr rfl | exact VLe.any _ | refine VLe.pe ?_ | refine VLe.agg ?_ | refine VLeL.cons ?_ ?_ | exact VLeL.nil | exact OLe.row _ _ | rfl | refine VLe.rsle rfl ?_ ?_ ?_ | refine OLe.rowe2 ?_ ?_ | refine OLe.mape ?_ ?_ | refine OLe.iter0 ?_ | refine OLe.itere ?_ ?_)) <;> try (first | (simp; done) | (congr 1; omega) | (congr 1; (first | (simp; done) | (simp; omega))))
       all_goals rw [hft])
theorem rRoom_calls (l : List Bg) (u : List Us) (n v t k : Int) (hl : l.length < 1000000) (hul : u.length < 1000000) : PCalls Try.prog 20 [eL l, eUs u, eI n, eI v, eI t, eI k] (.tup [eI (roomA l u n v t k).1, .bool (roomA l u n v t k).2.1, eI (roomA l u n v t k).2.2]) := by
  have q1 := rcheck_calls l hl
  have q2 := rUses_calls u hul
  by_cases hz : chkA l = 0
  · rw [hz] at q1
    unfold roomA
    rw [if_pos hz]
    obtain ⟨_, hr, hs⟩ := chkA_srt hz
    have q3 := rstanding_calls l n t k hl
    refine PCalls.of (N := 72) (res := [.tmp 12, .tmp 13, .tmp 14]) mixed Try.func20 rfl rfl rfl (by kernel_rfl) (by simp) [0, 1, 2, 3, 4, 5, 12, 13, 14, 15, 16, 17, 21, 25, 28, 46, 55, 66] ?_
    repeat' (first | ((with_reducible show _ = _); exact rfl) | ((with_reducible show (_ : Nat) < _); exact Nat.zero_lt_succ _) | ((with_reducible show (_ : Nat) ≤ _); exact Nat.le_of_ble_eq_true rfl) | ((with_reducible show Exists _); refine exU8 ?_) | ((with_reducible show callX _ _ _ _ _); (first | refine call_p (q1) (by kernel_rfl) rfl ?_ | refine call_p (q2) (by kernel_rfl) rfl ?_ | refine call_p (rwithin_calls _ _ _) (by kernel_rfl) rfl ?_ | refine call_p (rkind_calls _) (by kernel_rfl) rfl ?_ | refine call_p (rtime_calls _) (by kernel_rfl) rfl ?_ | refine call_p (q3) (by kernel_rfl) rfl ?_)) | ((fail_if_success (first | (with_reducible show LeG _ _) | (with_reducible show Lp _ _ _ _) | (with_reducible show Exists _) | (with_reducible show callX _ _ _ _ _) | (with_reducible show (_ : Int) ≤ _) | (with_reducible show (_ : Int) < _) | (with_reducible show (_ : Nat) ≤ _) | (with_reducible show (_ : Nat) < _))); (conv => whnf) <;> (first | exact OkR.mk (by kernel_rfl) | exact OkC.mk (by kernel_rfl) | refine Sq.pr ?_ | refine Br.dec (fun hc => ?_) (fun hc => ?_) | refine Br.tt ?_ | refine Br.ff ?_ | refine Br.not ?_ | refine Br.mk (fun hc => ?_) (fun hc => ?_) | refine Opt.nn ?_ | refine Opt.ss ?_ | refine AltA.l ?_ | exact PV.leL_nil | refine PV.leL_cons ?_ ?_ | refine And.intro ?_ ?_ | refine ix_map (fun x hx => ?_) | refine exU8 ?_ | refine nilc (fun hn => ?_) ?_ | refine call_p (q1) (by kernel_rfl) rfl ?_ | refine call_p (q2) (by kernel_rfl) rfl ?_ | refine call_p (rwithin_calls _ _ _) (by kernel_rfl) rfl ?_ | refine call_p (rkind_calls _) (by kernel_rfl) rfl ?_ | refine call_p (rtime_calls _) (by kernel_rfl) rfl ?_ | refine call_p (q3) (by kernel_rfl) rfl ?_ | exact PV.le_refl _ | exact Nat.zero_lt_succ _ | exact Nat.le_of_ble_eq_true rfl | exact onesOf rfl | exact Or.inl rfl | exact noMem | exact onesOfP rfl | exact okAll rfl | exact okMap (fun _ => ⟨rfl, onesOfP rfl⟩) | exact nonz | refine imp0 (fun hpos => ?_) | refine fits_i64 ?_ ?_ | exact rfl | (with_reducible show LeG _ _) | (with_reducible show Lp _ _ _ _) | (with_reducible show Exists _) | (with_reducible show callX _ _ _ _ _)))) <;> (try (first | exact LeG.refl _ | omega | ((first | (with_reducible show (_ : Int) ≤ _) | (with_reducible show (_ : Int) < _) | (with_reducible show (_ : Nat) ≤ _) | (with_reducible show (_ : Nat) < _) | (with_reducible show ¬ _) | (with_reducible show (_ : Int) = _) | (with_reducible show (_ : Nat) = _)); (simp only [List.length_map, List.length_append, List.length_cons, List.length_nil, List.length_replicate, List.length_take, List.length_drop, List.length_set, Int.toNat_natCast, Int.reduceToNat] <;> omega)) | exact of_decide_eq_true rfl))
    all_goals first
    | (have hc : (4096 : Int) < ((u.map eU).length : Int) := hc
       rw [List.length_map] at hc
       rw [if_neg (by omega)]; exact LeG.refl _)
    | (have hu4 : ¬ (4096 : Int) < ((u.map eU).length : Int) := by assumption
       rw [List.length_map] at hu4
       rw [if_pos (show u.length ≤ 4096 by omega)]
       first
       | (rw [if_neg (show ¬ usB u = true by simp [*])]; exact LeG.refl _)
       | (rw [if_pos (show usB u = true by assumption), if_neg (show ¬ argR n v t k = true by simp only [argR, *, Bool.false_and, Bool.and_false, Bool.true_and]; simp)]; exact LeG.refl _)
       | (rw [if_pos (show usB u = true by assumption), if_pos (show argR n v t k = true by simp only [argR, *, Bool.and_self])]; skip))
    have hu5 : u.length ≤ 4096 := by
      have hu4 : ¬ (4096 : Int) < ((u.map eU).length : Int) := by assumption
      rw [List.length_map] at hu4; omega
    have hU : ∀ x ∈ u, rU x = true := fun x hx => by
      have h : usB u = true := by assumption
      unfold usB at h
      rw [Bool.and_eq_true] at h
      exact List.all_eq_true.1 h.1 x hx
    have hV : 0 ≤ v ∧ v ≤ 1099511627776 := by
      have h : inB 0 1099511627776 v = true := by assumption
      simpa [inB] using h
    have hT : 0 ≤ t ∧ t ≤ TM := by
      have h : inB 0 TM t = true := by assumption
      simpa [inB] using h
    have hS : ∀ b ∈ stA l n t k, rightA b = true := fun b hb => hr b (List.mem_filter.1 hb).1
    have hSl : (stA l n t k).length < 1000000 := Nat.lt_of_le_of_lt (List.length_filter_le _ _) hl
    clear q1 q2 q3
    generalize stA l n t k = S at *
    refine Wpc.loopB (α := {j : Nat // j ≤ S.length ∧ ∀ i b, i < j → S[i]? = some b → overB u v t k b = false}) mixed [0, 1, 2, 3, 4, 5, 12, 13, 14, 15, 16, 17, 21, 25, 28, 46, 55, 66] (fun j => [(17, .p (eI j.1))]) (fun j => S.length - j.1) ⟨0, by omega, fun i b h => absurd h (by omega)⟩ ?_ ?_
    · (first | refine Ent.ofA [] ?_ | refine Ent.ofC [] ?_) <;> (repeat' (first | exact trivial | refine HpLe.dd ?_ | refine HpLe.mk rfl (by simp) rfl (fun h => AObj.noConfusion h) ?_ ?_ | refine And.intro ?_ ?_ | exact VLe.refl _ | exact VLe.msl rfl | exact VLe.rsl rfl | exact VLe.csl rfl | exact VLe.cslr rfl | exact VLe.mp rfl | exact VLe.eptr rfl | exact VLe.ptr rfl | exact VLe.any _ | refine VLe.pe ?_ | refine VLe.agg ?_ | refine VLeL.cons ?_ ?_ | exact VLeL.nil | exact OLe.row _ _ | rfl | refine VLe.rsle rfl ?_ ?_ ?_ | refine OLe.rowe2 ?_ ?_ | refine OLe.mape ?_ ?_ | refine OLe.iter0 ?_ | refine OLe.itere ?_ ?_)) <;> try (first | (simp; done) | (congr 1; omega) | (congr 1; (first | (simp; done) | (simp; omega))))
    rintro ⟨j, hj, hq⟩
    have hj : j ≤ S.length := hj
    have hq : ∀ i b, i < j → S[i]? = some b → overB u v t k b = false := hq
    clear hc
    cases hxj : S[j]? with
    | none =>
      have hge : S.length ≤ j := List.getElem?_eq_none_iff.1 hxj
      have hno : ¬ ((j : Int) < ((S.map eA).length : Int)) := by rw [List.length_map]; omega
      repeat' (first | ((with_reducible show _ = _); exact rfl) | ((with_reducible show (_ : Nat) < _); exact Nat.zero_lt_succ _) | ((with_reducible show (_ : Nat) ≤ _); exact Nat.le_of_ble_eq_true rfl) | ((with_reducible show Exists _); refine exU8 ?_) | ((fail_if_success (first | (with_reducible show LeG _ _) | (with_reducible show Lp _ _ _ _) | (with_reducible show Exists _) | (with_reducible show callX _ _ _ _ _) | (with_reducible show (_ : Int) ≤ _) | (with_reducible show (_ : Int) < _) | (with_reducible show (_ : Nat) ≤ _) | (with_reducible show (_ : Nat) < _))); (conv => whnf) <;> (first | exact OkR.mk (by kernel_rfl) | exact OkC.mk (by kernel_rfl) | refine Br.dec (fun hc => absurd hc hno) (fun hc => ?_) | refine Sq.pr ?_ | refine Br.dec (fun hc => ?_) (fun hc => ?_) | refine Br.tt ?_ | refine Br.ff ?_ | refine Br.not ?_ | refine Br.mk (fun hc => ?_) (fun hc => ?_) | refine Opt.nn ?_ | refine Opt.ss ?_ | refine AltA.l ?_ | exact PV.leL_nil | refine PV.leL_cons ?_ ?_ | refine And.intro ?_ ?_ | refine ix_map (fun x hx => ?_) | refine exU8 ?_ | refine nilc (fun hn => ?_) ?_ | exact PV.le_refl _ | exact Nat.zero_lt_succ _ | exact Nat.le_of_ble_eq_true rfl | exact onesOf rfl | exact Or.inl rfl | exact noMem | exact onesOfP rfl | exact okAll rfl | exact okMap (fun _ => ⟨rfl, onesOfP rfl⟩) | exact nonz | refine imp0 (fun hpos => ?_) | refine fits_i64 ?_ ?_ | exact rfl | (with_reducible show LeG _ _) | (with_reducible show Lp _ _ _ _) | (with_reducible show Exists _) | (with_reducible show callX _ _ _ _ _)))) <;> (try (first | exact LeG.refl _ | omega | ((first | (with_reducible show (_ : Int) ≤ _) | (with_reducible show (_ : Int) < _) | (with_reducible show (_ : Nat) ≤ _) | (with_reducible show (_ : Nat) < _) | (with_reducible show ¬ _) | (with_reducible show (_ : Int) = _) | (with_reducible show (_ : Nat) = _)); (simp only [List.length_map, List.length_append, List.length_cons, List.length_nil, List.length_replicate, List.length_take, List.length_drop, List.length_set, Int.toNat_natCast, Int.reduceToNat] <;> omega)) | exact of_decide_eq_true rfl))
      rw [roomF_none hq hge]; exact LeG.refl _
    | some x =>
      have hlt : j < S.length := (List.getElem?_eq_some_iff.1 hxj).1
      have hyes : ((j : Int) < ((S.map eA).length : Int)) := by rw [List.length_map]; omega
      have hrx := hS x (List.mem_of_getElem? hxj)
      have hper : 1 ≤ x.per := by simp [rightA, inB] at hrx; omega
      repeat' (first | ((with_reducible show _ = _); exact rfl) | ((with_reducible show (_ : Nat) < _); exact Nat.zero_lt_succ _) | ((with_reducible show (_ : Nat) ≤ _); exact Nat.le_of_ble_eq_true rfl) | ((with_reducible show Exists _); refine exU8 ?_) | ((with_reducible show callX _ _ _ _ _); (first | refine call_p (rover_calls x u v t k hu5 hper hV hT hU) (by kernel_rfl) rfl ?_)) | ((fail_if_success (first | (with_reducible show LeG _ _) | (with_reducible show Lp _ _ _ _) | (with_reducible show Exists _) | (with_reducible show callX _ _ _ _ _) | (with_reducible show (_ : Int) ≤ _) | (with_reducible show (_ : Int) < _) | (with_reducible show (_ : Nat) ≤ _) | (with_reducible show (_ : Nat) < _))); (conv => whnf) <;> (first | exact OkR.mk (by kernel_rfl) | exact OkC.mk (by kernel_rfl) | refine Br.dec (fun hc => ?_) (fun hc => absurd hyes hc) | refine ix_at hxj ?_ | refine Sq.pr ?_ | refine Br.dec (fun hc => ?_) (fun hc => ?_) | refine Br.tt ?_ | refine Br.ff ?_ | refine Br.not ?_ | refine Br.mk (fun hc => ?_) (fun hc => ?_) | refine Opt.nn ?_ | refine Opt.ss ?_ | refine AltA.l ?_ | exact PV.leL_nil | refine PV.leL_cons ?_ ?_ | refine And.intro ?_ ?_ | refine ix_map (fun x hx => ?_) | refine exU8 ?_ | refine nilc (fun hn => ?_) ?_ | refine call_p (rover_calls x u v t k hu5 hper hV hT hU) (by kernel_rfl) rfl ?_ | exact PV.le_refl _ | exact Nat.zero_lt_succ _ | exact Nat.le_of_ble_eq_true rfl | exact onesOf rfl | exact Or.inl rfl | exact noMem | exact onesOfP rfl | exact okAll rfl | exact okMap (fun _ => ⟨rfl, onesOfP rfl⟩) | exact nonz | refine imp0 (fun hpos => ?_) | refine fits_i64 ?_ ?_ | exact rfl | (with_reducible show LeG _ _) | (with_reducible show Lp _ _ _ _) | (with_reducible show Exists _) | (with_reducible show callX _ _ _ _ _)))) <;> (try (first | exact LeG.refl _ | omega | ((first | (with_reducible show (_ : Int) ≤ _) | (with_reducible show (_ : Int) < _) | (with_reducible show (_ : Nat) ≤ _) | (with_reducible show (_ : Nat) < _) | (with_reducible show ¬ _) | (with_reducible show (_ : Int) = _) | (with_reducible show (_ : Nat) = _)); (simp only [List.length_map, List.length_append, List.length_cons, List.length_nil, List.length_replicate, List.length_take, List.length_drop, List.length_set, Int.toNat_natCast, Int.reduceToNat] <;> omega)) | exact of_decide_eq_true rfl))
      · rw [roomF_at hq hxj (by assumption)]; exact LeG.refl _
      · refine ⟨⟨j + 1, hlt, noneTo hq hxj (by assumption)⟩, by show S.length - (j + 1) < S.length - j; omega, ?_⟩
        (first | refine Ent.ofA [] ?_ | refine Ent.ofC [] ?_) <;> (repeat' (first | exact trivial | refine HpLe.dd ?_ | refine HpLe.mk rfl (by simp) rfl (fun h => AObj.noConfusion h) ?_ ?_ | refine And.intro ?_ ?_ | exact VLe.refl _ | exact VLe.msl rfl | exact VLe.rsl rfl | exact VLe.csl rfl | exact VLe.cslr rfl | exact VLe.mp rfl | exact VLe.eptr rfl | exact VLe.ptr rfl | exact VLe.any _ | refine VLe.pe ?_ | refine VLe.agg ?_ | refine VLeL.cons ?_ ?_ | exact VLeL.nil | exact OLe.row _ _ | rfl | refine VLe.rsle rfl ?_ ?_ ?_ | refine OLe.rowe2 ?_ ?_ | refine OLe.mape ?_ ?_ | refine OLe.iter0 ?_ | refine OLe.itere ?_ ?_)) <;> try (first | (simp; done) | (congr 1; omega) | (congr 1; (first | (simp; done) | (simp; omega))))
  · unfold roomA
    rw [if_neg hz]
    refine PCalls.of (N := 72) (res := [.tmp 12, .tmp 13, .tmp 14]) mixed Try.func20 rfl rfl rfl (by kernel_rfl) (by simp) [0, 1, 2, 3, 4, 5, 12, 13, 14, 15, 16, 17, 21, 25, 28, 46, 55, 66] ?_
    repeat' (first | ((with_reducible show _ = _); exact rfl) | ((with_reducible show (_ : Nat) < _); exact Nat.zero_lt_succ _) | ((with_reducible show (_ : Nat) ≤ _); exact Nat.le_of_ble_eq_true rfl) | ((with_reducible show Exists _); refine exU8 ?_) | ((with_reducible show callX _ _ _ _ _); (first | refine call_p (q1) (by kernel_rfl) rfl ?_)) | ((fail_if_success (first | (with_reducible show LeG _ _) | (with_reducible show Lp _ _ _ _) | (with_reducible show Exists _) | (with_reducible show callX _ _ _ _ _) | (with_reducible show (_ : Int) ≤ _) | (with_reducible show (_ : Int) < _) | (with_reducible show (_ : Nat) ≤ _) | (with_reducible show (_ : Nat) < _))); (conv => whnf) <;> (first | exact OkR.mk (by kernel_rfl) | exact OkC.mk (by kernel_rfl) | refine Sq.pr ?_ | refine Br.dec (fun hc => ?_) (fun hc => ?_) | refine Br.tt ?_ | refine Br.ff ?_ | refine Br.not ?_ | refine Br.mk (fun hc => ?_) (fun hc => ?_) | refine Opt.nn ?_ | refine Opt.ss ?_ | refine AltA.l ?_ | exact PV.leL_nil | refine PV.leL_cons ?_ ?_ | refine And.intro ?_ ?_ | refine ix_map (fun x hx => ?_) | refine exU8 ?_ | refine nilc (fun hn => ?_) ?_ | refine call_p (q1) (by kernel_rfl) rfl ?_ | exact PV.le_refl _ | exact Nat.zero_lt_succ _ | exact Nat.le_of_ble_eq_true rfl | exact onesOf rfl | exact Or.inl rfl | exact noMem | exact onesOfP rfl | exact okAll rfl | exact okMap (fun _ => ⟨rfl, onesOfP rfl⟩) | exact nonz | refine imp0 (fun hpos => ?_) | refine fits_i64 ?_ ?_ | exact rfl | (with_reducible show LeG _ _) | (with_reducible show Lp _ _ _ _) | (with_reducible show Exists _) | (with_reducible show callX _ _ _ _ _)))) <;> (try (first | exact LeG.refl _ | omega | ((first | (with_reducible show (_ : Int) ≤ _) | (with_reducible show (_ : Int) < _) | (with_reducible show (_ : Nat) ≤ _) | (with_reducible show (_ : Nat) < _) | (with_reducible show ¬ _) | (with_reducible show (_ : Int) = _) | (with_reducible show (_ : Nat) = _)); (simp only [List.length_map, List.length_append, List.length_cons, List.length_nil, List.length_replicate, List.length_take, List.length_drop, List.length_set, Int.toNat_natCast, Int.reduceToNat] <;> omega)) | exact of_decide_eq_true rfl))
end Go.Proofs.Ytjpmjhgephlcpaa

namespace Go.Proofs.Ytjpmjhgephlcpaa
open Go Go.Sg
set_option maxRecDepth 100000
set_option maxHeartbeats 20000000
def two : Bg := ⟨4, 0, 0, -1, 100, 2, 50, false⟩
theorem two_calls : PCalls Try.prog 23 [] (eA two) := by
  refine PCalls.of (N := 2) (res := [.cell 0 24]) mixed Try.func23 rfl rfl rfl (by kernel_rfl) (by simp) [0] ?_
  repeat' (first | ((with_reducible show _ = _); exact rfl) | ((with_reducible show (_ : Nat) < _); exact Nat.zero_lt_succ _) | ((with_reducible show (_ : Nat) ≤ _); exact Nat.le_of_ble_eq_true rfl) | ((with_reducible show Exists _); refine exU8 ?_) | ((fail_if_success (first | (with_reducible show LeG _ _) | (with_reducible show Lp _ _ _ _) | (with_reducible show Exists _) | (with_reducible show callX _ _ _ _ _) | (with_reducible show (_ : Int) ≤ _) | (with_reducible show (_ : Int) < _) | (with_reducible show (_ : Nat) ≤ _) | (with_reducible show (_ : Nat) < _))); (conv => whnf) <;> (first | exact OkR.mk (by kernel_rfl) | exact OkC.mk (by kernel_rfl) | refine Sq.pr ?_ | refine Br.dec (fun hc => ?_) (fun hc => ?_) | refine Br.tt ?_ | refine Br.ff ?_ | refine Br.not ?_ | refine Br.mk (fun hc => ?_) (fun hc => ?_) | refine Opt.nn ?_ | refine Opt.ss ?_ | refine AltA.l ?_ | exact PV.leL_nil | refine PV.leL_cons ?_ ?_ | refine And.intro ?_ ?_ | refine ix_map (fun x hx => ?_) | refine exU8 ?_ | refine nilc (fun hn => ?_) ?_ | exact PV.le_refl _ | exact Nat.zero_lt_succ _ | exact Nat.le_of_ble_eq_true rfl | exact onesOf rfl | exact Or.inl rfl | exact noMem | exact onesOfP rfl | exact okAll rfl | exact okMap (fun _ => ⟨rfl, onesOfP rfl⟩) | exact nonz | refine imp0 (fun hpos => ?_) | refine fits_i64 ?_ ?_ | exact rfl | (with_reducible show LeG _ _) | (with_reducible show Lp _ _ _ _) | (with_reducible show Exists _) | (with_reducible show callX _ _ _ _ _)))) <;> (try (first | exact LeG.refl _ | omega | ((first | (with_reducible show (_ : Int) ≤ _) | (with_reducible show (_ : Int) < _) | (with_reducible show (_ : Nat) ≤ _) | (with_reducible show (_ : Nat) < _) | (with_reducible show ¬ _) | (with_reducible show (_ : Int) = _) | (with_reducible show (_ : Nat) = _)); (simp only [List.length_map, List.length_append, List.length_cons, List.length_nil, List.length_replicate, List.length_take, List.length_drop, List.length_set, Int.toNat_natCast, Int.reduceToNat] <;> omega)) | exact of_decide_eq_true rfl))
  ((all_goals (try simp only [*, ↓reduceIte, Bool.false_eq_true, Bool.not_true, Bool.not_false, Bool.and_true, Bool.true_and, Bool.and_false, Bool.false_and, List.nil_append, List.drop_zero, Nat.zero_add, List.take_length, Int.toNat_natCast, Int.toNat_zero, List.append_nil]))); ((all_goals (try refine LeG.mk ?_)); (repeat' (first | exact PV.le_refl _ | exact PV.le_nil _ _ _ | exact PV.le_clip _ _ _ | exact PV.le_nilF _ _ _ | refine PV.le_agg ?_ | refine PV.le_tup ?_ | exact PV.leL_nil | refine PV.leL_cons ?_ ?_ | refine PV.le_of ?_ | rfl)))
theorem use_calls (d t v : Int) : PCalls Try.prog 24 [eI d, eI t, eI v] (eU ⟨d, 0, v, t, t⟩) := by
  refine PCalls.of (N := 12) (res := [.cell 6 49]) mixed Try.func24 rfl rfl rfl (by kernel_rfl) (by simp) [0, 1, 2, 6] ?_
  repeat' (first | ((with_reducible show _ = _); exact rfl) | ((with_reducible show (_ : Nat) < _); exact Nat.zero_lt_succ _) | ((with_reducible show (_ : Nat) ≤ _); exact Nat.le_of_ble_eq_true rfl) | ((with_reducible show Exists _); refine exU8 ?_) | ((fail_if_success (first | (with_reducible show LeG _ _) | (with_reducible show Lp _ _ _ _) | (with_reducible show Exists _) | (with_reducible show callX _ _ _ _ _) | (with_reducible show (_ : Int) ≤ _) | (with_reducible show (_ : Int) < _) | (with_reducible show (_ : Nat) ≤ _) | (with_reducible show (_ : Nat) < _))); (conv => whnf) <;> (first | exact OkR.mk (by kernel_rfl) | exact OkC.mk (by kernel_rfl) | refine Sq.pr ?_ | refine Br.dec (fun hc => ?_) (fun hc => ?_) | refine Br.tt ?_ | refine Br.ff ?_ | refine Br.not ?_ | refine Br.mk (fun hc => ?_) (fun hc => ?_) | refine Opt.nn ?_ | refine Opt.ss ?_ | refine AltA.l ?_ | exact PV.leL_nil | refine PV.leL_cons ?_ ?_ | refine And.intro ?_ ?_ | refine ix_map (fun x hx => ?_) | refine exU8 ?_ | refine nilc (fun hn => ?_) ?_ | exact PV.le_refl _ | exact Nat.zero_lt_succ _ | exact Nat.le_of_ble_eq_true rfl | exact onesOf rfl | exact Or.inl rfl | exact noMem | exact onesOfP rfl | exact okAll rfl | exact okMap (fun _ => ⟨rfl, onesOfP rfl⟩) | exact nonz | refine imp0 (fun hpos => ?_) | refine fits_i64 ?_ ?_ | exact rfl | (with_reducible show LeG _ _) | (with_reducible show Lp _ _ _ _) | (with_reducible show Exists _) | (with_reducible show callX _ _ _ _ _)))) <;> (try (first | exact LeG.refl _ | omega | ((first | (with_reducible show (_ : Int) ≤ _) | (with_reducible show (_ : Int) < _) | (with_reducible show (_ : Nat) ≤ _) | (with_reducible show (_ : Nat) < _) | (with_reducible show ¬ _) | (with_reducible show (_ : Int) = _) | (with_reducible show (_ : Nat) = _)); (simp only [List.length_map, List.length_append, List.length_cons, List.length_nil, List.length_replicate, List.length_take, List.length_drop, List.length_set, Int.toNat_natCast, Int.reduceToNat] <;> omega)) | exact of_decide_eq_true rfl))
  ((all_goals (try simp only [*, ↓reduceIte, Bool.false_eq_true, Bool.not_true, Bool.not_false, Bool.and_true, Bool.true_and, Bool.and_false, Bool.false_and, List.nil_append, List.drop_zero, Nat.zero_add, List.take_length, Int.toNat_natCast, Int.toNat_zero, List.append_nil]))); ((all_goals (try refine LeG.mk ?_)); (repeat' (first | exact PV.le_refl _ | exact PV.le_nil _ _ _ | exact PV.le_clip _ _ _ | exact PV.le_nilF _ _ _ | refine PV.le_agg ?_ | refine PV.le_tup ?_ | exact PV.leL_nil | refine PV.leL_cons ?_ ?_ | refine PV.le_of ?_ | rfl)))
def fewB (l : List Bg) : Bool := decide (l.length ≤ 30) && decide (chkA l = 0)
theorem right_law (l : List Bg) : PCalls Try.prog 21 [eL l] (.bool (fewB l)) := by
  by_cases hl : l.length ≤ 30
  · have q1 := rcheck_calls l (by omega)
    refine PCalls.of (N := 11) (res := [.tmp 2]) mixed Try.func21 rfl rfl rfl (by kernel_rfl) (by simp) [0, 2] ?_
    repeat' (first | ((with_reducible show _ = _); exact rfl) | ((with_reducible show (_ : Nat) < _); exact Nat.zero_lt_succ _) | ((with_reducible show (_ : Nat) ≤ _); exact Nat.le_of_ble_eq_true rfl) | ((with_reducible show Exists _); refine exU8 ?_) | ((with_reducible show callX _ _ _ _ _); (first | refine call_p (q1) (by kernel_rfl) rfl ?_)) | ((fail_if_success (first | (with_reducible show LeG _ _) | (with_reducible show Lp _ _ _ _) | (with_reducible show Exists _) | (with_reducible show callX _ _ _ _ _) | (with_reducible show (_ : Int) ≤ _) | (with_reducible show (_ : Int) < _) | (with_reducible show (_ : Nat) ≤ _) | (with_reducible show (_ : Nat) < _))); (conv => whnf) <;> (first | exact OkR.mk (by kernel_rfl) | exact OkC.mk (by kernel_rfl) | refine Sq.pr ?_ | refine Br.dec (fun hc => ?_) (fun hc => ?_) | refine Br.tt ?_ | refine Br.ff ?_ | refine Br.not ?_ | refine Br.mk (fun hc => ?_) (fun hc => ?_) | refine Opt.nn ?_ | refine Opt.ss ?_ | refine AltA.l ?_ | exact PV.leL_nil | refine PV.leL_cons ?_ ?_ | refine And.intro ?_ ?_ | refine ix_map (fun x hx => ?_) | refine exU8 ?_ | refine nilc (fun hn => ?_) ?_ | refine call_p (q1) (by kernel_rfl) rfl ?_ | exact PV.le_refl _ | exact Nat.zero_lt_succ _ | exact Nat.le_of_ble_eq_true rfl | exact onesOf rfl | exact Or.inl rfl | exact noMem | exact onesOfP rfl | exact okAll rfl | exact okMap (fun _ => ⟨rfl, onesOfP rfl⟩) | exact nonz | refine imp0 (fun hpos => ?_) | refine fits_i64 ?_ ?_ | exact rfl | (with_reducible show LeG _ _) | (with_reducible show Lp _ _ _ _) | (with_reducible show Exists _) | (with_reducible show callX _ _ _ _ _)))) <;> (try (first | exact LeG.refl _ | omega | ((first | (with_reducible show (_ : Int) ≤ _) | (with_reducible show (_ : Int) < _) | (with_reducible show (_ : Nat) ≤ _) | (with_reducible show (_ : Nat) < _) | (with_reducible show ¬ _) | (with_reducible show (_ : Int) = _) | (with_reducible show (_ : Nat) = _)); (simp only [List.length_map, List.length_append, List.length_cons, List.length_nil, List.length_replicate, List.length_take, List.length_drop, List.length_set, Int.toNat_natCast, Int.reduceToNat] <;> omega)) | exact of_decide_eq_true rfl))
    all_goals (rw [List.length_map] at hc; refine LeG.bool ?_; unfold fewB; first | (rw [decide_eq_true hl]; rfl) | omega)
  · refine PCalls.of (N := 11) (res := [.tmp 2]) mixed Try.func21 rfl rfl rfl (by kernel_rfl) (by simp) [0, 2] ?_
    repeat' (first | ((with_reducible show _ = _); exact rfl) | ((with_reducible show (_ : Nat) < _); exact Nat.zero_lt_succ _) | ((with_reducible show (_ : Nat) ≤ _); exact Nat.le_of_ble_eq_true rfl) | ((with_reducible show Exists _); refine exU8 ?_) | ((with_reducible show callX _ _ _ _ _); (first | (exfalso; simp at hc; omega))) | ((fail_if_success (first | (with_reducible show LeG _ _) | (with_reducible show Lp _ _ _ _) | (with_reducible show Exists _) | (with_reducible show callX _ _ _ _ _) | (with_reducible show (_ : Int) ≤ _) | (with_reducible show (_ : Int) < _) | (with_reducible show (_ : Nat) ≤ _) | (with_reducible show (_ : Nat) < _))); (conv => whnf) <;> (first | exact OkR.mk (by kernel_rfl) | exact OkC.mk (by kernel_rfl) | refine Sq.pr ?_ | refine Br.dec (fun hc => ?_) (fun hc => ?_) | refine Br.tt ?_ | refine Br.ff ?_ | refine Br.not ?_ | refine Br.mk (fun hc => ?_) (fun hc => ?_) | refine Opt.nn ?_ | refine Opt.ss ?_ | refine AltA.l ?_ | exact PV.leL_nil | refine PV.leL_cons ?_ ?_ | refine And.intro ?_ ?_ | refine ix_map (fun x hx => ?_) | refine exU8 ?_ | refine nilc (fun hn => ?_) ?_ | (exfalso; simp at hc; omega) | exact PV.le_refl _ | exact Nat.zero_lt_succ _ | exact Nat.le_of_ble_eq_true rfl | exact onesOf rfl | exact Or.inl rfl | exact noMem | exact onesOfP rfl | exact okAll rfl | exact okMap (fun _ => ⟨rfl, onesOfP rfl⟩) | exact nonz | refine imp0 (fun hpos => ?_) | refine fits_i64 ?_ ?_ | exact rfl | (with_reducible show LeG _ _) | (with_reducible show Lp _ _ _ _) | (with_reducible show Exists _) | (with_reducible show callX _ _ _ _ _)))) <;> (try (first | exact LeG.refl _ | omega | ((first | (with_reducible show (_ : Int) ≤ _) | (with_reducible show (_ : Int) < _) | (with_reducible show (_ : Nat) ≤ _) | (with_reducible show (_ : Nat) < _) | (with_reducible show ¬ _) | (with_reducible show (_ : Int) = _) | (with_reducible show (_ : Nat) = _)); (simp only [List.length_map, List.length_append, List.length_cons, List.length_nil, List.length_replicate, List.length_take, List.length_drop, List.length_set, Int.toNat_natCast, Int.reduceToNat] <;> omega)) | exact of_decide_eq_true rfl))
    refine LeG.bool ?_; unfold fewB; rw [decide_eq_false hl]; rfl
def roomS (u : List Us) (v t n : Int) : Bool := decide ((roomA [two] u 3 v t t).2.2 = 0) && decide ((roomA [two] u 3 v t t).1 = n) && decide ((roomA [two] u 3 v t t).2.1 = decide (n < 0))
theorem room_law (u : List Us) (v t n : Int) (hul : u.length < 1000000) : PCalls Try.prog 25 [eUs u, eI v, eI t, eI n] (.bool (roomS u v t n)) := by
  have q := Room_calls [two] u 3 v t t (by decide) hul
  unfold roomS
  generalize roomA [two] u 3 v t t = r at *
  obtain ⟨r1, r2, r3⟩ := r
  refine PCalls.of (N := 36) (res := [.tmp 8]) mixed Try.func25 rfl rfl rfl (by kernel_rfl) (by simp) [0, 1, 2, 3, 8, 9, 10, 11] ?_
  repeat' (first | ((with_reducible show _ = _); exact rfl) | ((with_reducible show (_ : Nat) < _); exact Nat.zero_lt_succ _) | ((with_reducible show (_ : Nat) ≤ _); exact Nat.le_of_ble_eq_true rfl) | ((with_reducible show Exists _); refine exU8 ?_) | ((with_reducible show callX _ _ _ _ _); (first | refine call_p (two_calls) (by kernel_rfl) rfl ?_ | (refine call_z (q) (by kernel_rfl) rfl ?_; (repeat' (first | exact PV.leL_nil | refine PV.leL_cons ?_ ?_ | refine And.intro ?_ ?_ | exact Nat.zero_lt_succ _ | exact Nat.le_of_ble_eq_true rfl | exact PV.le_refl _ | exact PV.le_nil _ _ _ | exact PV.le_clip _ _ _ | refine PV.le_agg ?_ | refine PV.le_tup ?_ | rfl)); fail_if_success (any_goals (refine PV.le_of ?_))))) | ((fail_if_success (first | (with_reducible show LeG _ _) | (with_reducible show Lp _ _ _ _) | (with_reducible show Exists _) | (with_reducible show callX _ _ _ _ _) | (with_reducible show (_ : Int) ≤ _) | (with_reducible show (_ : Int) < _) | (with_reducible show (_ : Nat) ≤ _) | (with_reducible show (_ : Nat) < _))); (conv => whnf) <;> (first | exact OkR.mk (by kernel_rfl) | exact OkC.mk (by kernel_rfl) | refine Sq.pr ?_ | refine Br.dec (fun hc => ?_) (fun hc => ?_) | refine Br.tt ?_ | refine Br.ff ?_ | refine Br.not ?_ | refine Br.mk (fun hc => ?_) (fun hc => ?_) | refine Opt.nn ?_ | refine Opt.ss ?_ | refine AltA.l ?_ | exact PV.leL_nil | refine PV.leL_cons ?_ ?_ | refine And.intro ?_ ?_ | refine ix_map (fun x hx => ?_) | refine exU8 ?_ | refine nilc (fun hn => ?_) ?_ | refine call_p (two_calls) (by kernel_rfl) rfl ?_ | (refine call_z (q) (by kernel_rfl) rfl ?_; (repeat' (first | exact PV.leL_nil | refine PV.leL_cons ?_ ?_ | refine And.intro ?_ ?_ | exact Nat.zero_lt_succ _ | exact Nat.le_of_ble_eq_true rfl | exact PV.le_refl _ | exact PV.le_nil _ _ _ | exact PV.le_clip _ _ _ | refine PV.le_agg ?_ | refine PV.le_tup ?_ | rfl)); fail_if_success (any_goals (refine PV.le_of ?_))) | exact PV.le_refl _ | exact Nat.zero_lt_succ _ | exact Nat.le_of_ble_eq_true rfl | exact onesOf rfl | exact Or.inl rfl | exact noMem | exact onesOfP rfl | exact okAll rfl | exact okMap (fun _ => ⟨rfl, onesOfP rfl⟩) | exact nonz | refine imp0 (fun hpos => ?_) | refine fits_i64 ?_ ?_ | exact rfl | (with_reducible show LeG _ _) | (with_reducible show Lp _ _ _ _) | (with_reducible show Exists _) | (with_reducible show callX _ _ _ _ _)))) <;> (try (first | exact LeG.refl _ | omega | ((first | (with_reducible show (_ : Int) ≤ _) | (with_reducible show (_ : Int) < _) | (with_reducible show (_ : Nat) ≤ _) | (with_reducible show (_ : Nat) < _) | (with_reducible show ¬ _) | (with_reducible show (_ : Int) = _) | (with_reducible show (_ : Nat) = _)); (simp only [List.length_map, List.length_append, List.length_cons, List.length_nil, List.length_replicate, List.length_take, List.length_drop, List.length_set, Int.toNat_natCast, Int.reduceToNat] <;> omega)) | exact of_decide_eq_true rfl))
  all_goals (refine LeG.bool ?_; generalize decide (n < 0) = d; dsimp only at *)
  · have h1 : r3 = 0 := by assumption
    rw [decide_eq_true h1, decide_eq_true hc]; cases r2 <;> cases d <;> rfl
  · rw [decide_eq_false hc]; simp
  · rw [decide_eq_false hc]; simp
def hour : Bg := ⟨2, 0, 0, 2, 10, 1, 0, false⟩
def bad : Bg := ⟨0, 0, 0, -1, 1, 1, 0, true⟩
def four : Bg := ⟨4, 0, 0, -1, 1, 0, 0, false⟩
abbrev eRm (r : Int × Bool × Int) : PV := .tup [eI r.1, .bool r.2.1, eI r.2.2]
theorem s1 : PCalls Try.prog 19 [eL [], eUs [], eI 0, eI 5, eI 0, eI 0] (eRm (-1, true, 0)) := by have h := Room_calls [] [] 0 5 0 0 (by decide) (by decide); rwa [show roomA [] [] 0 5 0 0 = (-1, true, 0) from by kernel_rfl] at h
theorem s2 : PCalls Try.prog 19 [eL [four], eUs [], eI 0, eI 0, eI 0, eI 0] (eRm (4, false, 0)) := by have h := Room_calls [four] [] 0 0 0 0 (by decide) (by decide); rwa [show roomA [four] [] 0 0 0 0 = (4, false, 0) from by kernel_rfl] at h
theorem s3 : PCalls Try.prog 17 [eL [], eI 16, eI 0, eI 0] (eR ([], 1)) := by have h := Standing_calls [] 16 0 0 (by decide); rwa [show standA [] 16 0 0 = ([], 1) from by kernel_rfl] at h
theorem s4 : PCalls Try.prog 11 [eL [two], eA hour] (eR ([hour, two], 0)) := by have h := add_calls [two] hour (by decide); rwa [show addA [two] hour = ([hour, two], 0) from by kernel_rfl] at h
theorem s5 : PCalls Try.prog 17 [eL [hour, two], eI 2, eI 7, eI 7] (eR ([hour, two], 0)) := by have h := Standing_calls [hour, two] 2 7 7 (by decide); rwa [show standA [hour, two] 2 7 7 = ([hour, two], 0) from by kernel_rfl] at h
theorem s6 : PCalls Try.prog 17 [eL [hour, two], eI 1, eI 7, eI 7] (eR ([two], 0)) := by have h := Standing_calls [hour, two] 1 7 7 (by decide); rwa [show standA [hour, two] 1 7 7 = ([two], 0) from by kernel_rfl] at h
theorem s7 : PCalls Try.prog 11 [eL [hour, two], eA hour] (eR ([], 151)) := by have h := add_calls [hour, two] hour (by decide); rwa [show addA [hour, two] hour = ([], 151) from by kernel_rfl] at h
theorem s8 : PCalls Try.prog 15 [eL [hour, two], eL [hour, two]] (.bool true) := by have h := same_calls [hour, two] [hour, two] (by decide); rwa [show decide ([hour, two] = [hour, two]) = true from by kernel_rfl] at h
theorem s9 : PCalls Try.prog 15 [eL [two], eL [two]] (.bool true) := by have h := same_calls [two] [two] (by decide); rwa [show decide ([two] = [two]) = true from by kernel_rfl] at h
theorem s10 : PCalls Try.prog 13 [eL [bad]] (eI 180) := by have h := check_calls [bad] (by decide); rwa [show chkA [bad] = 180 from by kernel_rfl] at h
theorem s11 : PCalls Try.prog 13 [eL [hour, two]] (eI 0) := by have h := check_calls [hour, two] (by decide); rwa [show chkA [hour, two] = 0 from by kernel_rfl] at h
def us1 : Us := ⟨1, 0, 20, 100, 100⟩
def us2 : Us := ⟨2, 0, 20, 150, 150⟩
theorem u1 : PCalls Try.prog 24 [eI 1, eI 100, eI 20] (eU us1) := use_calls 1 100 20
theorem u2 : PCalls Try.prog 24 [eI 2, eI 150, eI 20] (eU us2) := use_calls 2 150 20
theorem r1 : PCalls Try.prog 25 [eUs [us1], eI 30, eI 160, eI (-1)] (.bool true) := by have h := room_law [us1] 30 160 (-1) (by decide); rwa [show roomS [us1] 30 160 (-1) = true from by kernel_rfl] at h
theorem r2 : PCalls Try.prog 25 [eUs [us1], eI 31, eI 160, eI 4] (.bool true) := by have h := room_law [us1] 31 160 4 (by decide); rwa [show roomS [us1] 31 160 4 = true from by kernel_rfl] at h
theorem r3 : PCalls Try.prog 25 [eUs [us1, us2], eI 0, eI 199, eI 4] (.bool true) := by have h := room_law [us1, us2] 0 199 4 (by decide); rwa [show roomS [us1, us2] 0 199 4 = true from by kernel_rfl] at h
theorem r4 : PCalls Try.prog 25 [eUs [us1, us2], eI 50, eI 200, eI (-1)] (.bool true) := by have h := room_law [us1, us2] 50 200 (-1) (by decide); rwa [show roomS [us1, us2] 50 200 (-1) = true from by kernel_rfl] at h
end Go.Proofs.Ytjpmjhgephlcpaa

namespace Go.Proofs.Ytjpmjhgephlcpaa
open Go Go.Sg
set_option maxRecDepth 100000
set_option maxHeartbeats 20000000
theorem sane_calls : PCalls Try.prog 9 [] (.bool true) := by
  refine PCalls.of (N := 143) (res := [.tmp 0]) mixed Try.func9 rfl rfl rfl (by kernel_rfl) (by simp) [0, 1, 2, 3, 4, 5, 6, 8, 9, 10, 11, 12, 13, 14, 15, 17, 18, 99, 123] ?_
  repeat' (first | ((with_reducible show _ = _); exact rfl) | ((with_reducible show (_ : Nat) < _); exact Nat.zero_lt_succ _) | ((with_reducible show (_ : Nat) ≤ _); exact Nat.le_of_ble_eq_true rfl) | ((with_reducible show Exists _); refine exU8 ?_) | ((with_reducible show callX _ _ _ _ _); (first | refine call_p (two_calls) (by kernel_rfl) rfl ?_ | refine call_p (u1) (by kernel_rfl) rfl ?_ | refine call_p (u2) (by kernel_rfl) rfl ?_ | (refine call_z (s1) (by kernel_rfl) rfl ?_; (repeat' (first | exact PV.leL_nil | refine PV.leL_cons ?_ ?_ | refine And.intro ?_ ?_ | exact Nat.zero_lt_succ _ | exact Nat.le_of_ble_eq_true rfl | exact PV.le_refl _ | exact PV.le_nil _ _ _ | exact PV.le_clip _ _ _ | refine PV.le_agg ?_ | refine PV.le_tup ?_ | rfl)); fail_if_success (any_goals (refine PV.le_of ?_))) | (refine call_z (s2) (by kernel_rfl) rfl ?_; (repeat' (first | exact PV.leL_nil | refine PV.leL_cons ?_ ?_ | refine And.intro ?_ ?_ | exact Nat.zero_lt_succ _ | exact Nat.le_of_ble_eq_true rfl | exact PV.le_refl _ | exact PV.le_nil _ _ _ | exact PV.le_clip _ _ _ | refine PV.le_agg ?_ | refine PV.le_tup ?_ | rfl)); fail_if_success (any_goals (refine PV.le_of ?_))) | (refine call_z (s3) (by kernel_rfl) rfl ?_; (repeat' (first | exact PV.leL_nil | refine PV.leL_cons ?_ ?_ | refine And.intro ?_ ?_ | exact Nat.zero_lt_succ _ | exact Nat.le_of_ble_eq_true rfl | exact PV.le_refl _ | exact PV.le_nil _ _ _ | exact PV.le_clip _ _ _ | refine PV.le_agg ?_ | refine PV.le_tup ?_ | rfl)); fail_if_success (any_goals (refine PV.le_of ?_))) | (refine call_z (s4) (by kernel_rfl) rfl ?_; (repeat' (first | exact PV.leL_nil | refine PV.leL_cons ?_ ?_ | refine And.intro ?_ ?_ | exact Nat.zero_lt_succ _ | exact Nat.le_of_ble_eq_true rfl | exact PV.le_refl _ | exact PV.le_nil _ _ _ | exact PV.le_clip _ _ _ | refine PV.le_agg ?_ | refine PV.le_tup ?_ | rfl)); fail_if_success (any_goals (refine PV.le_of ?_))) | (refine call_z (s5) (by kernel_rfl) rfl ?_; (repeat' (first | exact PV.leL_nil | refine PV.leL_cons ?_ ?_ | refine And.intro ?_ ?_ | exact Nat.zero_lt_succ _ | exact Nat.le_of_ble_eq_true rfl | exact PV.le_refl _ | exact PV.le_nil _ _ _ | exact PV.le_clip _ _ _ | refine PV.le_agg ?_ | refine PV.le_tup ?_ | rfl)); fail_if_success (any_goals (refine PV.le_of ?_))) | (refine call_z (s6) (by kernel_rfl) rfl ?_; (repeat' (first | exact PV.leL_nil | refine PV.leL_cons ?_ ?_ | refine And.intro ?_ ?_ | exact Nat.zero_lt_succ _ | exact Nat.le_of_ble_eq_true rfl | exact PV.le_refl _ | exact PV.le_nil _ _ _ | exact PV.le_clip _ _ _ | refine PV.le_agg ?_ | refine PV.le_tup ?_ | rfl)); fail_if_success (any_goals (refine PV.le_of ?_))) | (refine call_z (s7) (by kernel_rfl) rfl ?_; (repeat' (first | exact PV.leL_nil | refine PV.leL_cons ?_ ?_ | refine And.intro ?_ ?_ | exact Nat.zero_lt_succ _ | exact Nat.le_of_ble_eq_true rfl | exact PV.le_refl _ | exact PV.le_nil _ _ _ | exact PV.le_clip _ _ _ | refine PV.le_agg ?_ | refine PV.le_tup ?_ | rfl)); fail_if_success (any_goals (refine PV.le_of ?_))) | (refine call_z (s8) (by kernel_rfl) rfl ?_; (repeat' (first | exact PV.leL_nil | refine PV.leL_cons ?_ ?_ | refine And.intro ?_ ?_ | exact Nat.zero_lt_succ _ | exact Nat.le_of_ble_eq_true rfl | exact PV.le_refl _ | exact PV.le_nil _ _ _ | exact PV.le_clip _ _ _ | refine PV.le_agg ?_ | refine PV.le_tup ?_ | rfl)); fail_if_success (any_goals (refine PV.le_of ?_))) | (refine call_z (s9) (by kernel_rfl) rfl ?_; (repeat' (first | exact PV.leL_nil | refine PV.leL_cons ?_ ?_ | refine And.intro ?_ ?_ | exact Nat.zero_lt_succ _ | exact Nat.le_of_ble_eq_true rfl | exact PV.le_refl _ | exact PV.le_nil _ _ _ | exact PV.le_clip _ _ _ | refine PV.le_agg ?_ | refine PV.le_tup ?_ | rfl)); fail_if_success (any_goals (refine PV.le_of ?_))) | (refine call_z (s10) (by kernel_rfl) rfl ?_; (repeat' (first | exact PV.leL_nil | refine PV.leL_cons ?_ ?_ | refine And.intro ?_ ?_ | exact Nat.zero_lt_succ _ | exact Nat.le_of_ble_eq_true rfl | exact PV.le_refl _ | exact PV.le_nil _ _ _ | exact PV.le_clip _ _ _ | refine PV.le_agg ?_ | refine PV.le_tup ?_ | rfl)); fail_if_success (any_goals (refine PV.le_of ?_))) | (refine call_z (s11) (by kernel_rfl) rfl ?_; (repeat' (first | exact PV.leL_nil | refine PV.leL_cons ?_ ?_ | refine And.intro ?_ ?_ | exact Nat.zero_lt_succ _ | exact Nat.le_of_ble_eq_true rfl | exact PV.le_refl _ | exact PV.le_nil _ _ _ | exact PV.le_clip _ _ _ | refine PV.le_agg ?_ | refine PV.le_tup ?_ | rfl)); fail_if_success (any_goals (refine PV.le_of ?_))) | (refine call_z (r1) (by kernel_rfl) rfl ?_; (repeat' (first | exact PV.leL_nil | refine PV.leL_cons ?_ ?_ | refine And.intro ?_ ?_ | exact Nat.zero_lt_succ _ | exact Nat.le_of_ble_eq_true rfl | exact PV.le_refl _ | exact PV.le_nil _ _ _ | exact PV.le_clip _ _ _ | refine PV.le_agg ?_ | refine PV.le_tup ?_ | rfl)); fail_if_success (any_goals (refine PV.le_of ?_))) | (refine call_z (r2) (by kernel_rfl) rfl ?_; (repeat' (first | exact PV.leL_nil | refine PV.leL_cons ?_ ?_ | refine And.intro ?_ ?_ | exact Nat.zero_lt_succ _ | exact Nat.le_of_ble_eq_true rfl | exact PV.le_refl _ | exact PV.le_nil _ _ _ | exact PV.le_clip _ _ _ | refine PV.le_agg ?_ | refine PV.le_tup ?_ | rfl)); fail_if_success (any_goals (refine PV.le_of ?_))) | (refine call_z (r3) (by kernel_rfl) rfl ?_; (repeat' (first | exact PV.leL_nil | refine PV.leL_cons ?_ ?_ | refine And.intro ?_ ?_ | exact Nat.zero_lt_succ _ | exact Nat.le_of_ble_eq_true rfl | exact PV.le_refl _ | exact PV.le_nil _ _ _ | exact PV.le_clip _ _ _ | refine PV.le_agg ?_ | refine PV.le_tup ?_ | rfl)); fail_if_success (any_goals (refine PV.le_of ?_))) | (refine call_z (r4) (by kernel_rfl) rfl ?_; (repeat' (first | exact PV.leL_nil | refine PV.leL_cons ?_ ?_ | refine And.intro ?_ ?_ | exact Nat.zero_lt_succ _ | exact Nat.le_of_ble_eq_true rfl | exact PV.le_refl _ | exact PV.le_nil _ _ _ | exact PV.le_clip _ _ _ | refine PV.le_agg ?_ | refine PV.le_tup ?_ | rfl)); fail_if_success (any_goals (refine PV.le_of ?_))) | exact of_decide_eq_true rfl)) | ((fail_if_success (first | (with_reducible show LeG _ _) | (with_reducible show Lp _ _ _ _) | (with_reducible show Exists _) | (with_reducible show callX _ _ _ _ _) | (with_reducible show (_ : Int) ≤ _) | (with_reducible show (_ : Int) < _) | (with_reducible show (_ : Nat) ≤ _) | (with_reducible show (_ : Nat) < _))); (conv => whnf) <;> (first | exact OkR.mk (by kernel_rfl) | exact OkC.mk (by kernel_rfl) | refine Br.tt ?_ | refine Br.ff ?_ | refine ix_lit rfl ?_ | refine Sq.pr ?_ | refine Br.dec (fun hc => ?_) (fun hc => ?_) | refine Br.tt ?_ | refine Br.ff ?_ | refine Br.not ?_ | refine Br.mk (fun hc => ?_) (fun hc => ?_) | refine Opt.nn ?_ | refine Opt.ss ?_ | refine AltA.l ?_ | exact PV.leL_nil | refine PV.leL_cons ?_ ?_ | refine And.intro ?_ ?_ | refine ix_map (fun x hx => ?_) | refine exU8 ?_ | refine nilc (fun hn => ?_) ?_ | refine call_p (two_calls) (by kernel_rfl) rfl ?_ | refine call_p (u1) (by kernel_rfl) rfl ?_ | refine call_p (u2) (by kernel_rfl) rfl ?_ | (refine call_z (s1) (by kernel_rfl) rfl ?_; (repeat' (first | exact PV.leL_nil | refine PV.leL_cons ?_ ?_ | refine And.intro ?_ ?_ | exact Nat.zero_lt_succ _ | exact Nat.le_of_ble_eq_true rfl | exact PV.le_refl _ | exact PV.le_nil _ _ _ | exact PV.le_clip _ _ _ | refine PV.le_agg ?_ | refine PV.le_tup ?_ | rfl)); fail_if_success (any_goals (refine PV.le_of ?_))) | (refine call_z (s2) (by kernel_rfl) rfl ?_; (repeat' (first | exact PV.leL_nil | refine PV.leL_cons ?_ ?_ | refine And.intro ?_ ?_ | exact Nat.zero_lt_succ _ | exact Nat.le_of_ble_eq_true rfl | exact PV.le_refl _ | exact PV.le_nil _ _ _ | exact PV.le_clip _ _ _ | refine PV.le_agg ?_ | refine PV.le_tup ?_ | rfl)); fail_if_success (any_goals (refine PV.le_of ?_))) | (refine call_z (s3) (by kernel_rfl) rfl ?_; (repeat' (first | exact PV.leL_nil | refine PV.leL_cons ?_ ?_ | refine And.intro ?_ ?_ | exact Nat.zero_lt_succ _ | exact Nat.le_of_ble_eq_true rfl | exact PV.le_refl _ | exact PV.le_nil _ _ _ | exact PV.le_clip _ _ _ | refine PV.le_agg ?_ | refine PV.le_tup ?_ | rfl)); fail_if_success (any_goals (refine PV.le_of ?_))) | (refine call_z (s4) (by kernel_rfl) rfl ?_; (repeat' (first | exact PV.leL_nil | refine PV.leL_cons ?_ ?_ | refine And.intro ?_ ?_ | exact Nat.zero_lt_succ _ | exact Nat.le_of_ble_eq_true rfl | exact PV.le_refl _ | exact PV.le_nil _ _ _ | exact PV.le_clip _ _ _ | refine PV.le_agg ?_ | refine PV.le_tup ?_ | rfl)); fail_if_success (any_goals (refine PV.le_of ?_))) | (refine call_z (s5) (by kernel_rfl) rfl ?_; (repeat' (first | exact PV.leL_nil | refine PV.leL_cons ?_ ?_ | refine And.intro ?_ ?_ | exact Nat.zero_lt_succ _ | exact Nat.le_of_ble_eq_true rfl | exact PV.le_refl _ | exact PV.le_nil _ _ _ | exact PV.le_clip _ _ _ | refine PV.le_agg ?_ | refine PV.le_tup ?_ | rfl)); fail_if_success (any_goals (refine PV.le_of ?_))) | (refine call_z (s6) (by kernel_rfl) rfl ?_; (repeat' (first | exact PV.leL_nil | refine PV.leL_cons ?_ ?_ | refine And.intro ?_ ?_ | exact Nat.zero_lt_succ _ | exact Nat.le_of_ble_eq_true rfl | exact PV.le_refl _ | exact PV.le_nil _ _ _ | exact PV.le_clip _ _ _ | refine PV.le_agg ?_ | refine PV.le_tup ?_ | rfl)); fail_if_success (any_goals (refine PV.le_of ?_))) | (refine call_z (s7) (by kernel_rfl) rfl ?_; (repeat' (first | exact PV.leL_nil | refine PV.leL_cons ?_ ?_ | refine And.intro ?_ ?_ | exact Nat.zero_lt_succ _ | exact Nat.le_of_ble_eq_true rfl | exact PV.le_refl _ | exact PV.le_nil _ _ _ | exact PV.le_clip _ _ _ | refine PV.le_agg ?_ | refine PV.le_tup ?_ | rfl)); fail_if_success (any_goals (refine PV.le_of ?_))) | (refine call_z (s8) (by kernel_rfl) rfl ?_; (repeat' (first | exact PV.leL_nil | refine PV.leL_cons ?_ ?_ | refine And.intro ?_ ?_ | exact Nat.zero_lt_succ _ | exact Nat.le_of_ble_eq_true rfl | exact PV.le_refl _ | exact PV.le_nil _ _ _ | exact PV.le_clip _ _ _ | refine PV.le_agg ?_ | refine PV.le_tup ?_ | rfl)); fail_if_success (any_goals (refine PV.le_of ?_))) | (refine call_z (s9) (by kernel_rfl) rfl ?_; (repeat' (first | exact PV.leL_nil | refine PV.leL_cons ?_ ?_ | refine And.intro ?_ ?_ | exact Nat.zero_lt_succ _ | exact Nat.le_of_ble_eq_true rfl | exact PV.le_refl _ | exact PV.le_nil _ _ _ | exact PV.le_clip _ _ _ | refine PV.le_agg ?_ | refine PV.le_tup ?_ | rfl)); fail_if_success (any_goals (refine PV.le_of ?_))) | (refine call_z (s10) (by kernel_rfl) rfl ?_; (repeat' (first | exact PV.leL_nil | refine PV.leL_cons ?_ ?_ | refine And.intro ?_ ?_ | exact Nat.zero_lt_succ _ | exact Nat.le_of_ble_eq_true rfl | exact PV.le_refl _ | exact PV.le_nil _ _ _ | exact PV.le_clip _ _ _ | refine PV.le_agg ?_ | refine PV.le_tup ?_ | rfl)); fail_if_success (any_goals (refine PV.le_of ?_))) | (refine call_z (s11) (by kernel_rfl) rfl ?_; (repeat' (first | exact PV.leL_nil | refine PV.leL_cons ?_ ?_ | refine And.intro ?_ ?_ | exact Nat.zero_lt_succ _ | exact Nat.le_of_ble_eq_true rfl | exact PV.le_refl _ | exact PV.le_nil _ _ _ | exact PV.le_clip _ _ _ | refine PV.le_agg ?_ | refine PV.le_tup ?_ | rfl)); fail_if_success (any_goals (refine PV.le_of ?_))) | (refine call_z (r1) (by kernel_rfl) rfl ?_; (repeat' (first | exact PV.leL_nil | refine PV.leL_cons ?_ ?_ | refine And.intro ?_ ?_ | exact Nat.zero_lt_succ _ | exact Nat.le_of_ble_eq_true rfl | exact PV.le_refl _ | exact PV.le_nil _ _ _ | exact PV.le_clip _ _ _ | refine PV.le_agg ?_ | refine PV.le_tup ?_ | rfl)); fail_if_success (any_goals (refine PV.le_of ?_))) | (refine call_z (r2) (by kernel_rfl) rfl ?_; (repeat' (first | exact PV.leL_nil | refine PV.leL_cons ?_ ?_ | refine And.intro ?_ ?_ | exact Nat.zero_lt_succ _ | exact Nat.le_of_ble_eq_true rfl | exact PV.le_refl _ | exact PV.le_nil _ _ _ | exact PV.le_clip _ _ _ | refine PV.le_agg ?_ | refine PV.le_tup ?_ | rfl)); fail_if_success (any_goals (refine PV.le_of ?_))) | (refine call_z (r3) (by kernel_rfl) rfl ?_; (repeat' (first | exact PV.leL_nil | refine PV.leL_cons ?_ ?_ | refine And.intro ?_ ?_ | exact Nat.zero_lt_succ _ | exact Nat.le_of_ble_eq_true rfl | exact PV.le_refl _ | exact PV.le_nil _ _ _ | exact PV.le_clip _ _ _ | refine PV.le_agg ?_ | refine PV.le_tup ?_ | rfl)); fail_if_success (any_goals (refine PV.le_of ?_))) | (refine call_z (r4) (by kernel_rfl) rfl ?_; (repeat' (first | exact PV.leL_nil | refine PV.leL_cons ?_ ?_ | refine And.intro ?_ ?_ | exact Nat.zero_lt_succ _ | exact Nat.le_of_ble_eq_true rfl | exact PV.le_refl _ | exact PV.le_nil _ _ _ | exact PV.le_clip _ _ _ | refine PV.le_agg ?_ | refine PV.le_tup ?_ | rfl)); fail_if_success (any_goals (refine PV.le_of ?_))) | exact of_decide_eq_true rfl | exact PV.le_refl _ | exact Nat.zero_lt_succ _ | exact Nat.le_of_ble_eq_true rfl | exact onesOf rfl | exact Or.inl rfl | exact noMem | exact onesOfP rfl | exact okAll rfl | exact okMap (fun _ => ⟨rfl, onesOfP rfl⟩) | exact nonz | refine imp0 (fun hpos => ?_) | refine fits_i64 ?_ ?_ | exact rfl | (with_reducible show LeG _ _) | (with_reducible show Lp _ _ _ _) | (with_reducible show Exists _) | (with_reducible show callX _ _ _ _ _)))) <;> (try (first | exact LeG.refl _ | omega | ((first | (with_reducible show (_ : Int) ≤ _) | (with_reducible show (_ : Int) < _) | (with_reducible show (_ : Nat) ≤ _) | (with_reducible show (_ : Nat) < _) | (with_reducible show ¬ _) | (with_reducible show (_ : Int) = _) | (with_reducible show (_ : Nat) = _)); (simp only [List.length_map, List.length_append, List.length_cons, List.length_nil, List.length_replicate, List.length_take, List.length_drop, List.length_set, Int.toNat_natCast, Int.reduceToNat] <;> omega)) | exact of_decide_eq_true rfl))
end Go.Proofs.Ytjpmjhgephlcpaa

namespace Go.Proofs.Ytjpmjhgephlcpaa
open Go Go.Sg
set_option maxRecDepth 100000
set_option maxHeartbeats 20000000
def fewL (l : List Bg) : Bool := decide (l.length ≤ 30) || decide (4090 ≤ l.length) && decide (l.length ≤ 4100)
def fewU (u : List Us) : Bool := decide (u.length ≤ 30) || decide (4096 < u.length) && decide (u.length ≤ 4200)
theorem fewL_len {l : List Bg} (h : fewL l = true) : l.length < 1000000 := by simp [fewL] at h; omega
theorem fewU_len {u : List Us} (h : fewU u = true) : u.length < 1000000 := by simp [fewU] at h; omega
theorem few2_calls (l : List Bg) : PCalls Try.prog 10 [eL l] (.bool (fewL l)) := rfew_calls l
theorem fewU2_calls (u : List Us) : PCalls Try.prog 16 [eUs u] (.bool (fewU u)) := rfewUses_calls u
theorem standA_len (l : List Bg) (n t k : Int) (hl : l.length < 1000000) : (standA l n t k).1.length < 1000000 := by
  unfold standA
  split
  · split
    · exact Nat.lt_of_le_of_lt (List.length_filter_le _ _) hl
    · simp
  · simp
theorem spec_calls (l : List Bg) (x : Bg) : PCalls Try.prog 3 [eL l, eA x] (.bool true) := by
  have q0 := few2_calls l
  cases hf : fewL l with
  | false =>
    rw [hf] at q0
    refine PCalls.of (N := 41) (res := [.tmp 4]) mixed Try.func3 rfl rfl rfl (by kernel_rfl) (by simp) [0, 1, 3, 4, 5, 6, 7, 8, 10, 13] ?_
    repeat' (first | ((with_reducible show _ = _); exact rfl) | ((with_reducible show (_ : Nat) < _); exact Nat.zero_lt_succ _) | ((with_reducible show (_ : Nat) ≤ _); exact Nat.le_of_ble_eq_true rfl) | ((with_reducible show Exists _); refine exU8 ?_) | ((with_reducible show callX _ _ _ _ _); (first | refine call_p (sane_calls) (by kernel_rfl) rfl ?_ | refine call_p (q0) (by kernel_rfl) rfl ?_)) | ((fail_if_success (first | (with_reducible show LeG _ _) | (with_reducible show Lp _ _ _ _) | (with_reducible show Exists _) | (with_reducible show callX _ _ _ _ _) | (with_reducible show (_ : Int) ≤ _) | (with_reducible show (_ : Int) < _) | (with_reducible show (_ : Nat) ≤ _) | (with_reducible show (_ : Nat) < _))); (conv => whnf) <;> (first | exact OkR.mk (by kernel_rfl) | exact OkC.mk (by kernel_rfl) | refine Sq.pr ?_ | refine Br.dec (fun hc => ?_) (fun hc => ?_) | refine Br.tt ?_ | refine Br.ff ?_ | refine Br.not ?_ | refine Br.mk (fun hc => ?_) (fun hc => ?_) | refine Opt.nn ?_ | refine Opt.ss ?_ | refine AltA.l ?_ | exact PV.leL_nil | refine PV.leL_cons ?_ ?_ | refine And.intro ?_ ?_ | refine ix_map (fun x hx => ?_) | refine exU8 ?_ | refine nilc (fun hn => ?_) ?_ | refine call_p (sane_calls) (by kernel_rfl) rfl ?_ | refine call_p (q0) (by kernel_rfl) rfl ?_ | exact PV.le_refl _ | exact Nat.zero_lt_succ _ | exact Nat.le_of_ble_eq_true rfl | exact onesOf rfl | exact Or.inl rfl | exact noMem | exact onesOfP rfl | exact okAll rfl | exact okMap (fun _ => ⟨rfl, onesOfP rfl⟩) | exact nonz | refine imp0 (fun hpos => ?_) | refine fits_i64 ?_ ?_ | exact rfl | (with_reducible show LeG _ _) | (with_reducible show Lp _ _ _ _) | (with_reducible show Exists _) | (with_reducible show callX _ _ _ _ _)))) <;> (try (first | exact LeG.refl _ | omega | ((first | (with_reducible show (_ : Int) ≤ _) | (with_reducible show (_ : Int) < _) | (with_reducible show (_ : Nat) ≤ _) | (with_reducible show (_ : Nat) < _) | (with_reducible show ¬ _) | (with_reducible show (_ : Int) = _) | (with_reducible show (_ : Nat) = _)); (simp only [List.length_map, List.length_append, List.length_cons, List.length_nil, List.length_replicate, List.length_take, List.length_drop, List.length_set, Int.toNat_natCast, Int.reduceToNat] <;> omega)) | exact of_decide_eq_true rfl))
  | true =>
    rw [hf] at q0
    have hl := fewL_len hf
    have h2 : (addA l x).1.length < 1000000 := by
      unfold addA addL
      split; split; split; simp; split; simp; rw [length_insN]; simp [fewL] at hf; omega; simp; simp
    have q5 := same_calls (addA l x).1 (addA l x).1 h2
    rw [decide_eq_true rfl] at q5
    refine PCalls.of (N := 41) (res := [.tmp 4]) mixed Try.func3 rfl rfl rfl (by kernel_rfl) (by simp) [0, 1, 3, 4, 5, 6, 7, 8, 10, 13] ?_
    repeat' (first | ((with_reducible show _ = _); exact rfl) | ((with_reducible show (_ : Nat) < _); exact Nat.zero_lt_succ _) | ((with_reducible show (_ : Nat) ≤ _); exact Nat.le_of_ble_eq_true rfl) | ((with_reducible show Exists _); refine exU8 ?_) | ((with_reducible show callX _ _ _ _ _); (first | refine call_p (sane_calls) (by kernel_rfl) rfl ?_ | refine call_p (q0) (by kernel_rfl) rfl ?_ | refine call_p (add_calls l x hl) (by kernel_rfl) rfl ?_ | refine call_p (radd_calls l x hl) (by kernel_rfl) rfl ?_ | refine call_p (check_calls l hl) (by kernel_rfl) rfl ?_ | refine call_p (rcheck_calls l hl) (by kernel_rfl) rfl ?_ | refine call_p (q5) (by kernel_rfl) rfl ?_)) | ((fail_if_success (first | (with_reducible show LeG _ _) | (with_reducible show Lp _ _ _ _) | (with_reducible show Exists _) | (with_reducible show callX _ _ _ _ _) | (with_reducible show (_ : Int) ≤ _) | (with_reducible show (_ : Int) < _) | (with_reducible show (_ : Nat) ≤ _) | (with_reducible show (_ : Nat) < _))); (conv => whnf) <;> (first | exact OkR.mk (by kernel_rfl) | exact OkC.mk (by kernel_rfl) | refine Sq.pr ?_ | refine Br.dec (fun hc => ?_) (fun hc => ?_) | refine Br.tt ?_ | refine Br.ff ?_ | refine Br.not ?_ | refine Br.mk (fun hc => ?_) (fun hc => ?_) | refine Opt.nn ?_ | refine Opt.ss ?_ | refine AltA.l ?_ | exact PV.leL_nil | refine PV.leL_cons ?_ ?_ | refine And.intro ?_ ?_ | refine ix_map (fun x hx => ?_) | refine exU8 ?_ | refine nilc (fun hn => ?_) ?_ | refine call_p (sane_calls) (by kernel_rfl) rfl ?_ | refine call_p (q0) (by kernel_rfl) rfl ?_ | refine call_p (add_calls l x hl) (by kernel_rfl) rfl ?_ | refine call_p (radd_calls l x hl) (by kernel_rfl) rfl ?_ | refine call_p (check_calls l hl) (by kernel_rfl) rfl ?_ | refine call_p (rcheck_calls l hl) (by kernel_rfl) rfl ?_ | refine call_p (q5) (by kernel_rfl) rfl ?_ | exact PV.le_refl _ | exact Nat.zero_lt_succ _ | exact Nat.le_of_ble_eq_true rfl | exact onesOf rfl | exact Or.inl rfl | exact noMem | exact onesOfP rfl | exact okAll rfl | exact okMap (fun _ => ⟨rfl, onesOfP rfl⟩) | exact nonz | refine imp0 (fun hpos => ?_) | refine fits_i64 ?_ ?_ | exact rfl | (with_reducible show LeG _ _) | (with_reducible show Lp _ _ _ _) | (with_reducible show Exists _) | (with_reducible show callX _ _ _ _ _)))) <;> (try (first | exact LeG.refl _ | omega | ((first | (with_reducible show (_ : Int) ≤ _) | (with_reducible show (_ : Int) < _) | (with_reducible show (_ : Nat) ≤ _) | (with_reducible show (_ : Nat) < _) | (with_reducible show ¬ _) | (with_reducible show (_ : Int) = _) | (with_reducible show (_ : Nat) = _)); (simp only [List.length_map, List.length_append, List.length_cons, List.length_nil, List.length_replicate, List.length_take, List.length_drop, List.length_set, Int.toNat_natCast, Int.reduceToNat] <;> omega)) | exact of_decide_eq_true rfl))
    all_goals exact LeG.bool (decide_eq_true rfl)
theorem rspec_calls (l : List Bg) (u : List Us) (n v t k : Int) : PCalls Try.prog 4 [eL l, eUs u, eI n, eI v, eI t, eI k] (.bool true) := by
  have q0 := few2_calls l
  have q1 := fewU2_calls u
  cases hf : fewL l with
  | false =>
    rw [hf] at q0
    refine PCalls.of (N := 104) (res := [.tmp 12]) mixed Try.func4 rfl rfl rfl (by kernel_rfl) (by simp) [0, 1, 2, 3, 4, 5, 12, 13, 14, 15, 16, 17, 18, 19, 20, 21, 22, 24, 42] ?_
    repeat' (first | ((with_reducible show _ = _); exact rfl) | ((with_reducible show (_ : Nat) < _); exact Nat.zero_lt_succ _) | ((with_reducible show (_ : Nat) ≤ _); exact Nat.le_of_ble_eq_true rfl) | ((with_reducible show Exists _); refine exU8 ?_) | ((with_reducible show callX _ _ _ _ _); (first | refine call_p (sane_calls) (by kernel_rfl) rfl ?_ | refine call_p (q0) (by kernel_rfl) rfl ?_)) | ((fail_if_success (first | (with_reducible show LeG _ _) | (with_reducible show Lp _ _ _ _) | (with_reducible show Exists _) | (with_reducible show callX _ _ _ _ _) | (with_reducible show (_ : Int) ≤ _) | (with_reducible show (_ : Int) < _) | (with_reducible show (_ : Nat) ≤ _) | (with_reducible show (_ : Nat) < _))); (conv => whnf) <;> (first | exact OkR.mk (by kernel_rfl) | exact OkC.mk (by kernel_rfl) | refine Sq.pr ?_ | refine Br.dec (fun hc => ?_) (fun hc => ?_) | refine Br.tt ?_ | refine Br.ff ?_ | refine Br.not ?_ | refine Br.mk (fun hc => ?_) (fun hc => ?_) | refine Opt.nn ?_ | refine Opt.ss ?_ | refine AltA.l ?_ | exact PV.leL_nil | refine PV.leL_cons ?_ ?_ | refine And.intro ?_ ?_ | refine ix_map (fun x hx => ?_) | refine exU8 ?_ | refine nilc (fun hn => ?_) ?_ | refine call_p (sane_calls) (by kernel_rfl) rfl ?_ | refine call_p (q0) (by kernel_rfl) rfl ?_ | exact PV.le_refl _ | exact Nat.zero_lt_succ _ | exact Nat.le_of_ble_eq_true rfl | exact onesOf rfl | exact Or.inl rfl | exact noMem | exact onesOfP rfl | exact okAll rfl | exact okMap (fun _ => ⟨rfl, onesOfP rfl⟩) | exact nonz | refine imp0 (fun hpos => ?_) | refine fits_i64 ?_ ?_ | exact rfl | (with_reducible show LeG _ _) | (with_reducible show Lp _ _ _ _) | (with_reducible show Exists _) | (with_reducible show callX _ _ _ _ _)))) <;> (try (first | exact LeG.refl _ | omega | ((first | (with_reducible show (_ : Int) ≤ _) | (with_reducible show (_ : Int) < _) | (with_reducible show (_ : Nat) ≤ _) | (with_reducible show (_ : Nat) < _) | (with_reducible show ¬ _) | (with_reducible show (_ : Int) = _) | (with_reducible show (_ : Nat) = _)); (simp only [List.length_map, List.length_append, List.length_cons, List.length_nil, List.length_replicate, List.length_take, List.length_drop, List.length_set, Int.toNat_natCast, Int.reduceToNat] <;> omega)) | exact of_decide_eq_true rfl))
  | true =>
    rw [hf] at q0
    have hl := fewL_len hf
    cases hg : fewU u with
    | false =>
      rw [hg] at q1
      refine PCalls.of (N := 104) (res := [.tmp 12]) mixed Try.func4 rfl rfl rfl (by kernel_rfl) (by simp) [0, 1, 2, 3, 4, 5, 12, 13, 14, 15, 16, 17, 18, 19, 20, 21, 22, 24, 42] ?_
      repeat' (first | ((with_reducible show _ = _); exact rfl) | ((with_reducible show (_ : Nat) < _); exact Nat.zero_lt_succ _) | ((with_reducible show (_ : Nat) ≤ _); exact Nat.le_of_ble_eq_true rfl) | ((with_reducible show Exists _); refine exU8 ?_) | ((with_reducible show callX _ _ _ _ _); (first | refine call_p (sane_calls) (by kernel_rfl) rfl ?_ | refine call_p (q0) (by kernel_rfl) rfl ?_ | refine call_p (q1) (by kernel_rfl) rfl ?_)) | ((fail_if_success (first | (with_reducible show LeG _ _) | (with_reducible show Lp _ _ _ _) | (with_reducible show Exists _) | (with_reducible show callX _ _ _ _ _) | (with_reducible show (_ : Int) ≤ _) | (with_reducible show (_ : Int) < _) | (with_reducible show (_ : Nat) ≤ _) | (with_reducible show (_ : Nat) < _))); (conv => whnf) <;> (first | exact OkR.mk (by kernel_rfl) | exact OkC.mk (by kernel_rfl) | refine Sq.pr ?_ | refine Br.dec (fun hc => ?_) (fun hc => ?_) | refine Br.tt ?_ | refine Br.ff ?_ | refine Br.not ?_ | refine Br.mk (fun hc => ?_) (fun hc => ?_) | refine Opt.nn ?_ | refine Opt.ss ?_ | refine AltA.l ?_ | exact PV.leL_nil | refine PV.leL_cons ?_ ?_ | refine And.intro ?_ ?_ | refine ix_map (fun x hx => ?_) | refine exU8 ?_ | refine nilc (fun hn => ?_) ?_ | refine call_p (sane_calls) (by kernel_rfl) rfl ?_ | refine call_p (q0) (by kernel_rfl) rfl ?_ | refine call_p (q1) (by kernel_rfl) rfl ?_ | exact PV.le_refl _ | exact Nat.zero_lt_succ _ | exact Nat.le_of_ble_eq_true rfl | exact onesOf rfl | exact Or.inl rfl | exact noMem | exact onesOfP rfl | exact okAll rfl | exact okMap (fun _ => ⟨rfl, onesOfP rfl⟩) | exact nonz | refine imp0 (fun hpos => ?_) | refine fits_i64 ?_ ?_ | exact rfl | (with_reducible show LeG _ _) | (with_reducible show Lp _ _ _ _) | (with_reducible show Exists _) | (with_reducible show callX _ _ _ _ _)))) <;> (try (first | exact LeG.refl _ | omega | ((first | (with_reducible show (_ : Int) ≤ _) | (with_reducible show (_ : Int) < _) | (with_reducible show (_ : Nat) ≤ _) | (with_reducible show (_ : Nat) < _) | (with_reducible show ¬ _) | (with_reducible show (_ : Int) = _) | (with_reducible show (_ : Nat) = _)); (simp only [List.length_map, List.length_append, List.length_cons, List.length_nil, List.length_replicate, List.length_take, List.length_drop, List.length_set, Int.toNat_natCast, Int.reduceToNat] <;> omega)) | exact of_decide_eq_true rfl))
    | true =>
      rw [hg] at q1
      have hul := fewU_len hg
      have q5 := same_calls (standA l n t k).1 (standA l n t k).1 (standA_len l n t k hl)
      rw [decide_eq_true rfl] at q5
      have q6 := Standing_calls l n t k hl
      have q7 := rStanding_calls l n t k hl
      have q8 := Room_calls l u n v t k hl hul
      have q9 := rRoom_calls l u n v t k hl hul
      generalize roomA l u n v t k = r at *
      generalize standA l n t k = s at *
      obtain ⟨r1, r2, r3⟩ := r
      refine PCalls.of (N := 104) (res := [.tmp 12]) mixed Try.func4 rfl rfl rfl (by kernel_rfl) (by simp) [0, 1, 2, 3, 4, 5, 12, 13, 14, 15, 16, 17, 18, 19, 20, 21, 22, 24, 42] ?_
      repeat' (first | ((with_reducible show _ = _); exact rfl) | ((with_reducible show (_ : Nat) < _); exact Nat.zero_lt_succ _) | ((with_reducible show (_ : Nat) ≤ _); exact Nat.le_of_ble_eq_true rfl) | ((with_reducible show Exists _); refine exU8 ?_) | ((with_reducible show callX _ _ _ _ _); (first | refine call_p (sane_calls) (by kernel_rfl) rfl ?_ | refine call_p (q0) (by kernel_rfl) rfl ?_ | refine call_p (q1) (by kernel_rfl) rfl ?_ | refine call_p (q6) (by kernel_rfl) rfl ?_ | refine call_p (q7) (by kernel_rfl) rfl ?_ | refine call_p (q8) (by kernel_rfl) rfl ?_ | refine call_p (q9) (by kernel_rfl) rfl ?_ | refine call_p (q5) (by kernel_rfl) rfl ?_)) | ((fail_if_success (first | (with_reducible show LeG _ _) | (with_reducible show Lp _ _ _ _) | (with_reducible show Exists _) | (with_reducible show callX _ _ _ _ _) | (with_reducible show (_ : Int) ≤ _) | (with_reducible show (_ : Int) < _) | (with_reducible show (_ : Nat) ≤ _) | (with_reducible show (_ : Nat) < _))); (conv => whnf) <;> (first | exact OkR.mk (by kernel_rfl) | exact OkC.mk (by kernel_rfl) | refine Sq.pr ?_ | refine Br.dec (fun hc => ?_) (fun hc => ?_) | refine Br.tt ?_ | refine Br.ff ?_ | refine Br.not ?_ | refine Br.mk (fun hc => ?_) (fun hc => ?_) | refine Opt.nn ?_ | refine Opt.ss ?_ | refine AltA.l ?_ | exact PV.leL_nil | refine PV.leL_cons ?_ ?_ | refine And.intro ?_ ?_ | refine ix_map (fun x hx => ?_) | refine exU8 ?_ | refine nilc (fun hn => ?_) ?_ | refine call_p (sane_calls) (by kernel_rfl) rfl ?_ | refine call_p (q0) (by kernel_rfl) rfl ?_ | refine call_p (q1) (by kernel_rfl) rfl ?_ | refine call_p (q6) (by kernel_rfl) rfl ?_ | refine call_p (q7) (by kernel_rfl) rfl ?_ | refine call_p (q8) (by kernel_rfl) rfl ?_ | refine call_p (q9) (by kernel_rfl) rfl ?_ | refine call_p (q5) (by kernel_rfl) rfl ?_ | exact PV.le_refl _ | exact Nat.zero_lt_succ _ | exact Nat.le_of_ble_eq_true rfl | exact onesOf rfl | exact Or.inl rfl | exact noMem | exact onesOfP rfl | exact okAll rfl | exact okMap (fun _ => ⟨rfl, onesOfP rfl⟩) | exact nonz | refine imp0 (fun hpos => ?_) | refine fits_i64 ?_ ?_ | exact rfl | (with_reducible show LeG _ _) | (with_reducible show Lp _ _ _ _) | (with_reducible show Exists _) | (with_reducible show callX _ _ _ _ _)))) <;> (try (first | exact LeG.refl _ | omega | ((first | (with_reducible show (_ : Int) ≤ _) | (with_reducible show (_ : Int) < _) | (with_reducible show (_ : Nat) ≤ _) | (with_reducible show (_ : Nat) < _) | (with_reducible show ¬ _) | (with_reducible show (_ : Int) = _) | (with_reducible show (_ : Nat) = _)); (simp only [List.length_map, List.length_append, List.length_cons, List.length_nil, List.length_replicate, List.length_take, List.length_drop, List.length_set, Int.toNat_natCast, Int.reduceToNat] <;> omega)) | exact of_decide_eq_true rfl))
      all_goals first | exact absurd rfl hc | (refine LeG.bool ?_; simp)
end Go.Proofs.Ytjpmjhgephlcpaa

namespace Go.Proofs.Ytjpmjhgephlcpaa
open Go Go.Sg
set_option maxRecDepth 100000
set_option maxHeartbeats 20000000
/-! ### Less, plainly -/
def resP (p : Bg → Bool) (S : List Bg) : Int × Bool × Int := match S.find? p with | some b => (b.no, false, 0) | none => (-1, true, 0)
theorem roomF_res (S : List Bg) (u : List Us) (v t k : Int) : roomF S u v t k = resP (overB u v t k) S := rfl
theorem res_e (p : Bg → Bool) (S : List Bg) : (resP p S).2.2 = 0 := by unfold resP; split <;> rfl
theorem res_mono {p q : Bg → Bool} : ∀ {S : List Bg}, S.Pairwise (fun a b => a.no < b.no) → (∀ b ∈ S, q b = true → p b = true) → ((resP p S).2.1 = true → (resP q S).2.1 = true) ∧ ((resP q S).2.1 = false → (resP p S).1 ≤ (resP q S).1)
  | [], _, _ => ⟨fun _ => rfl, fun h => by cases h⟩
  | a :: r, hs, h => by
    have ih := res_mono (p := p) (q := q) (S := r) (List.pairwise_cons.1 hs).2 (fun b hb => h b (List.mem_cons_of_mem _ hb))
    have hh := (List.pairwise_cons.1 hs).1
    unfold resP at *
    cases hq : q a with
    | true =>
      have hp := h a List.mem_cons_self hq
      rw [List.find?_cons_of_pos hp, List.find?_cons_of_pos hq]
      exact ⟨fun h => h, fun _ => Int.le_refl _⟩
    | false =>
      rw [List.find?_cons_of_neg (p := q) (by rw [hq]; simp)]
      cases hp : p a with
      | true =>
        rw [List.find?_cons_of_pos hp]
        refine ⟨fun h => by simp at h, fun h2 => ?_⟩
        cases hf : r.find? q with
        | none => rw [hf] at h2; simp at h2
        | some b =>
          have := hh b (List.mem_of_find?_eq_some hf)
          show a.no ≤ b.no
          omega
      | false =>
        rw [List.find?_cons_of_neg (by rw [hp]; simp)]
        exact ih
theorem overB_val {u : List Us} {v v' t k : Int} {b : Bg} (hv : v' ≤ v) (h : overB u v' t k b = true) : overB u v t k b = true := by
  unfold overB at *
  simp only [Bool.or_eq_true, decide_eq_true_eq] at *
  omega
theorem overB_less {A B : List Us} {z : Us} {v t k : Int} {b : Bg} (hz : 0 ≤ z.val) (h : overB (A ++ B) v t k b = true) : overB (A ++ z :: B) v t k b = true := by
  unfold overB at *
  simp only [Bool.or_eq_true, decide_eq_true_eq, List.filter_append, List.filter_cons, List.length_append, sumV, List.map_append, List.sum_append] at *
  split
  · simp only [List.length_cons, List.map_cons, List.sum_cons]
    omega
  · exact h
theorem usB_less {A B : List Us} {z : Us} (h : usB (A ++ z :: B) = true) : usB (A ++ B) = true := by
  unfold usB at *
  rw [Bool.and_eq_true] at *
  refine ⟨?_, ?_⟩
  · have := h.1
    simp only [List.all_append, List.all_cons, Bool.and_eq_true] at *
    exact ⟨this.1, this.2.2⟩
  · have h2 := of_decide_eq_true h.2
    refine decide_eq_true (h2.sublist ?_)
    refine List.Sublist.map _ ?_
    exact List.Sublist.append (List.Sublist.refl _) (List.sublist_cons_self _ _)
theorem roomA_right {l : List Bg} {u : List Us} {n v t k : Int} (hf : fewB l = true) (hu : u.length ≤ 30) (hus : usB u = true) : roomA l u n v t k = if argR n v t k then roomF (stA l n t k) u v t k else (0, false, 1) := by
  unfold fewB at hf
  rw [Bool.and_eq_true] at hf
  unfold roomA
  rw [if_pos (of_decide_eq_true hf.2), if_pos (by omega), if_pos hus]
theorem stA_srt {l : List Bg} (n t k : Int) (hf : fewB l = true) : (stA l n t k).Pairwise (fun a b => a.no < b.no) := by
  unfold fewB at hf
  rw [Bool.and_eq_true] at hf
  obtain ⟨_, _, hs⟩ := chkA_srt (of_decide_eq_true hf.2)
  exact hs.filter _
theorem fewB_len {l : List Bg} (hf : fewB l = true) : l.length < 1000000 := by
  unfold fewB at hf
  rw [Bool.and_eq_true] at hf
  have := of_decide_eq_true hf.1
  omega
def mm (mx : Bool) (a b : Int) : Int := if mx = true then (if b > a then b else a) else (if b < a then b else a)
def lsV (v s : Int) : Int := mm false (IntKind.i64.wrap s) (mm true 0 v)
def smV (v s : Int) : Int := mm true 0 (v - lsV v s)
theorem wrap_small {s : Int} (h : 0 ≤ s ∧ s ≤ 65535) : IntKind.i64.wrap s = s := by
  exact fits_i64 (by omega) (by omega)
theorem lsV_bd {v s : Int} (hs : 0 ≤ s ∧ s ≤ 65535) : 0 ≤ lsV v s ∧ (lsV v s ≤ v ∨ lsV v s = 0) := by
  unfold lsV mm
  rw [wrap_small hs]
  simp only [Bool.false_eq_true, if_false, if_true]
  by_cases h1 : v > 0
  · rw [if_pos h1]; split <;> omega
  · rw [if_neg h1]; split <;> omega
theorem smV_bd {v s : Int} (hs : 0 ≤ s ∧ s ≤ 65535) (hv : 0 ≤ v) : 0 ≤ smV v s ∧ smV v s ≤ v := by
  have := lsV_bd (v := v) hs
  unfold smV mm
  simp only [if_true]
  split <;> omega
def ixW (w : Int) (u : List Us) : Int := (IntKind.i64.wrap w).tmod ((u.map eU).length : Int)
theorem ixW_bd {w : Int} {u : List Us} (hw : 0 ≤ w ∧ w ≤ 255) (hu : u ≠ []) : 0 ≤ ixW w u ∧ ixW w u < u.length := by
  unfold ixW
  rw [wrap_small (by omega), List.length_map]
  have hl : 0 < u.length := List.length_pos_iff.2 hu
  exact ⟨Int.tmod_nonneg _ hw.1, Int.tmod_lt_of_pos _ (by omega)⟩
theorem row_le (u : List Us) (i j : Int) (h : j.toNat = i.toNat + 1) : PV.le (PV.sl 5 false (List.take (0 + (List.drop 0 (List.take i.toNat (u.map eU))).length + (List.drop j.toNat (List.take (((u.map eU).length : Int)).toNat (u.map eU))).length) (List.drop 0 ([] ++ List.drop 0 (List.take i.toNat (u.map eU)) ++ List.drop j.toNat (List.take (((u.map eU).length : Int)).toNat (u.map eU)))))) (eUs (u.take i.toNat ++ u.drop (i.toNat + 1))) := by
  refine PV.le_of (congrArg (PV.sl 5 false) ?_)
  rw [Int.toNat_natCast, List.take_length, h]
  simp only [List.drop_zero, List.nil_append, Nat.zero_add]
  rw [← List.length_append, List.take_length]
  simp [List.map_take, List.map_drop]
/-- The walk, whatever Room answers, if its answers stand so. -/
theorem less_walk (l : List Bg) (u : List Us) (n v t k w s : Int) (r1 a1 b1 : Int) (r2 a2 b2 : Bool) (hw : 0 ≤ w ∧ w ≤ 255) (hs : 0 ≤ s ∧ s ≤ 65535) (hv : -9223372036854775808 ≤ v ∧ v ≤ 9223372036854775807)
    (hul : u.length ≤ 30) (q0 : PCalls Try.prog 21 [eL l] (.bool true)) (q1 : PCalls Try.prog 22 [eUs u] (.bool true))
    (q2 : PCalls Try.prog 19 [eL l, eUs u, eI n, eI v, eI t, eI k] (.tup [eI r1, .bool r2, eI 0]))
    (q3 : PCalls Try.prog 19 [eL l, eUs u, eI n, eI (smV v s), eI t, eI k] (.tup [eI a1, .bool a2, eI 0]))
    (q4 : u ≠ [] → PCalls Try.prog 19 [eL l, eUs (u.take (ixW w u).toNat ++ u.drop ((ixW w u).toNat + 1)), eI n, eI v, eI t, eI k] (.tup [eI b1, .bool b2, eI 0]))
    (h1 : (r2 = true → a2 = true) ∧ (a2 = false → r1 ≤ a1)) (h2 : (r2 = true → b2 = true) ∧ (b2 = false → r1 ≤ b1)) :
    PCalls Try.prog 7 [eL l, eUs u, eI n, eI v, eI t, eI k, .int .u8 w, .int .u16 s] (.bool true) := by
  have hls := lsV_bd (v := v) hs
  by_cases hu : u = []
  · subst hu
    refine PCalls.of (N := 148) (res := [.tmp 16]) mixed Try.func7 rfl rfl rfl (by kernel_rfl) (by simp) [0, 1, 2, 3, 4, 5, 6, 7, 16, 17, 18, 19, 20, 21, 22, 23, 24, 25, 26, 27, 29, 42, 73, 101, 104] ?_
    repeat' (first | ((with_reducible show _ = _); exact rfl) | ((with_reducible show (_ : Nat) < _); exact Nat.zero_lt_succ _) | ((with_reducible show (_ : Nat) ≤ _); exact Nat.le_of_ble_eq_true rfl) | ((with_reducible show Exists _); refine exU8 ?_) | ((with_reducible show callX _ _ _ _ _); (first | refine call_p (sane_calls) (by kernel_rfl) rfl ?_ | refine call_p (q0) (by kernel_rfl) rfl ?_ | refine call_p (q1) (by kernel_rfl) rfl ?_ | refine call_p (q2) (by kernel_rfl) rfl ?_ | refine call_p (q3) (by kernel_rfl) rfl ?_)) | ((fail_if_success (first | (with_reducible show LeG _ _) | (with_reducible show Lp _ _ _ _) | (with_reducible show Exists _) | (with_reducible show callX _ _ _ _ _) | (with_reducible show (_ : Int) ≤ _) | (with_reducible show (_ : Int) < _) | (with_reducible show (_ : Nat) ≤ _) | (with_reducible show (_ : Nat) < _))); (conv => whnf) <;> (first | exact OkR.mk (by kernel_rfl) | exact OkC.mk (by kernel_rfl) | refine Sq.pr ?_ | refine Br.dec (fun hc => ?_) (fun hc => ?_) | refine Br.tt ?_ | refine Br.ff ?_ | refine Br.not ?_ | refine Br.mk (fun hc => ?_) (fun hc => ?_) | refine Opt.nn ?_ | refine Opt.ss ?_ | refine AltA.l ?_ | exact PV.leL_nil | refine PV.leL_cons ?_ ?_ | refine And.intro ?_ ?_ | refine ix_map (fun x hx => ?_) | refine exU8 ?_ | refine nilc (fun hn => ?_) ?_ | refine call_p (sane_calls) (by kernel_rfl) rfl ?_ | refine call_p (q0) (by kernel_rfl) rfl ?_ | refine call_p (q1) (by kernel_rfl) rfl ?_ | refine call_p (q2) (by kernel_rfl) rfl ?_ | refine call_p (q3) (by kernel_rfl) rfl ?_ | exact PV.le_refl _ | exact Nat.zero_lt_succ _ | exact Nat.le_of_ble_eq_true rfl | exact onesOf rfl | exact Or.inl rfl | exact noMem | exact onesOfP rfl | exact okAll rfl | exact okMap (fun _ => ⟨rfl, onesOfP rfl⟩) | exact nonz | refine imp0 (fun hpos => ?_) | refine fits_i64 ?_ ?_ | exact rfl | (with_reducible show LeG _ _) | (with_reducible show Lp _ _ _ _) | (with_reducible show Exists _) | (with_reducible show callX _ _ _ _ _)))) <;> (try (first | exact LeG.refl _ | omega | ((first | (with_reducible show (_ : Int) ≤ _) | (with_reducible show (_ : Int) < _) | (with_reducible show (_ : Nat) ≤ _) | (with_reducible show (_ : Nat) < _) | (with_reducible show ¬ _) | (with_reducible show (_ : Int) = _) | (with_reducible show (_ : Nat) = _)); (simp only [List.length_map, List.length_append, List.length_cons, List.length_nil, List.length_replicate, List.length_take, List.length_drop, List.length_set, Int.toNat_natCast, Int.reduceToNat] <;> omega)) | exact of_decide_eq_true rfl))
    all_goals first
    | (show -9223372036854775808 ≤ v - lsV v s; omega)
    | (show v - lsV v s ≤ 9223372036854775807; omega)
    | (exfalso; have hcc : ¬ (0 : Int) = 0 := hc; exact hcc rfl)
    | (exfalso; simp_all; omega)
    | (exfalso; simp_all; done)
  · have hix := ixW_bd hw hu
    have hi : (ixW w u).toNat < u.length := by omega
    have hie : ((ixW w u).toNat : Int) = ixW w u := Int.toNat_of_nonneg hix.1
    have q5 := q4 hu
    have hL : ((u.map eU).length : Int) = (u.length : Int) := by rw [List.length_map]
    have hix2 := hix
    unfold ixW at hix2
    refine PCalls.of (N := 148) (res := [.tmp 16]) mixed Try.func7 rfl rfl rfl (by kernel_rfl) (by simp) [0, 1, 2, 3, 4, 5, 6, 7, 16, 17, 18, 19, 20, 21, 22, 23, 24, 25, 26, 27, 29, 42, 73, 101, 104] ?_
    repeat' (first | ((with_reducible show _ = _); exact rfl) | ((with_reducible show (_ : Nat) < _); exact Nat.zero_lt_succ _) | ((with_reducible show (_ : Nat) ≤ _); exact Nat.le_of_ble_eq_true rfl) | ((with_reducible show Exists _); refine exU8 ?_) | ((with_reducible show callX _ _ _ _ _); (first | refine call_p (sane_calls) (by kernel_rfl) rfl ?_ | refine call_p (q0) (by kernel_rfl) rfl ?_ | refine call_p (q1) (by kernel_rfl) rfl ?_ | refine call_p (q2) (by kernel_rfl) rfl ?_ | refine call_p (q3) (by kernel_rfl) rfl ?_ | refine call_z q5 (by kernel_rfl) rfl ?_)) | ((fail_if_success (first | (with_reducible show LeG _ _) | (with_reducible show Lp _ _ _ _) | (with_reducible show Exists _) | (with_reducible show callX _ _ _ _ _) | (with_reducible show (_ : Int) ≤ _) | (with_reducible show (_ : Int) < _) | (with_reducible show (_ : Nat) ≤ _) | (with_reducible show (_ : Nat) < _))); (conv => whnf) <;> (first | exact OkR.mk (by kernel_rfl) | exact OkC.mk (by kernel_rfl) | refine Sq.pr ?_ | refine Br.dec (fun hc => ?_) (fun hc => ?_) | refine Br.tt ?_ | refine Br.ff ?_ | refine Br.not ?_ | refine Br.mk (fun hc => ?_) (fun hc => ?_) | refine Opt.nn ?_ | refine Opt.ss ?_ | refine AltA.l ?_ | exact PV.leL_nil | refine PV.leL_cons ?_ ?_ | refine And.intro ?_ ?_ | refine ix_map (fun x hx => ?_) | refine exU8 ?_ | refine nilc (fun hn => ?_) ?_ | refine call_p (sane_calls) (by kernel_rfl) rfl ?_ | refine call_p (q0) (by kernel_rfl) rfl ?_ | refine call_p (q1) (by kernel_rfl) rfl ?_ | refine call_p (q2) (by kernel_rfl) rfl ?_ | refine call_p (q3) (by kernel_rfl) rfl ?_ | refine call_z q5 (by kernel_rfl) rfl ?_ | exact PV.le_refl _ | exact Nat.zero_lt_succ _ | exact Nat.le_of_ble_eq_true rfl | exact onesOf rfl | exact Or.inl rfl | exact noMem | exact onesOfP rfl | exact okAll rfl | exact okMap (fun _ => ⟨rfl, onesOfP rfl⟩) | exact nonz | refine imp0 (fun hpos => ?_) | refine fits_i64 ?_ ?_ | exact rfl | (with_reducible show LeG _ _) | (with_reducible show Lp _ _ _ _) | (with_reducible show Exists _) | (with_reducible show callX _ _ _ _ _)))) <;> (try (first | exact LeG.refl _ | omega | ((first | (with_reducible show (_ : Int) ≤ _) | (with_reducible show (_ : Int) < _) | (with_reducible show (_ : Nat) ≤ _) | (with_reducible show (_ : Nat) < _) | (with_reducible show ¬ _) | (with_reducible show (_ : Int) = _) | (with_reducible show (_ : Nat) = _)); (simp only [List.length_map, List.length_append, List.length_cons, List.length_nil, List.length_replicate, List.length_take, List.length_drop, List.length_set, Int.toNat_natCast, Int.reduceToNat] <;> omega)) | exact of_decide_eq_true rfl))
    all_goals first
    | (show -9223372036854775808 ≤ v - lsV v s; omega)
    | (show v - lsV v s ≤ 9223372036854775807; omega)
    | exact LeG.bool (decide_eq_true (h2.2 (by assumption)))
    | (show PV.le (PV.sl 5 false (List.take (0 + (List.drop 0 (List.take (ixW w u).toNat (u.map eU))).length + (List.drop (ixW w u + 1).toNat (List.take (((u.map eU).length : Int)).toNat (u.map eU))).length) (List.drop 0 ([] ++ List.drop 0 (List.take (ixW w u).toNat (u.map eU)) ++ List.drop (ixW w u + 1).toNat (List.take (((u.map eU).length : Int)).toNat (u.map eU)))))) _
       exact row_le u _ _ (by omega))
    | (exfalso
       have hr := h2.1 (by assumption)
       simp_all; done)
    | (exfalso
       have hr := h1.1 (by assumption)
       simp_all; done)
    | (exfalso
       have hr := h1.2 (by assumption)
       omega)
/-- Less, for all arguments. -/
theorem less_calls (l : List Bg) (u : List Us) (n v t k w s : Int) (hl : l.length < 140737488355328) (hw : 0 ≤ w ∧ w ≤ 255) (hs : 0 ≤ s ∧ s ≤ 65535) (hv : -9223372036854775808 ≤ v ∧ v ≤ 9223372036854775807) :
    PCalls Try.prog 7 [eL l, eUs u, eI n, eI v, eI t, eI k, .int .u8 w, .int .u16 s] (.bool true) := by
  have q0 := right_law l
  cases hf : fewB l with
  | false =>
    rw [hf] at q0
    refine PCalls.of (N := 148) (res := [.tmp 16]) mixed Try.func7 rfl rfl rfl (by kernel_rfl) (by simp) [0, 1, 2, 3, 4, 5, 6, 7, 16, 17, 18, 19, 20, 21, 22, 23, 24, 25, 26, 27, 29, 42, 73, 101, 104] ?_
    repeat' (first | ((with_reducible show _ = _); exact rfl) | ((with_reducible show (_ : Nat) < _); exact Nat.zero_lt_succ _) | ((with_reducible show (_ : Nat) ≤ _); exact Nat.le_of_ble_eq_true rfl) | ((with_reducible show Exists _); refine exU8 ?_) | ((with_reducible show callX _ _ _ _ _); (first | refine call_p (sane_calls) (by kernel_rfl) rfl ?_ | refine call_p (q0) (by kernel_rfl) rfl ?_)) | ((fail_if_success (first | (with_reducible show LeG _ _) | (with_reducible show Lp _ _ _ _) | (with_reducible show Exists _) | (with_reducible show callX _ _ _ _ _) | (with_reducible show (_ : Int) ≤ _) | (with_reducible show (_ : Int) < _) | (with_reducible show (_ : Nat) ≤ _) | (with_reducible show (_ : Nat) < _))); (conv => whnf) <;> (first | exact OkR.mk (by kernel_rfl) | exact OkC.mk (by kernel_rfl) | refine Sq.pr ?_ | refine Br.dec (fun hc => ?_) (fun hc => ?_) | refine Br.tt ?_ | refine Br.ff ?_ | refine Br.not ?_ | refine Br.mk (fun hc => ?_) (fun hc => ?_) | refine Opt.nn ?_ | refine Opt.ss ?_ | refine AltA.l ?_ | exact PV.leL_nil | refine PV.leL_cons ?_ ?_ | refine And.intro ?_ ?_ | refine ix_map (fun x hx => ?_) | refine exU8 ?_ | refine nilc (fun hn => ?_) ?_ | refine call_p (sane_calls) (by kernel_rfl) rfl ?_ | refine call_p (q0) (by kernel_rfl) rfl ?_ | exact PV.le_refl _ | exact Nat.zero_lt_succ _ | exact Nat.le_of_ble_eq_true rfl | exact onesOf rfl | exact Or.inl rfl | exact noMem | exact onesOfP rfl | exact okAll rfl | exact okMap (fun _ => ⟨rfl, onesOfP rfl⟩) | exact nonz | refine imp0 (fun hpos => ?_) | refine fits_i64 ?_ ?_ | exact rfl | (with_reducible show LeG _ _) | (with_reducible show Lp _ _ _ _) | (with_reducible show Exists _) | (with_reducible show callX _ _ _ _ _)))) <;> (try (first | exact LeG.refl _ | omega | ((first | (with_reducible show (_ : Int) ≤ _) | (with_reducible show (_ : Int) < _) | (with_reducible show (_ : Nat) ≤ _) | (with_reducible show (_ : Nat) < _) | (with_reducible show ¬ _) | (with_reducible show (_ : Int) = _) | (with_reducible show (_ : Nat) = _)); (simp only [List.length_map, List.length_append, List.length_cons, List.length_nil, List.length_replicate, List.length_take, List.length_drop, List.length_set, Int.toNat_natCast, Int.reduceToNat] <;> omega)) | exact of_decide_eq_true rfl))
  | true =>
    rw [hf] at q0
    have hl6 := fewB_len hf
    by_cases hul : u.length ≤ 30
    · have q1 := rUses_calls u (by omega)
      cases hus : usB u with
      | false =>
        rw [hus] at q1
        refine PCalls.of (N := 148) (res := [.tmp 16]) mixed Try.func7 rfl rfl rfl (by kernel_rfl) (by simp) [0, 1, 2, 3, 4, 5, 6, 7, 16, 17, 18, 19, 20, 21, 22, 23, 24, 25, 26, 27, 29, 42, 73, 101, 104] ?_
        repeat' (first | ((with_reducible show _ = _); exact rfl) | ((with_reducible show (_ : Nat) < _); exact Nat.zero_lt_succ _) | ((with_reducible show (_ : Nat) ≤ _); exact Nat.le_of_ble_eq_true rfl) | ((with_reducible show Exists _); refine exU8 ?_) | ((with_reducible show callX _ _ _ _ _); (first | refine call_p (sane_calls) (by kernel_rfl) rfl ?_ | refine call_p (q0) (by kernel_rfl) rfl ?_ | refine call_p (q1) (by kernel_rfl) rfl ?_)) | ((fail_if_success (first | (with_reducible show LeG _ _) | (with_reducible show Lp _ _ _ _) | (with_reducible show Exists _) | (with_reducible show callX _ _ _ _ _) | (with_reducible show (_ : Int) ≤ _) | (with_reducible show (_ : Int) < _) | (with_reducible show (_ : Nat) ≤ _) | (with_reducible show (_ : Nat) < _))); (conv => whnf) <;> (first | exact OkR.mk (by kernel_rfl) | exact OkC.mk (by kernel_rfl) | refine Sq.pr ?_ | refine Br.dec (fun hc => ?_) (fun hc => ?_) | refine Br.tt ?_ | refine Br.ff ?_ | refine Br.not ?_ | refine Br.mk (fun hc => ?_) (fun hc => ?_) | refine Opt.nn ?_ | refine Opt.ss ?_ | refine AltA.l ?_ | exact PV.leL_nil | refine PV.leL_cons ?_ ?_ | refine And.intro ?_ ?_ | refine ix_map (fun x hx => ?_) | refine exU8 ?_ | refine nilc (fun hn => ?_) ?_ | refine call_p (sane_calls) (by kernel_rfl) rfl ?_ | refine call_p (q0) (by kernel_rfl) rfl ?_ | refine call_p (q1) (by kernel_rfl) rfl ?_ | exact PV.le_refl _ | exact Nat.zero_lt_succ _ | exact Nat.le_of_ble_eq_true rfl | exact onesOf rfl | exact Or.inl rfl | exact noMem | exact onesOfP rfl | exact okAll rfl | exact okMap (fun _ => ⟨rfl, onesOfP rfl⟩) | exact nonz | refine imp0 (fun hpos => ?_) | refine fits_i64 ?_ ?_ | exact rfl | (with_reducible show LeG _ _) | (with_reducible show Lp _ _ _ _) | (with_reducible show Exists _) | (with_reducible show callX _ _ _ _ _)))) <;> (try (first | exact LeG.refl _ | omega | ((first | (with_reducible show (_ : Int) ≤ _) | (with_reducible show (_ : Int) < _) | (with_reducible show (_ : Nat) ≤ _) | (with_reducible show (_ : Nat) < _) | (with_reducible show ¬ _) | (with_reducible show (_ : Int) = _) | (with_reducible show (_ : Nat) = _)); (simp only [List.length_map, List.length_append, List.length_cons, List.length_nil, List.length_replicate, List.length_take, List.length_drop, List.length_set, Int.toNat_natCast, Int.reduceToNat] <;> omega)) | exact of_decide_eq_true rfl))
      | true =>
        rw [hus] at q1
        have q2 := Room_calls l u n v t k hl6 (by omega)
        have q3 := Room_calls l u n (smV v s) t k hl6 (by omega)
        rw [roomA_right hf hul hus] at q2 q3
        have hU : ∀ x ∈ u, rU x = true := fun x hx => by
          unfold usB at hus
          rw [Bool.and_eq_true] at hus
          exact List.all_eq_true.1 hus.1 x hx
        cases ha : argR n v t k with
        | false =>
          rw [ha] at q2
          have q2 : PCalls Try.prog 19 [eL l, eUs u, eI n, eI v, eI t, eI k] (.tup [eI 0, .bool false, eI 1]) := q2
          have hls := lsV_bd (v := v) hs
          generalize (if argR n (smV v s) t k = true then roomF (stA l n t k) u (smV v s) t k else (0, false, 1)) = r at q3
          refine PCalls.of (N := 148) (res := [.tmp 16]) mixed Try.func7 rfl rfl rfl (by kernel_rfl) (by simp) [0, 1, 2, 3, 4, 5, 6, 7, 16, 17, 18, 19, 20, 21, 22, 23, 24, 25, 26, 27, 29, 42, 73, 101, 104] ?_
          repeat' (first | ((with_reducible show _ = _); exact rfl) | ((with_reducible show (_ : Nat) < _); exact Nat.zero_lt_succ _) | ((with_reducible show (_ : Nat) ≤ _); exact Nat.le_of_ble_eq_true rfl) | ((with_reducible show Exists _); refine exU8 ?_) | ((with_reducible show callX _ _ _ _ _); (first | refine call_p (sane_calls) (by kernel_rfl) rfl ?_ | refine call_p (q0) (by kernel_rfl) rfl ?_ | refine call_p (q1) (by kernel_rfl) rfl ?_ | refine call_p (q2) (by kernel_rfl) rfl ?_ | refine call_p (q3) (by kernel_rfl) rfl ?_)) | ((fail_if_success (first | (with_reducible show LeG _ _) | (with_reducible show Lp _ _ _ _) | (with_reducible show Exists _) | (with_reducible show callX _ _ _ _ _) | (with_reducible show (_ : Int) ≤ _) | (with_reducible show (_ : Int) < _) | (with_reducible show (_ : Nat) ≤ _) | (with_reducible show (_ : Nat) < _))); (conv => whnf) <;> (first | exact OkR.mk (by kernel_rfl) | exact OkC.mk (by kernel_rfl) | refine Sq.pr ?_ | refine Br.dec (fun hc => ?_) (fun hc => ?_) | refine Br.tt ?_ | refine Br.ff ?_ | refine Br.not ?_ | refine Br.mk (fun hc => ?_) (fun hc => ?_) | refine Opt.nn ?_ | refine Opt.ss ?_ | refine AltA.l ?_ | exact PV.leL_nil | refine PV.leL_cons ?_ ?_ | refine And.intro ?_ ?_ | refine ix_map (fun x hx => ?_) | refine exU8 ?_ | refine nilc (fun hn => ?_) ?_ | refine call_p (sane_calls) (by kernel_rfl) rfl ?_ | refine call_p (q0) (by kernel_rfl) rfl ?_ | refine call_p (q1) (by kernel_rfl) rfl ?_ | refine call_p (q2) (by kernel_rfl) rfl ?_ | refine call_p (q3) (by kernel_rfl) rfl ?_ | exact PV.le_refl _ | exact Nat.zero_lt_succ _ | exact Nat.le_of_ble_eq_true rfl | exact onesOf rfl | exact Or.inl rfl | exact noMem | exact onesOfP rfl | exact okAll rfl | exact okMap (fun _ => ⟨rfl, onesOfP rfl⟩) | exact nonz | refine imp0 (fun hpos => ?_) | refine fits_i64 ?_ ?_ | exact rfl | (with_reducible show LeG _ _) | (with_reducible show Lp _ _ _ _) | (with_reducible show Exists _) | (with_reducible show callX _ _ _ _ _)))) <;> (try (first | exact LeG.refl _ | omega | ((first | (with_reducible show (_ : Int) ≤ _) | (with_reducible show (_ : Int) < _) | (with_reducible show (_ : Nat) ≤ _) | (with_reducible show (_ : Nat) < _) | (with_reducible show ¬ _) | (with_reducible show (_ : Int) = _) | (with_reducible show (_ : Nat) = _)); (simp only [List.length_map, List.length_append, List.length_cons, List.length_nil, List.length_replicate, List.length_take, List.length_drop, List.length_set, Int.toNat_natCast, Int.reduceToNat] <;> omega)) | exact of_decide_eq_true rfl))
          all_goals first
          | (show -9223372036854775808 ≤ v - lsV v s; omega)
          | (show v - lsV v s ≤ 9223372036854775807; omega)
          | (exact LeG.bool (by rfl))
        | true =>
          have hv0 : 0 ≤ v := by
            unfold argR inB at ha
            simp only [Bool.and_eq_true, decide_eq_true_eq] at ha
            exact ha.1.2.1
          have hsb := smV_bd (v := v) hs hv0
          have ha2 : argR n (smV v s) t k = true := by
            unfold argR inB at *
            simp only [Bool.and_eq_true, decide_eq_true_eq] at *
            refine ⟨⟨ha.1.1, ?_⟩, ha.2⟩
            omega
          rw [ha, if_pos rfl, roomF_res] at q2
          rw [ha2, if_pos rfl, roomF_res] at q3
          have hS := stA_srt n t k hf
          have m1 := res_mono (p := overB u v t k) (q := overB u (smV v s) t k) hS (fun b _ h => overB_val hsb.2 h)
          have e0 := res_e (overB u v t k) (stA l n t k)
          have e1 := res_e (overB u (smV v s) t k) (stA l n t k)
          by_cases hu : u = []
          · refine less_walk l u n v t k w s _ _ 0 _ _ true hw hs hv hul q0 q1 (by rw [← e0]; exact q2) (by rw [← e1]; exact q3) (fun h => absurd hu h) m1 ⟨fun _ => rfl, fun h => nomatch h⟩
          · have hix := ixW_bd hw hu
            have hi : (ixW w u).toNat < u.length := by omega
            have hsp : u = u.take (ixW w u).toNat ++ u[(ixW w u).toNat] :: u.drop ((ixW w u).toNat + 1) := by
              rw [← List.drop_eq_getElem_cons hi, List.take_append_drop]
            have hz := (rU_val (hU _ (List.getElem_mem hi))).1
            have hus2 : usB (u.take (ixW w u).toNat ++ u.drop ((ixW w u).toNat + 1)) = true := usB_less (z := u[(ixW w u).toNat]) (by rw [← hsp]; exact hus)
            have hln : (u.take (ixW w u).toNat ++ u.drop ((ixW w u).toNat + 1)).length ≤ 30 := by simp; omega
            have q4 := Room_calls l (u.take (ixW w u).toNat ++ u.drop ((ixW w u).toNat + 1)) n v t k hl6 (by omega)
            rw [roomA_right hf hln hus2, ha, if_pos rfl, roomF_res] at q4
            have m2 := res_mono (p := overB u v t k) (q := overB (u.take (ixW w u).toNat ++ u.drop ((ixW w u).toNat + 1)) v t k) hS (fun b _ h => by
              have h' := overB_less hz h
              rw [← hsp] at h'
              exact h')
            have e2 := res_e (overB (u.take (ixW w u).toNat ++ u.drop ((ixW w u).toNat + 1)) v t k) (stA l n t k)
            refine less_walk l u n v t k w s _ _ _ _ _ _ hw hs hv hul q0 q1 (by rw [← e0]; exact q2) (by rw [← e1]; exact q3) (fun _ => by rw [← e2]; exact q4) m1 m2
    · have h30 : (30 : Int) < ((u.map eU).length : Int) := by rw [List.length_map]; omega
      refine PCalls.of (N := 148) (res := [.tmp 16]) mixed Try.func7 rfl rfl rfl (by kernel_rfl) (by simp) [0, 1, 2, 3, 4, 5, 6, 7, 16, 17, 18, 19, 20, 21, 22, 23, 24, 25, 26, 27, 29, 42, 73, 101, 104] ?_
      repeat' (first | ((with_reducible show _ = _); exact rfl) | ((with_reducible show (_ : Nat) < _); exact Nat.zero_lt_succ _) | ((with_reducible show (_ : Nat) ≤ _); exact Nat.le_of_ble_eq_true rfl) | ((with_reducible show Exists _); refine exU8 ?_) | ((with_reducible show callX _ _ _ _ _); (first | refine call_p (sane_calls) (by kernel_rfl) rfl ?_ | refine call_p (q0) (by kernel_rfl) rfl ?_)) | ((fail_if_success (first | (with_reducible show LeG _ _) | (with_reducible show Lp _ _ _ _) | (with_reducible show Exists _) | (with_reducible show callX _ _ _ _ _) | (with_reducible show (_ : Int) ≤ _) | (with_reducible show (_ : Int) < _) | (with_reducible show (_ : Nat) ≤ _) | (with_reducible show (_ : Nat) < _))); (conv => whnf) <;> (first | exact OkR.mk (by kernel_rfl) | exact OkC.mk (by kernel_rfl) | refine Br.dec (fun hc => ?_) (fun hc => absurd h30 hc) | refine Sq.pr ?_ | refine Br.dec (fun hc => ?_) (fun hc => ?_) | refine Br.tt ?_ | refine Br.ff ?_ | refine Br.not ?_ | refine Br.mk (fun hc => ?_) (fun hc => ?_) | refine Opt.nn ?_ | refine Opt.ss ?_ | refine AltA.l ?_ | exact PV.leL_nil | refine PV.leL_cons ?_ ?_ | refine And.intro ?_ ?_ | refine ix_map (fun x hx => ?_) | refine exU8 ?_ | refine nilc (fun hn => ?_) ?_ | refine call_p (sane_calls) (by kernel_rfl) rfl ?_ | refine call_p (q0) (by kernel_rfl) rfl ?_ | exact PV.le_refl _ | exact Nat.zero_lt_succ _ | exact Nat.le_of_ble_eq_true rfl | exact onesOf rfl | exact Or.inl rfl | exact noMem | exact onesOfP rfl | exact okAll rfl | exact okMap (fun _ => ⟨rfl, onesOfP rfl⟩) | exact nonz | refine imp0 (fun hpos => ?_) | refine fits_i64 ?_ ?_ | exact rfl | (with_reducible show LeG _ _) | (with_reducible show Lp _ _ _ _) | (with_reducible show Exists _) | (with_reducible show callX _ _ _ _ _)))) <;> (try (first | exact LeG.refl _ | omega | ((first | (with_reducible show (_ : Int) ≤ _) | (with_reducible show (_ : Int) < _) | (with_reducible show (_ : Nat) ≤ _) | (with_reducible show (_ : Nat) < _) | (with_reducible show ¬ _) | (with_reducible show (_ : Int) = _) | (with_reducible show (_ : Nat) = _)); (simp only [List.length_map, List.length_append, List.length_cons, List.length_nil, List.length_replicate, List.length_take, List.length_drop, List.length_set, Int.toNat_natCast, Int.reduceToNat] <;> omega)) | exact of_decide_eq_true rfl))
end Go.Proofs.Ytjpmjhgephlcpaa

namespace Go.Proofs.Ytjpmjhgephlcpaa
open Go Go.Sg
set_option maxRecDepth 100000
theorem OLe.iter0 {σ : Heap} {Z : Nat → Prop} {ρ : Nat → Option Nat} {m m' : List (PV × PV)} {c : Option (PV × PV)} (h : m = m') : OLe σ Z ρ (.iter m c) (.iter m' none) := by
  subst h
  intro F μ w b hz hr
  obtain ⟨q, es, clock, seen, h1, h2, h3, h4, h5, h6⟩ := hr
  exact IterOk.mono (w := w) ⟨q, es, clock, seen, h1, h2, h3, h4, h5, fun k v h => by cases h⟩ (fun _ h => .inl h) (fun _ _ => rfl) rfl
/-! ### The map of the last ones, plainly -/
theorem foldM_nodup (n t k : Int) (l : List Bg) : ∀ i, ((foldM n t k (l.take i)).map Prod.fst).Nodup := by
  intro i
  induction i with
  | zero => simp [foldM]
  | succ i ih =>
    cases hx : l[i]? with
    | none => rw [List.take_add_one, hx]; simpa using ih
    | some x =>
      rw [foldM_take hx]
      unfold updM
      split
      · split
        · exact aput_nodup ih
        · split
          · exact aput_nodup ih
          · exact ih
      · exact ih
theorem foldM_mem {n t k : Int} {l : List Bg} {q : Ky} {y : Bg} (h : (q, y) ∈ foldM n t k l) : ∃ i : Nat, l[i]? = some y ∧ keyA y = q := by
  have key : ∀ (i : Nat) (q : Ky) (y : Bg), (q, y) ∈ foldM n t k (l.take i) → ∃ i : Nat, l[i]? = some y ∧ keyA y = q := by
    intro i
    induction i with
    | zero => intro q y h; simp [foldM] at h
    | succ i ih =>
      intro q y h
      cases hx : l[i]? with
      | none => rw [List.take_add_one, hx] at h; exact ih q y (by simpa using h)
      | some x =>
        rw [foldM_take hx] at h
        have hp : ∀ {q : Ky} {y : Bg}, (q, y) ∈ aput (keyA x) x (foldM n t k (l.take i)) → ∃ i : Nat, l[i]? = some y ∧ keyA y = q := fun {q y} h => by
          have hg := aget_of_mem (aput_nodup (foldM_nodup n t k l i)) h
          rw [aget_put] at hg
          split at hg
          · rename_i e; injection hg with hg; subst hg; exact ⟨i, hx, e.symm⟩
          · exact ih q y (aget_mem hg)
        unfold updM at h
        split at h
        · split at h
          · exact hp h
          · split at h
            · exact hp h
            · exact ih q y h
        · exact ih q y h
  have h2 := key l.length q y
  rw [List.take_length] at h2
  exact h2 h
def liveE (x : Ky × Bg) : Bool := !x.2.gone
/-- As many entries that are not gone as budgets that stand. -/
theorem many_eq {n t k : Int} {l : List Bg} (hs : l.Pairwise (fun a b => a.no < b.no)) : ((foldM n t k l).filter liveE).length = (stF l n t k).length := by
  have hn : ((foldM n t k l).map Prod.fst).Nodup := by have := foldM_nodup n t k l l.length; rwa [List.take_length] at this
  have hl : l.Nodup := hs.imp fun h e => by subst e; omega
  have hp : ((stF l n t k).map fun y => (keyA y, y)).Perm ((foldM n t k l).filter liveE) := by
    rw [List.perm_ext_iff_of_nodup]
    · rintro ⟨q, y⟩
      constructor
      · intro h
        obtain ⟨z, hz, e⟩ := List.mem_map.1 h
        injection e with e1 e2; subst e1; subst e2
        obtain ⟨hz1, hz2⟩ := List.mem_filter.1 hz
        unfold stM at hz2
        rw [Bool.and_eq_true] at hz2
        exact List.mem_filter.2 ⟨aget_mem (of_decide_eq_true hz2.2), hz2.1⟩
      · intro h
        obtain ⟨h1, h2⟩ := List.mem_filter.1 h
        obtain ⟨i, hi, e⟩ := foldM_mem h1
        subst e
        refine List.mem_map.2 ⟨y, List.mem_filter.2 ⟨List.mem_of_getElem? hi, ?_⟩, rfl⟩
        unfold stM
        rw [Bool.and_eq_true]
        exact ⟨h2, decide_eq_true (aget_of_mem hn h1)⟩
    · have h1 : (stF l n t k).Nodup := hl.sublist List.filter_sublist
      rw [List.nodup_iff_pairwise_ne, List.pairwise_map]
      exact (List.nodup_iff_pairwise_ne.1 h1).imp fun h e => by injection e with _ e; exact h e
    · have : ((foldM n t k l).map Prod.fst).Pairwise (· ≠ ·) := List.nodup_iff_pairwise_ne.1 hn
      rw [List.pairwise_map] at this
      exact (List.nodup_iff_pairwise_ne.2 (this.imp fun h e => h (by rw [e]))).sublist List.filter_sublist
  have := hp.length_eq
  rw [List.length_map] at this
  exact this.symm
theorem erase_count {α : Type} (p : α → Bool) {R : List α} {i : Nat} {x : α} (h : R[i]? = some x) : ((R.eraseIdx i).filter p).length + (if p x then 1 else 0) = (R.filter p).length := by
  obtain ⟨hi, e⟩ := List.getElem?_eq_some_iff.1 h
  have h1 : R = R.take i ++ x :: R.drop (i + 1) := by rw [← e, List.getElem_cons_drop, List.take_append_drop]
  rw [List.eraseIdx_eq_take_drop_succ]
  conv => rhs; rw [h1]
  simp only [List.filter_append, List.filter_cons, List.length_append]
  split <;> simp <;> omega
end Go.Proofs.Ytjpmjhgephlcpaa

namespace Go.Proofs.Ytjpmjhgephlcpaa
open Go Go.Sg
set_option maxRecDepth 100000
set_option maxHeartbeats 20000000
theorem tM39 : tMap Try.prog 39 = some (([.int .i64, .int .i64], true), 24) := by kernel_rfl
theorem optS {o : Option PV} {v : PV} {A : PV → Prop} {B : Prop} (h : o = some v) (k : A v) : Opt o A B := by
  subst h; exact Opt.ss k
theorem last_walk (l : List Bg) (n t k : Int) (hl : l.length ≤ 30) (hr : ∀ x ∈ l, rightA x = true) (hs : l.Pairwise (fun a b => a.no < b.no)) (hn : 0 ≤ n ∧ n < 16) (ht : 0 ≤ t ∧ t < 1099511627776) (hk : 0 ≤ k ∧ k < 1099511627776)
    (q0 : PCalls Try.prog 21 [eL l] (.bool true)) (q1 : PCalls Try.prog 17 [eL l, eI n, eI t, eI k] (.tup [eL (stF l n t k), eI 0])) :
    PCalls Try.prog 5 [eL l, eI n, eI t, eI k] (.bool true) := by
  obtain ⟨hn1, hn2⟩ := hn
  obtain ⟨ht1, ht2⟩ := ht
  obtain ⟨hk1, hk2⟩ := hk
  have a1 : ¬ n < 0 := by omega
  have a2 : ¬ n ≥ 16 := by omega
  have a3 : ¬ t < 0 := by omega
  have a4 : ¬ t ≥ 1099511627776 := by omega
  have a5 : ¬ k < 0 := by omega
  have a6 : ¬ k ≥ 1099511627776 := by omega
  refine PCalls.of (N := 164) (res := [.tmp 8]) mixed Try.func5 rfl rfl rfl (by kernel_rfl) (by simp) [0, 1, 2, 3, 8, 9, 10, 11, 13, 14, 15, 16, 17, 19, 20, 21, 23, 50, 60, 62, 63, 64, 65, 88, 108, 114, 116, 121, 124, 125, 126, 127, 158] ?_
  repeat' (first | ((with_reducible show _ = _); exact rfl) | ((with_reducible show (_ : Nat) < _); exact Nat.zero_lt_succ _) | ((with_reducible show (_ : Nat) ≤ _); exact Nat.le_of_ble_eq_true rfl) | ((with_reducible show Exists _); refine exU8 ?_) | ((with_reducible show callX _ _ _ _ _); (first | refine call_p (sane_calls) (by kernel_rfl) rfl ?_ | refine call_p (q0) (by kernel_rfl) rfl ?_ | refine call_p (q1) (by kernel_rfl) rfl ?_)) | ((fail_if_success (first | (with_reducible show LeG _ _) | (with_reducible show Lp _ _ _ _) | (with_reducible show Exists _) | (with_reducible show callX _ _ _ _ _) | (with_reducible show (_ : Int) ≤ _) | (with_reducible show (_ : Int) < _) | (with_reducible show (_ : Nat) ≤ _) | (with_reducible show (_ : Nat) < _))); (conv => whnf) <;> (first | exact OkR.mk (by kernel_rfl) | exact OkC.mk (by kernel_rfl) | refine Br.dec (fun hc => absurd hc a1) (fun hc => ?_) | refine Br.dec (fun hc => absurd hc a2) (fun hc => ?_) | refine Br.dec (fun hc => absurd hc a3) (fun hc => ?_) | refine Br.dec (fun hc => absurd hc a4) (fun hc => ?_) | refine Br.dec (fun hc => absurd hc a5) (fun hc => ?_) | refine Br.dec (fun hc => absurd hc a6) (fun hc => ?_) | refine Sq.pr ?_ | refine Br.dec (fun hc => ?_) (fun hc => ?_) | refine Br.tt ?_ | refine Br.ff ?_ | refine Br.not ?_ | refine Br.mk (fun hc => ?_) (fun hc => ?_) | refine Opt.nn ?_ | refine Opt.ss ?_ | refine AltA.l ?_ | exact PV.leL_nil | refine PV.leL_cons ?_ ?_ | refine And.intro ?_ ?_ | refine ix_map (fun x hx => ?_) | refine exU8 ?_ | refine nilc (fun hn => ?_) ?_ | refine call_p (sane_calls) (by kernel_rfl) rfl ?_ | refine call_p (q0) (by kernel_rfl) rfl ?_ | refine call_p (q1) (by kernel_rfl) rfl ?_ | exact PV.le_refl _ | exact Nat.zero_lt_succ _ | exact Nat.le_of_ble_eq_true rfl | exact onesOf rfl | exact Or.inl rfl | exact noMem | exact onesOfP rfl | exact okAll rfl | exact okMap (fun _ => ⟨rfl, onesOfP rfl⟩) | exact nonz | refine imp0 (fun hpos => ?_) | refine fits_i64 ?_ ?_ | exact rfl | (with_reducible show LeG _ _) | (with_reducible show Lp _ _ _ _) | (with_reducible show Exists _) | (with_reducible show callX _ _ _ _ _) | rw [tM39]))) <;> (try (first | exact LeG.refl _ | omega | ((first | (with_reducible show (_ : Int) ≤ _) | (with_reducible show (_ : Int) < _) | (with_reducible show (_ : Nat) ≤ _) | (with_reducible show (_ : Nat) < _) | (with_reducible show ¬ _) | (with_reducible show (_ : Int) = _) | (with_reducible show (_ : Nat) = _)); (simp only [List.length_map, List.length_append, List.length_cons, List.length_nil, List.length_replicate, List.length_take, List.length_drop, List.length_set, Int.toNat_natCast, Int.reduceToNat] <;> omega)) | exact of_decide_eq_true rfl))
  refine Wpc.loopA (α := {i : Nat // i ≤ l.length}) mixed [0, 1, 2, 3, 8, 9, 10, 11, 13, 14, 15, 16, 17, 19, 20, 21, 23, 50, 60, 62, 63, 64, 65, 88, 108, 114, 116, 121, 124, 125, 126, 127, 158] (fun i => [(64, .p (eI i.1))]) (fun i => [(2688, .map KTs (eM eK eA (foldM n t k (l.take i.1))))]) (fun _ => 0) (fun i => l.length - i.1) ⟨0, by omega⟩ ?_ ?_
  · (first | refine Ent.ofA [] ?_ | refine Ent.ofC [] ?_) <;> (repeat' (first | exact trivial | refine HpLe.dd ?_ | refine HpLe.mk rfl (by simp) rfl (fun h => AObj.noConfusion h) ?_ ?_ | refine And.intro ?_ ?_ | exact VLe.refl _ | exact VLe.msl rfl | exact VLe.rsl rfl | exact VLe.csl rfl | exact VLe.cslr rfl | exact VLe.mp rfl | exact VLe.eptr rfl | exact VLe.ptr rfl | exact VLe.any _ | refine VLe.pe ?_ | refine VLe.agg ?_ | refine VLeL.cons ?_ ?_ | exact VLeL.nil | exact OLe.row _ _ | rfl | refine VLe.rsle rfl ?_ ?_ ?_ | refine OLe.rowe2 ?_ ?_ | refine OLe.mape ?_ ?_ | refine OLe.iter0 ?_ | refine OLe.itere ?_ ?_)) <;> try (first | (simp; done) | (congr 1; omega) | (congr 1; (first | (simp; done) | (simp; omega))))
  rintro ⟨i, hi⟩
  have hi : i ≤ l.length := hi
  clear hc
  cases hxi : l[i]? with
  | some x =>
    have hlt : i < l.length := (List.getElem?_eq_some_iff.1 hxi).1
    have hyes : ((i : Int) < ((l.map eA).length : Int)) := by rw [List.length_map]; omega
    have hft := foldM_take (n := n) (t := t) (k := k) hxi
    have hrx := hr x (List.mem_of_getElem? hxi)
    have hkx : -1 ≤ x.kind := by simp [rightA, inB] at hrx; omega
    repeat' (first | ((with_reducible show _ = _); exact rfl) | ((with_reducible show (_ : Nat) < _); exact Nat.zero_lt_succ _) | ((with_reducible show (_ : Nat) ≤ _); exact Nat.le_of_ble_eq_true rfl) | ((with_reducible show Exists _); refine exU8 ?_) | ((fail_if_success (first | (with_reducible show LeG _ _) | (with_reducible show Lp _ _ _ _) | (with_reducible show Exists _) | (with_reducible show callX _ _ _ _ _) | (with_reducible show (_ : Int) ≤ _) | (with_reducible show (_ : Int) < _) | (with_reducible show (_ : Nat) ≤ _) | (with_reducible show (_ : Nat) < _))); (conv => whnf) <;> (first | exact OkR.mk (by kernel_rfl) | exact OkC.mk (by kernel_rfl) | refine Br.dec (fun hc => ?_) (fun hc => absurd hyes hc) | refine ix_at hxi ?_ | refine Opt.of (mfind_map eA keyK (keyA x) (foldM n t k (l.take i))) (fun z hz => ?_) (fun hz => ?_) | refine Sq.pr ?_ | refine Br.dec (fun hc => ?_) (fun hc => ?_) | refine Br.tt ?_ | refine Br.ff ?_ | refine Br.not ?_ | refine Br.mk (fun hc => ?_) (fun hc => ?_) | refine Opt.nn ?_ | refine Opt.ss ?_ | refine AltA.l ?_ | exact PV.leL_nil | refine PV.leL_cons ?_ ?_ | refine And.intro ?_ ?_ | refine ix_map (fun x hx => ?_) | refine exU8 ?_ | refine nilc (fun hn => ?_) ?_ | exact PV.le_refl _ | exact Nat.zero_lt_succ _ | exact Nat.le_of_ble_eq_true rfl | exact onesOf rfl | exact Or.inl rfl | exact noMem | exact onesOfP rfl | exact okAll rfl | exact okMap (fun _ => ⟨rfl, onesOfP rfl⟩) | exact nonz | refine imp0 (fun hpos => ?_) | refine fits_i64 ?_ ?_ | exact rfl | (with_reducible show LeG _ _) | (with_reducible show Lp _ _ _ _) | (with_reducible show Exists _) | (with_reducible show callX _ _ _ _ _) | rw [tM39]))) <;> (try (first | exact LeG.refl _ | omega | ((first | (with_reducible show (_ : Int) ≤ _) | (with_reducible show (_ : Int) < _) | (with_reducible show (_ : Nat) ≤ _) | (with_reducible show (_ : Nat) < _) | (with_reducible show ¬ _) | (with_reducible show (_ : Int) = _) | (with_reducible show (_ : Nat) = _)); (simp only [List.length_map, List.length_append, List.length_cons, List.length_nil, List.length_replicate, List.length_take, List.length_drop, List.length_set, Int.toNat_natCast, Int.reduceToNat] <;> omega)) | exact of_decide_eq_true rfl))
    all_goals (
      refine ⟨⟨i + 1, hlt⟩, by show l.length - (i + 1) < l.length - i; omega, ?_⟩
      (first | refine Ent.ofA [] ?_ | refine Ent.ofC [] ?_) <;> (repeat' (first | exact trivial | refine HpLe.dd ?_ | refine HpLe.mk rfl (by simp) rfl (fun h => AObj.noConfusion h) ?_ ?_ | refine And.intro ?_ ?_ | exact VLe.refl _ | exact VLe.msl rfl | exact VLe.rsl rfl | exact VLe.csl rfl | exact VLe.cslr rfl | exact VLe.mp rfl | exact VLe.eptr rfl | exact VLe.ptr rfl | exact VLe.any _ | refine VLe.pe ?_ | refine VLe.agg ?_ | refine VLeL.cons ?_ ?_ | exact VLeL.nil | exact OLe.row _ _ | rfl | refine VLe.rsle rfl ?_ ?_ ?_ | refine OLe.rowe2 ?_ ?_ | refine OLe.mape ?_ ?_ | refine OLe.iter0 ?_ | refine OLe.itere ?_ ?_)) <;> try (first | (simp; done) | (congr 1; omega) | (congr 1; (first | (simp; done) | (simp; omega)))))
    all_goals (
      rw [hft]
      first
      | (have hd : docQ n t k x = false := by (rw [Bool.eq_false_iff]; simp [docQ, cntA, forK]; omega)
         unfold updM; rw [hd]; rfl)
      | (have hd : docQ n t k x = true := by (simp [docQ, cntA, forK]; omega)
         unfold updM
         rw [hd, if_pos rfl, hz]
         first
         | exact mput_map eA keyK (keyA x) x _
         | (simp only; rw [if_pos hc]; exact mput_map eA keyK (keyA x) x _)
         | (simp only; rw [if_neg hc]))
      | trace_state)
  | none =>
    have hge : l.length ≤ i := List.getElem?_eq_none_iff.1 hxi
    have hno : ¬ ((i : Int) < ((l.map eA).length : Int)) := by rw [List.length_map]; omega
    have hM := many_eq (n := n) (t := t) (k := k) hs
    have hSl : (stF l n t k).length ≤ l.length := List.length_filter_le _ _
    have hSm : ∀ y ∈ stF l n t k, y.gone = false ∧ aget (keyA y) (foldM n t k l) = some y := fun y hy => by
      have := (List.mem_filter.1 hy).2
      unfold stM at this
      simpa using this
    have hSs : (stF l n t k).Pairwise (fun a b => a.no < b.no) := hs.sublist List.filter_sublist
    show lpE _ _ _ fun e => lpH [(2688, .map KTs (eM eK eA (foldM n t k (l.take i))))] _ [] fun h => _
    rw [List.take_of_length_le hge]
    generalize foldM n t k l = M at *
    generalize stF l n t k = S at *
    repeat' (first | ((with_reducible show _ = _); exact rfl) | ((with_reducible show (_ : Nat) < _); exact Nat.zero_lt_succ _) | ((with_reducible show (_ : Nat) ≤ _); exact Nat.le_of_ble_eq_true rfl) | ((with_reducible show Exists _); refine exU8 ?_) | ((fail_if_success (first | (with_reducible show LeG _ _) | (with_reducible show Lp _ _ _ _) | (with_reducible show Exists _) | (with_reducible show callX _ _ _ _ _) | (with_reducible show (_ : Int) ≤ _) | (with_reducible show (_ : Int) < _) | (with_reducible show (_ : Nat) ≤ _) | (with_reducible show (_ : Nat) < _))); (conv => whnf) <;> (first | exact OkR.mk (by kernel_rfl) | exact OkC.mk (by kernel_rfl) | refine Br.dec (fun hc => absurd hc hno) (fun hc => ?_) | refine Sq.fz (id := 19) [(11, false)] ?_ | refine Sq.pr ?_ | refine Br.dec (fun hc => ?_) (fun hc => ?_) | refine Br.tt ?_ | refine Br.ff ?_ | refine Br.not ?_ | refine Br.mk (fun hc => ?_) (fun hc => ?_) | refine Opt.nn ?_ | refine Opt.ss ?_ | refine AltA.l ?_ | exact PV.leL_nil | refine PV.leL_cons ?_ ?_ | refine And.intro ?_ ?_ | refine ix_map (fun x hx => ?_) | refine exU8 ?_ | refine nilc (fun hn => ?_) ?_ | exact PV.le_refl _ | exact Nat.zero_lt_succ _ | exact Nat.le_of_ble_eq_true rfl | exact onesOf rfl | exact Or.inl rfl | exact noMem | exact onesOfP rfl | exact okAll rfl | exact okMap (fun _ => ⟨rfl, onesOfP rfl⟩) | exact nonz | refine imp0 (fun hpos => ?_) | refine fits_i64 ?_ ?_ | exact rfl | (with_reducible show LeG _ _) | (with_reducible show Lp _ _ _ _) | (with_reducible show Exists _) | (with_reducible show callX _ _ _ _ _) | rw [tM39]))) <;> (try (first | exact LeG.refl _ | omega | ((first | (with_reducible show (_ : Int) ≤ _) | (with_reducible show (_ : Int) < _) | (with_reducible show (_ : Nat) ≤ _) | (with_reducible show (_ : Nat) < _) | (with_reducible show ¬ _) | (with_reducible show (_ : Int) = _) | (with_reducible show (_ : Nat) = _)); (simp only [List.length_map, List.length_append, List.length_cons, List.length_nil, List.length_replicate, List.length_take, List.length_drop, List.length_set, Int.toNat_natCast, Int.reduceToNat] <;> omega)) | exact of_decide_eq_true rfl))
    have hT30 : (M.filter liveE).length ≤ 30 := by omega
    refine Wpc.loopA (α := {R : List (Ky × Bg) // (R.filter liveE).length ≤ (M.filter liveE).length}) mixed [0, 1, 2, 3, 8, 9, 10, 11, 13, 14, 15, 16, 17, 19, 20, 21, 23, 50, 60, 62, 63, 64, 65, 88, 108, 114, 116, 121, 124, 125, 126, 127, 158] (fun R => [(17, .p (eI (((M.filter liveE).length : Int) - ((R.1.filter liveE).length : Int))))]) (fun R => [(3200, .iter (eM eK eA R.1) none)]) (fun _ => 0) (fun R => R.1.length) ⟨M, Nat.le_refl _⟩ ?_ ?_
    · (first | refine Ent.ofA [] ?_ | refine Ent.ofC [] ?_) <;> (repeat' (first | exact trivial | refine HpLe.dd ?_ | refine HpLe.mk rfl (by simp) rfl (fun h => AObj.noConfusion h) ?_ ?_ | refine And.intro ?_ ?_ | exact VLe.refl _ | exact VLe.msl rfl | exact VLe.rsl rfl | exact VLe.csl rfl | exact VLe.cslr rfl | exact VLe.mp rfl | exact VLe.eptr rfl | exact VLe.ptr rfl | exact VLe.any _ | refine VLe.pe ?_ | refine VLe.agg ?_ | refine VLeL.cons ?_ ?_ | exact VLeL.nil | exact OLe.row _ _ | rfl | refine VLe.rsle rfl ?_ ?_ ?_ | refine OLe.rowe2 ?_ ?_ | refine OLe.mape ?_ ?_ | refine OLe.iter0 ?_ | refine OLe.itere ?_ ?_)) <;> try (first | (simp; done) | (congr 1; omega) | (congr 1; (first | (simp; done) | (simp; omega))))
      all_goals (show PV.int .i64 _ = PV.int .i64 _; congr 1; omega)
    rintro ⟨R, hRl⟩
    have hRl : (R.filter liveE).length ≤ (M.filter liveE).length := hRl
    clear hc
    repeat' (first | ((with_reducible show _ = _); exact rfl) | ((with_reducible show (_ : Nat) < _); exact Nat.zero_lt_succ _) | ((with_reducible show (_ : Nat) ≤ _); exact Nat.le_of_ble_eq_true rfl) | ((with_reducible show Exists _); refine exU8 ?_) | ((fail_if_success (first | (with_reducible show LeG _ _) | (with_reducible show Lp _ _ _ _) | (with_reducible show Exists _) | (with_reducible show callX _ _ _ _ _) | (with_reducible show (_ : Int) ≤ _) | (with_reducible show (_ : Int) < _) | (with_reducible show (_ : Nat) ≤ _) | (with_reducible show (_ : Nat) < _))); (conv => whnf) <;> (first | exact OkR.mk (by kernel_rfl) | exact OkC.mk (by kernel_rfl) | refine Nx.of (R := R) (f := fun x => (eK x.1, eA x.2)) (fun hR => ?_) (fun j x hj => ?_) | refine Sq.pr ?_ | refine Br.dec (fun hc => ?_) (fun hc => ?_) | refine Br.tt ?_ | refine Br.ff ?_ | refine Br.not ?_ | refine Br.mk (fun hc => ?_) (fun hc => ?_) | refine Opt.nn ?_ | refine Opt.ss ?_ | refine AltA.l ?_ | exact PV.leL_nil | refine PV.leL_cons ?_ ?_ | refine And.intro ?_ ?_ | refine ix_map (fun x hx => ?_) | refine exU8 ?_ | refine nilc (fun hn => ?_) ?_ | exact PV.le_refl _ | exact Nat.zero_lt_succ _ | exact Nat.le_of_ble_eq_true rfl | exact onesOf rfl | exact Or.inl rfl | exact noMem | exact onesOfP rfl | exact okAll rfl | exact okMap (fun _ => ⟨rfl, onesOfP rfl⟩) | exact nonz | refine imp0 (fun hpos => ?_) | refine fits_i64 ?_ ?_ | exact rfl | (with_reducible show LeG _ _) | (with_reducible show Lp _ _ _ _) | (with_reducible show Exists _) | (with_reducible show callX _ _ _ _ _) | rw [tM39]))) <;> (try (first | exact LeG.refl _ | omega | ((first | (with_reducible show (_ : Int) ≤ _) | (with_reducible show (_ : Int) < _) | (with_reducible show (_ : Nat) ≤ _) | (with_reducible show (_ : Nat) < _) | (with_reducible show ¬ _) | (with_reducible show (_ : Int) = _) | (with_reducible show (_ : Nat) = _)); (simp only [List.length_map, List.length_append, List.length_cons, List.length_nil, List.length_replicate, List.length_take, List.length_drop, List.length_set, Int.toNat_natCast, Int.reduceToNat] <;> omega)) | exact of_decide_eq_true rfl))
    (all_goals (try ((first | (with_reducible show (_ : Int) ≤ _) | (with_reducible show (_ : Int) < _) | (with_reducible show (_ : Nat) ≤ _) | (with_reducible show (_ : Nat) < _) | (with_reducible show ¬ _) | (with_reducible show (_ : Int) = _) | (with_reducible show (_ : Nat) = _) | (with_reducible show False)); (try dsimp only at *); (try simp only [List.length_map, List.length_append, List.length_cons, List.length_nil, List.length_replicate, List.length_take, List.length_drop, List.length_set, Int.toNat_natCast, Int.reduceToNat] at *); omega)))
    all_goals try (
      have hlj := (List.getElem?_eq_some_iff.1 hj).1
      have hec := erase_count liveE hj
      have hel : (R.eraseIdx j).length < R.length := by rw [List.length_eraseIdx_of_lt hlj]; omega)
    rotate_left 1
    · have hc : x.2.gone = true := hc
      have hxl : liveE x = false := by unfold liveE; rw [hc]; rfl
      rw [hxl, if_neg Bool.false_ne_true] at hec
      refine ⟨⟨R.eraseIdx j, by omega⟩, hel, ?_⟩
      (first | refine Ent.ofA [] ?_ | refine Ent.ofC [] ?_) <;> (repeat' (first | exact trivial | refine HpLe.dd ?_ | refine HpLe.mk rfl (by simp) rfl (fun h => AObj.noConfusion h) ?_ ?_ | refine And.intro ?_ ?_ | exact VLe.refl _ | exact VLe.msl rfl | exact VLe.rsl rfl | exact VLe.csl rfl | exact VLe.cslr rfl | exact VLe.mp rfl | exact VLe.eptr rfl | exact VLe.ptr rfl | exact VLe.any _ | refine VLe.pe ?_ | refine VLe.agg ?_ | refine VLeL.cons ?_ ?_ | exact VLeL.nil | exact OLe.row _ _ | rfl | refine VLe.rsle rfl ?_ ?_ ?_ | refine OLe.rowe2 ?_ ?_ | refine OLe.mape ?_ ?_ | refine OLe.iter0 ?_ | refine OLe.itere ?_ ?_)) <;> try (first | (simp; done) | (congr 1; omega) | (congr 1; (first | (simp; done) | (simp; omega))))
      all_goals (show PV.int .i64 _ = PV.int .i64 _; congr 1; omega)
    · have hc : x.2.gone = false := hc
      have hxl : liveE x = true := by unfold liveE; rw [hc]; rfl
      rw [hxl, if_pos rfl] at hec
      refine ⟨⟨R.eraseIdx j, by omega⟩, hel, ?_⟩
      (first | refine Ent.ofA [] ?_ | refine Ent.ofC [] ?_) <;> (repeat' (first | exact trivial | refine HpLe.dd ?_ | refine HpLe.mk rfl (by simp) rfl (fun h => AObj.noConfusion h) ?_ ?_ | refine And.intro ?_ ?_ | exact VLe.refl _ | exact VLe.msl rfl | exact VLe.rsl rfl | exact VLe.csl rfl | exact VLe.cslr rfl | exact VLe.mp rfl | exact VLe.eptr rfl | exact VLe.ptr rfl | exact VLe.any _ | refine VLe.pe ?_ | refine VLe.agg ?_ | refine VLeL.cons ?_ ?_ | exact VLeL.nil | exact OLe.row _ _ | rfl | refine VLe.rsle rfl ?_ ?_ ?_ | refine OLe.rowe2 ?_ ?_ | refine OLe.mape ?_ ?_ | refine OLe.iter0 ?_ | refine OLe.itere ?_ ?_)) <;> try (first | (simp; done) | (congr 1; omega) | (congr 1; (first | (simp; done) | (simp; omega))))
      all_goals (show PV.int .i64 _ = PV.int .i64 _; congr 1; omega)
    subst hR
    refine Wpc.loopB (α := {j : Nat // j ≤ S.length}) mixed [0, 1, 2, 3, 8, 9, 10, 11, 13, 14, 15, 16, 17, 19, 20, 21, 23, 50, 60, 62, 63, 64, 65, 88, 108, 114, 116, 121, 124, 125, 126, 127, 158] (fun j => [(126, .p (eI j.1))]) (fun j => S.length - j.1) ⟨0, by omega⟩ ?_ ?_
    · (first | refine Ent.ofA [] ?_ | refine Ent.ofC [] ?_) <;> (repeat' (first | exact trivial | refine HpLe.dd ?_ | refine HpLe.mk rfl (by simp) rfl (fun h => AObj.noConfusion h) ?_ ?_ | refine And.intro ?_ ?_ | exact VLe.refl _ | exact VLe.msl rfl | exact VLe.rsl rfl | exact VLe.csl rfl | exact VLe.cslr rfl | exact VLe.mp rfl | exact VLe.eptr rfl | exact VLe.ptr rfl | exact VLe.any _ | refine VLe.pe ?_ | refine VLe.agg ?_ | refine VLeL.cons ?_ ?_ | exact VLeL.nil | exact OLe.row _ _ | rfl | refine VLe.rsle rfl ?_ ?_ ?_ | refine OLe.rowe2 ?_ ?_ | refine OLe.mape ?_ ?_ | refine OLe.iter0 ?_ | refine OLe.itere ?_ ?_)) <;> try (first | (simp; done) | (congr 1; omega) | (congr 1; (first | (simp; done) | (simp; omega))))
    rintro ⟨j, hj⟩
    have hj : j ≤ S.length := hj
    cases hxj : S[j]? with
    | none =>
      have hge2 : S.length ≤ j := List.getElem?_eq_none_iff.1 hxj
      have hno2 : ¬ ((j : Int) < ((S.map eA).length : Int)) := by rw [List.length_map]; omega
      repeat' (first | ((with_reducible show _ = _); exact rfl) | ((with_reducible show (_ : Nat) < _); exact Nat.zero_lt_succ _) | ((with_reducible show (_ : Nat) ≤ _); exact Nat.le_of_ble_eq_true rfl) | ((with_reducible show Exists _); refine exU8 ?_) | ((fail_if_success (first | (with_reducible show LeG _ _) | (with_reducible show Lp _ _ _ _) | (with_reducible show Exists _) | (with_reducible show callX _ _ _ _ _) | (with_reducible show (_ : Int) ≤ _) | (with_reducible show (_ : Int) < _) | (with_reducible show (_ : Nat) ≤ _) | (with_reducible show (_ : Nat) < _))); (conv => whnf) <;> (first | exact OkR.mk (by kernel_rfl) | exact OkC.mk (by kernel_rfl) | refine Br.dec (fun hc => absurd hc hno2) (fun hc => ?_) | refine Sq.pr ?_ | refine Br.dec (fun hc => ?_) (fun hc => ?_) | refine Br.tt ?_ | refine Br.ff ?_ | refine Br.not ?_ | refine Br.mk (fun hc => ?_) (fun hc => ?_) | refine Opt.nn ?_ | refine Opt.ss ?_ | refine AltA.l ?_ | exact PV.leL_nil | refine PV.leL_cons ?_ ?_ | refine And.intro ?_ ?_ | refine ix_map (fun x hx => ?_) | refine exU8 ?_ | refine nilc (fun hn => ?_) ?_ | exact PV.le_refl _ | exact Nat.zero_lt_succ _ | exact Nat.le_of_ble_eq_true rfl | exact onesOf rfl | exact Or.inl rfl | exact noMem | exact onesOfP rfl | exact okAll rfl | exact okMap (fun _ => ⟨rfl, onesOfP rfl⟩) | exact nonz | refine imp0 (fun hpos => ?_) | refine fits_i64 ?_ ?_ | exact rfl | (with_reducible show LeG _ _) | (with_reducible show Lp _ _ _ _) | (with_reducible show Exists _) | (with_reducible show callX _ _ _ _ _)))) <;> (try (first | exact LeG.refl _ | omega | ((first | (with_reducible show (_ : Int) ≤ _) | (with_reducible show (_ : Int) < _) | (with_reducible show (_ : Nat) ≤ _) | (with_reducible show (_ : Nat) < _) | (with_reducible show ¬ _) | (with_reducible show (_ : Int) = _) | (with_reducible show (_ : Nat) = _)); (simp only [List.length_map, List.length_append, List.length_cons, List.length_nil, List.length_replicate, List.length_take, List.length_drop, List.length_set, Int.toNat_natCast, Int.reduceToNat] <;> omega)) | exact of_decide_eq_true rfl))
      refine LeG.bool (decide_eq_true ?_)
      show ((M.filter liveE).length : Int) - ((([] : List (Ky × Bg)).filter liveE).length : Int) = ((S.map eA).length : Int)
      rw [List.length_map, List.filter_nil, List.length_nil]; omega
    | some y =>
      have hlt2 : j < S.length := (List.getElem?_eq_some_iff.1 hxj).1
      have hyes2 : ((j : Int) < ((S.map eA).length : Int)) := by rw [List.length_map]; omega
      obtain ⟨hy1, hy2⟩ := hSm y (List.mem_of_getElem? hxj)
      have hyT : ¬ y.gone = true := by rw [hy1]; simp
      repeat' (first | ((with_reducible show _ = _); exact rfl) | ((with_reducible show (_ : Nat) < _); exact Nat.zero_lt_succ _) | ((with_reducible show (_ : Nat) ≤ _); exact Nat.le_of_ble_eq_true rfl) | ((with_reducible show Exists _); refine exU8 ?_) | ((fail_if_success (first | (with_reducible show LeG _ _) | (with_reducible show Lp _ _ _ _) | (with_reducible show Exists _) | (with_reducible show callX _ _ _ _ _) | (with_reducible show (_ : Int) ≤ _) | (with_reducible show (_ : Int) < _) | (with_reducible show (_ : Nat) ≤ _) | (with_reducible show (_ : Nat) < _))); (conv => whnf) <;> (first | exact OkR.mk (by kernel_rfl) | exact OkC.mk (by kernel_rfl) | refine Br.dec (fun hc => ?_) (fun hc => absurd hyes2 hc) | refine ix_at hxj ?_ | refine Br.mk (fun hc => (hyT hc).elim) (fun hc => ?_) | refine optS ((mfind_map eA keyK (keyA y) M).trans (congrArg _ hy2)) ?_ | refine Sq.pr ?_ | refine Br.dec (fun hc => ?_) (fun hc => ?_) | refine Br.tt ?_ | refine Br.ff ?_ | refine Br.not ?_ | refine Br.mk (fun hc => ?_) (fun hc => ?_) | refine Opt.nn ?_ | refine Opt.ss ?_ | refine AltA.l ?_ | exact PV.leL_nil | refine PV.leL_cons ?_ ?_ | refine And.intro ?_ ?_ | refine ix_map (fun x hx => ?_) | refine exU8 ?_ | refine nilc (fun hn => ?_) ?_ | exact PV.le_refl _ | exact Nat.zero_lt_succ _ | exact Nat.le_of_ble_eq_true rfl | exact onesOf rfl | exact Or.inl rfl | exact noMem | exact onesOfP rfl | exact okAll rfl | exact okMap (fun _ => ⟨rfl, onesOfP rfl⟩) | exact nonz | refine imp0 (fun hpos => ?_) | refine fits_i64 ?_ ?_ | exact rfl | (with_reducible show LeG _ _) | (with_reducible show Lp _ _ _ _) | (with_reducible show Exists _) | (with_reducible show callX _ _ _ _ _) | rw [tM39]))) <;> (try (first | exact LeG.refl _ | omega | ((first | (with_reducible show (_ : Int) ≤ _) | (with_reducible show (_ : Int) < _) | (with_reducible show (_ : Nat) ≤ _) | (with_reducible show (_ : Nat) < _) | (with_reducible show ¬ _) | (with_reducible show (_ : Int) = _) | (with_reducible show (_ : Nat) = _)); (simp only [List.length_map, List.length_append, List.length_cons, List.length_nil, List.length_replicate, List.length_take, List.length_drop, List.length_set, Int.toNat_natCast, Int.reduceToNat] <;> omega)) | exact of_decide_eq_true rfl))
      all_goals first
      | (have hc : y.no ≤ x.no := hc
         have hx : S[((j : Int) - 1).toNat]? = some x := hx
         have hj0 : (0 : Int) < (j : Int) := by assumption
         have := srt_lt Bg.no hSs (show ((j : Int) - 1).toNat < j by omega) hx hxj
         omega)
      | (refine ⟨⟨j + 1, hlt2⟩, by show S.length - (j + 1) < S.length - j; omega, ?_⟩
         (first | refine Ent.ofA [] ?_ | refine Ent.ofC [] ?_) <;> (repeat' (first | exact trivial | refine HpLe.dd ?_ | refine HpLe.mk rfl (by simp) rfl (fun h => AObj.noConfusion h) ?_ ?_ | refine And.intro ?_ ?_ | exact VLe.refl _ | exact VLe.msl rfl | exact VLe.rsl rfl | exact VLe.csl rfl | exact VLe.cslr rfl | exact VLe.mp rfl | exact VLe.eptr rfl | exact VLe.ptr rfl | exact VLe.any _ | refine VLe.pe ?_ | refine VLe.agg ?_ | refine VLeL.cons ?_ ?_ | exact VLeL.nil | exact OLe.row _ _ | rfl | refine VLe.rsle rfl ?_ ?_ ?_ | refine OLe.rowe2 ?_ ?_ | refine OLe.mape ?_ ?_ | refine OLe.iter0 ?_ | refine OLe.itere ?_ ?_)) <;> try (first | (simp; done) | (congr 1; omega) | (congr 1; (first | (simp; done) | (simp; omega)))))
      | (exfalso
         rw [eqBg] at hc
         simp at hc
         done)
theorem last_calls (l : List Bg) (n t k : Int) : PCalls Try.prog 5 [eL l, eI n, eI t, eI k] (.bool true) := by
  have q0 := right_law l
  cases hf : fewB l with
  | false =>
    rw [hf] at q0
    refine PCalls.of (N := 164) (res := [.tmp 8]) mixed Try.func5 rfl rfl rfl (by kernel_rfl) (by simp) [0, 1, 2, 3, 8, 9, 10, 11, 13, 14, 15, 16, 17, 19, 20, 21, 23, 50, 60, 62, 63, 64, 65, 88, 108, 114, 116, 121, 124, 125, 126, 127, 158] ?_
    repeat' (first | ((with_reducible show _ = _); exact rfl) | ((with_reducible show (_ : Nat) < _); exact Nat.zero_lt_succ _) | ((with_reducible show (_ : Nat) ≤ _); exact Nat.le_of_ble_eq_true rfl) | ((with_reducible show Exists _); refine exU8 ?_) | ((with_reducible show callX _ _ _ _ _); (first | refine call_p (sane_calls) (by kernel_rfl) rfl ?_ | refine call_p (q0) (by kernel_rfl) rfl ?_)) | ((fail_if_success (first | (with_reducible show LeG _ _) | (with_reducible show Lp _ _ _ _) | (with_reducible show Exists _) | (with_reducible show callX _ _ _ _ _) | (with_reducible show (_ : Int) ≤ _) | (with_reducible show (_ : Int) < _) | (with_reducible show (_ : Nat) ≤ _) | (with_reducible show (_ : Nat) < _))); (conv => whnf) <;> (first | exact OkR.mk (by kernel_rfl) | exact OkC.mk (by kernel_rfl) | refine Sq.pr ?_ | refine Br.dec (fun hc => ?_) (fun hc => ?_) | refine Br.tt ?_ | refine Br.ff ?_ | refine Br.not ?_ | refine Br.mk (fun hc => ?_) (fun hc => ?_) | refine Opt.nn ?_ | refine Opt.ss ?_ | refine AltA.l ?_ | exact PV.leL_nil | refine PV.leL_cons ?_ ?_ | refine And.intro ?_ ?_ | refine ix_map (fun x hx => ?_) | refine exU8 ?_ | refine nilc (fun hn => ?_) ?_ | refine call_p (sane_calls) (by kernel_rfl) rfl ?_ | refine call_p (q0) (by kernel_rfl) rfl ?_ | exact PV.le_refl _ | exact Nat.zero_lt_succ _ | exact Nat.le_of_ble_eq_true rfl | exact onesOf rfl | exact Or.inl rfl | exact noMem | exact onesOfP rfl | exact okAll rfl | exact okMap (fun _ => ⟨rfl, onesOfP rfl⟩) | exact nonz | refine imp0 (fun hpos => ?_) | refine fits_i64 ?_ ?_ | exact rfl | (with_reducible show LeG _ _) | (with_reducible show Lp _ _ _ _) | (with_reducible show Exists _) | (with_reducible show callX _ _ _ _ _)))) <;> (try (first | exact LeG.refl _ | omega | ((first | (with_reducible show (_ : Int) ≤ _) | (with_reducible show (_ : Int) < _) | (with_reducible show (_ : Nat) ≤ _) | (with_reducible show (_ : Nat) < _) | (with_reducible show ¬ _) | (with_reducible show (_ : Int) = _) | (with_reducible show (_ : Nat) = _)); (simp only [List.length_map, List.length_append, List.length_cons, List.length_nil, List.length_replicate, List.length_take, List.length_drop, List.length_set, Int.toNat_natCast, Int.reduceToNat] <;> omega)) | exact of_decide_eq_true rfl))
  | true =>
    rw [hf] at q0
    have hl6 := fewB_len hf
    have hl30 : l.length ≤ 30 ∧ chkA l = 0 := by
      unfold fewB at hf
      rw [Bool.and_eq_true] at hf
      exact ⟨of_decide_eq_true hf.1, of_decide_eq_true hf.2⟩
    obtain ⟨_, hr, hs⟩ := chkA_srt hl30.2
    have hTM : TM = 1099511627775 := rfl
    by_cases hb : argB n t k = true
    · have q1 := Standing_calls l n t k hl6
      unfold standA at q1
      rw [if_pos hl30.2, if_pos hb, ← stF_eq l n t k hs] at q1
      unfold argB inB at hb
      simp only [Bool.and_eq_true, decide_eq_true_eq] at hb
      exact last_walk l n t k hl30.1 hr hs (by omega) (by omega) (by omega) q0 q1
    · refine PCalls.of (N := 164) (res := [.tmp 8]) mixed Try.func5 rfl rfl rfl (by kernel_rfl) (by simp) [0, 1, 2, 3, 8, 9, 10, 11, 13, 14, 15, 16, 17, 19, 20, 21, 23, 50, 60, 62, 63, 64, 65, 88, 108, 114, 116, 121, 124, 125, 126, 127, 158] ?_
      repeat' (first | ((with_reducible show _ = _); exact rfl) | ((with_reducible show (_ : Nat) < _); exact Nat.zero_lt_succ _) | ((with_reducible show (_ : Nat) ≤ _); exact Nat.le_of_ble_eq_true rfl) | ((with_reducible show Exists _); refine exU8 ?_) | ((with_reducible show callX _ _ _ _ _); (first | refine call_p (sane_calls) (by kernel_rfl) rfl ?_ | refine call_p (q0) (by kernel_rfl) rfl ?_)) | ((fail_if_success (first | (with_reducible show LeG _ _) | (with_reducible show Lp _ _ _ _) | (with_reducible show Exists _) | (with_reducible show callX _ _ _ _ _) | (with_reducible show (_ : Int) ≤ _) | (with_reducible show (_ : Int) < _) | (with_reducible show (_ : Nat) ≤ _) | (with_reducible show (_ : Nat) < _))); (conv => whnf) <;> (first | exact OkR.mk (by kernel_rfl) | exact OkC.mk (by kernel_rfl) | refine Sq.pr ?_ | refine Br.dec (fun hc => ?_) (fun hc => ?_) | refine Br.tt ?_ | refine Br.ff ?_ | refine Br.not ?_ | refine Br.mk (fun hc => ?_) (fun hc => ?_) | refine Opt.nn ?_ | refine Opt.ss ?_ | refine AltA.l ?_ | exact PV.leL_nil | refine PV.leL_cons ?_ ?_ | refine And.intro ?_ ?_ | refine ix_map (fun x hx => ?_) | refine exU8 ?_ | refine nilc (fun hn => ?_) ?_ | refine call_p (sane_calls) (by kernel_rfl) rfl ?_ | refine call_p (q0) (by kernel_rfl) rfl ?_ | exact PV.le_refl _ | exact Nat.zero_lt_succ _ | exact Nat.le_of_ble_eq_true rfl | exact onesOf rfl | exact Or.inl rfl | exact noMem | exact onesOfP rfl | exact okAll rfl | exact okMap (fun _ => ⟨rfl, onesOfP rfl⟩) | exact nonz | refine imp0 (fun hpos => ?_) | refine fits_i64 ?_ ?_ | exact rfl | (with_reducible show LeG _ _) | (with_reducible show Lp _ _ _ _) | (with_reducible show Exists _) | (with_reducible show callX _ _ _ _ _)))) <;> (try (first | exact LeG.refl _ | omega | ((first | (with_reducible show (_ : Int) ≤ _) | (with_reducible show (_ : Int) < _) | (with_reducible show (_ : Nat) ≤ _) | (with_reducible show (_ : Nat) < _) | (with_reducible show ¬ _) | (with_reducible show (_ : Int) = _) | (with_reducible show (_ : Nat) = _)); (simp only [List.length_map, List.length_append, List.length_cons, List.length_nil, List.length_replicate, List.length_take, List.length_drop, List.length_set, Int.toNat_natCast, Int.reduceToNat] <;> omega)) | exact of_decide_eq_true rfl))
      all_goals (
        exfalso
        refine hb ?_
        unfold argB inB
        simp only [Bool.and_eq_true, decide_eq_true_eq]
        refine ⟨?_, ?_, ?_⟩ <;> refine ⟨?_, ?_⟩ <;> omega)
end Go.Proofs.Ytjpmjhgephlcpaa

namespace Go.Proofs.Ytjpmjhgephlcpaa
open Go Go.Sg
set_option maxRecDepth 100000
/-! ### No budget is exceeded, plainly -/
structure Qs where
  aft : Int
  kind : Int
  val : Int
def matK (b : Bg) (x : Us) : Bool := decide (b.kind = -1) || decide (b.kind = x.kind)
def perP (b : Bg) (p : Int) (x : Us) : Bool := matK b x && decide (x.tm.tdiv b.per = p)
def cntP (b : Bg) (p : Int) (u : List Us) : Int := ((u.filter (perP b p)).length : Int)
def sumP (b : Bg) (p : Int) (u : List Us) : Int := sumV (u.filter (perP b p))
def goodI (l : List Bg) (u : List Us) : Prop := ∀ b ∈ l, stB l 0 0 b = true → ∀ p, cntP b p u ≤ b.cnt ∧ sumP b p u ≤ b.val
/-- All budgets are there from the start. -/
def zeroT (l : List Bg) : Prop := ∀ x ∈ l, x.tm = 0 ∧ x.known = 0
theorem cntA_zero {l : List Bg} {t : Int} (hz : zeroT l) (ht : 0 ≤ t) {x : Bg} (hx : x ∈ l) : cntA t t x = true := by
  obtain ⟨h1, h2⟩ := hz x hx
  simp [cntA, h1, h2, ht]
theorem stB_zero {l : List Bg} {t : Int} (hz : zeroT l) (ht : 0 ≤ t) {x : Bg} (hx : x ∈ l) : stB l t t x = stB l 0 0 x := by
  unfold stB
  rw [cntA_zero hz ht hx, cntA_zero hz (Int.le_refl 0) hx]
  congr 2
  rw [Bool.eq_iff_iff, List.any_eq_true, List.any_eq_true]
  constructor
  · rintro ⟨z, hz1, h⟩
    refine ⟨z, hz1, ?_⟩
    unfold badB at *
    rw [cntA_zero hz (Int.le_refl 0) hz1]
    rw [cntA_zero hz ht hz1] at h
    exact h
  · rintro ⟨z, hz1, h⟩
    refine ⟨z, hz1, ?_⟩
    unfold badB at *
    rw [cntA_zero hz ht hz1]
    rw [cntA_zero hz (Int.le_refl 0) hz1] at h
    exact h
theorem mem_stA {l : List Bg} {n t : Int} (hz : zeroT l) (ht : 0 ≤ t) {b : Bg} : b ∈ stA l n t t ↔ b ∈ l ∧ forK n b = true ∧ stB l 0 0 b = true := by
  unfold stA
  rw [List.mem_filter, Bool.and_eq_true]
  constructor
  · rintro ⟨h1, h2, h3⟩; rw [stB_zero hz ht h1] at h3; exact ⟨h1, h2, h3⟩
  · rintro ⟨h1, h2, h3⟩; rw [← stB_zero hz ht h1] at h3; exact ⟨h1, h2, h3⟩
structure Inv (l : List Bg) (i : Nat) (t : Int) (u : List Us) : Prop where
  t0 : 0 ≤ t
  t1 : t ≤ 65535 * (i : Int)
  len : u.length ≤ i
  us : ∀ x ∈ u, rU x = true ∧ x.doc < (i : Int) ∧ x.tm ≤ t ∧ x.known ≤ t ∧ x.val ≤ 255
  nd : (u.map Us.doc).Nodup
  good : goodI l u
theorem Inv.us_ok {l : List Bg} {i : Nat} {t : Int} {u : List Us} (h : Inv l i t u) : usB u = true := by
  unfold usB
  rw [Bool.and_eq_true]
  exact ⟨List.all_eq_true.2 fun x hx => (h.us x hx).1, decide_eq_true h.nd⟩
theorem Inv.zero {l : List Bg} (hr : ∀ x ∈ l, rightA x = true) : Inv l 0 0 [] := by
  refine ⟨Int.le_refl _, by simp, Nat.le_refl _, by simp, by simp, fun b hb hs p => ?_⟩
  have h := hr b hb
  have hg : b.gone = false := by
    unfold stB at hs
    simp only [Bool.and_eq_true, Bool.not_eq_true'] at hs
    exact hs.1.1
  simp [rightA, inB, hg] at h
  simp [cntP, sumP, sumV]
  omega
theorem Inv.more {l : List Bg} {i : Nat} {t t' : Int} {u : List Us} (h : Inv l i t u) (h1 : t ≤ t') (h2 : t' ≤ 65535 * ((i + 1 : Nat) : Int)) : Inv l (i + 1) t' u := by
  have := h.t0
  refine ⟨by omega, h2, by have := h.len; omega, fun x hx => ?_, h.nd, h.good⟩
  obtain ⟨a, b, c, d, e⟩ := h.us x hx
  exact ⟨a, by omega, by omega, by omega, e⟩
theorem Inv.put {l : List Bg} {i : Nat} {t t' kd v : Int} {u : List Us} (h : Inv l i t u) (hz : zeroT l) (hi : i < 40) (h1 : t ≤ t') (h2 : t' ≤ 65535 * ((i + 1 : Nat) : Int)) (hk : 0 ≤ kd ∧ kd ≤ 15) (hv : 0 ≤ v ∧ v ≤ 255)
    (hroom : (stA l kd t' t').find? (overB u v t' t') = none) : Inv l (i + 1) t' (u ++ [⟨i, kd, v, t', t'⟩]) := by
  have ht0 := h.t0
  have hm := h.more h1 h2
  refine ⟨by omega, h2, by have := h.len; simp; omega, fun x hx => ?_, ?_, fun b hb hs p => ?_⟩
  · rcases List.mem_append.1 hx with hx | hx
    · exact hm.us x hx
    · simp at hx; subst hx
      refine ⟨?_, by simp; omega, Int.le_refl _, Int.le_refl _, hv.2⟩
      have hTM : TM = 1099511627775 := rfl
      simp [rU, inB]
      omega
  · rw [List.map_append, List.nodup_append]
    refine ⟨h.nd, by simp, fun a ha c hc => ?_⟩
    simp at hc; subst hc
    obtain ⟨y, hy, rfl⟩ := List.mem_map.1 ha
    have := (h.us y hy).2.1
    omega
  · have hold := h.good b hb hs p
    have e : (u ++ [(⟨i, kd, v, t', t'⟩ : Us)]).filter (perP b p) = u.filter (perP b p) ++ if perP b p ⟨i, kd, v, t', t'⟩ then [(⟨i, kd, v, t', t'⟩ : Us)] else [] := by
      rw [List.filter_append]
      congr 1
      simp only [List.filter_cons, List.filter_nil]
    unfold cntP sumP
    rw [e]
    cases hp : perP b p ⟨i, kd, v, t', t'⟩ with
    | false =>
      unfold cntP sumP at hold
      simpa using hold
    | true =>
      unfold perP matK at hp
      simp only [Bool.and_eq_true, Bool.or_eq_true, decide_eq_true_eq] at hp
      have hbs : b ∈ stA l kd t' t' := (mem_stA hz (by omega)).2 ⟨hb, by simp [forK, hp.1], hs⟩
      have ho := List.find?_eq_none.1 hroom b hbs
      have hf : u.filter (perB b t' t') = u.filter (perP b p) := by
        refine List.filter_congr fun x hx => ?_
        have hk := (hm.us x hx).2.2.2.1
        unfold perB perP matK
        rw [decide_eq_true hk, hp.2]; simp
      unfold overB at ho
      rw [hf] at ho
      simp only [Bool.or_eq_true, decide_eq_true_eq, not_or, Int.not_lt] at ho
      simp only [if_true, List.length_append, List.length_singleton, sumV, List.map_append, List.sum_append, List.map_cons, List.map_nil, List.sum_cons, List.sum_nil]
      unfold sumV at ho
      omega
theorem room_find {l : List Bg} {u : List Us} {n v t : Int} (hz : chkA l = 0) (hul : u.length ≤ 4096) (hus : usB u = true) (ha : argR n v t t = true) : roomA l u n v t t = resP (overB u v t t) (stA l n t t) := by
  unfold roomA
  rw [if_pos hz, if_pos hul, if_pos hus, if_pos ha]; rfl
theorem res_no {p : Bg → Bool} {S : List Bg} (h : ∀ b ∈ S, 0 ≤ b.no) : (resP p S).2.1 = decide ((resP p S).1 = -1) := by
  unfold resP
  cases hf : S.find? p with
  | none => rfl
  | some b =>
    have := h b (List.mem_of_find?_eq_some hf)
    show false = decide (b.no = -1)
    rw [decide_eq_false (by omega)]
theorem res_ok {p : Bg → Bool} {S : List Bg} (h : (resP p S).2.1 = true) : S.find? p = none := by
  unfold resP at h
  cases hf : S.find? p with
  | none => rfl
  | some b => rw [hf] at h; cases h
/-! ### The two maps -/
abbrev Mi := List (Int × Int)
def addN (m : Mi) (p d : Int) : Mi := aput p ((aget p m).getD 0 + d) m
def manyF (b : Bg) (u : List Us) : Mi := u.foldl (fun m x => if matK b x then addN m (x.tm.tdiv b.per) 1 else m) []
def sumF (b : Bg) (u : List Us) : Mi := u.foldl (fun m x => if matK b x then addN m (x.tm.tdiv b.per) x.val else m) []
theorem manyF_take {b : Bg} {u : List Us} {i : Nat} {x : Us} (h : u[i]? = some x) : manyF b (u.take (i + 1)) = if matK b x then addN (manyF b (u.take i)) (x.tm.tdiv b.per) 1 else manyF b (u.take i) := by
  unfold manyF; rw [List.take_add_one, h]; simp [List.foldl_append]
theorem sumF_take {b : Bg} {u : List Us} {i : Nat} {x : Us} (h : u[i]? = some x) : sumF b (u.take (i + 1)) = if matK b x then addN (sumF b (u.take i)) (x.tm.tdiv b.per) x.val else sumF b (u.take i) := by
  unfold sumF; rw [List.take_add_one, h]; simp [List.foldl_append]
theorem getD_add (m : Mi) (p q d : Int) : (aget q (addN m p d)).getD 0 = (aget q m).getD 0 + if q = p then d else 0 := by
  unfold addN
  rw [aget_put]
  split
  · rename_i e; subst e; rfl
  · simp
theorem many_get (b : Bg) (u : List Us) : ∀ i p, (aget p (manyF b (u.take i))).getD 0 = cntP b p (u.take i) := by
  intro i
  induction i with
  | zero => intro p; rfl
  | succ i ih =>
    intro p
    cases hx : u[i]? with
    | none => rw [List.take_add_one, hx]; simpa using ih p
    | some x =>
      rw [manyF_take hx, cntP, filter_take (perP b p) hx]
      have e : perP b p x = (matK b x && decide (x.tm.tdiv b.per = p)) := rfl
      cases hm : matK b x with
      | false => rw [e, hm]; simpa [cntP] using ih p
      | true =>
        rw [e, hm, if_pos rfl, getD_add, ih]
        by_cases hp : x.tm.tdiv b.per = p
        · simp [hp, cntP]
        · rw [if_neg (fun h => hp h.symm)]; simp [hp, cntP]
theorem sum_get (b : Bg) (u : List Us) : ∀ i p, (aget p (sumF b (u.take i))).getD 0 = sumP b p (u.take i) := by
  intro i
  induction i with
  | zero => intro p; rfl
  | succ i ih =>
    intro p
    cases hx : u[i]? with
    | none => rw [List.take_add_one, hx]; simpa using ih p
    | some x =>
      rw [sumF_take hx, sumP, filter_take (perP b p) hx]
      have e : perP b p x = (matK b x && decide (x.tm.tdiv b.per = p)) := rfl
      cases hm : matK b x with
      | false => rw [e, hm]; simpa [sumP] using ih p
      | true =>
        rw [e, hm, if_pos rfl, getD_add, ih]
        by_cases hp : x.tm.tdiv b.per = p
        · simp [hp, sumP, sumV]
        · rw [if_neg (fun h => hp h.symm)]; simp [hp, sumP]
theorem many_nodup (b : Bg) (u : List Us) : ((manyF b u).map Prod.fst).Nodup := by
  have key : ∀ i, ((manyF b (u.take i)).map Prod.fst).Nodup := by
    intro i
    induction i with
    | zero => simp [manyF]
    | succ i ih =>
      cases hx : u[i]? with
      | none => rw [List.take_add_one, hx]; simpa using ih
      | some x =>
        rw [manyF_take hx]
        split
        · exact aput_nodup ih
        · exact ih
  have := key u.length
  rwa [List.take_length] at this
theorem cntP_bd (b : Bg) (p : Int) (u : List Us) : 0 ≤ cntP b p u ∧ cntP b p u ≤ (u.length : Int) := by
  have := List.length_filter_le (perP b p) u
  unfold cntP; omega
theorem sumV_bd8 : ∀ {u : List Us}, (∀ x ∈ u, 0 ≤ x.val ∧ x.val ≤ 255) → 0 ≤ sumV u ∧ sumV u ≤ 255 * (u.length : Int)
  | [], _ => by simp [sumV]
  | x :: r, h => by
    have h1 := h x (by simp)
    have h2 := sumV_bd8 (u := r) fun y hy => h y (by simp [hy])
    unfold sumV at *
    simp only [List.map_cons, List.sum_cons, List.length_cons]
    omega
theorem sumP_bd {b : Bg} {p : Int} {u : List Us} (h : ∀ x ∈ u, 0 ≤ x.val ∧ x.val ≤ 255) : 0 ≤ sumP b p u ∧ sumP b p u ≤ 255 * (u.length : Int) := by
  have h1 := sumV_bd8 (u := u.filter (perP b p)) fun x hx => h x (List.mem_filter.1 hx).1
  have h2 := List.length_filter_le (perP b p) u
  unfold sumP; omega
end Go.Proofs.Ytjpmjhgephlcpaa

namespace Go.Proofs.Ytjpmjhgephlcpaa
open Go Go.Sg
set_option maxRecDepth 100000
set_option maxHeartbeats 40000000
/-! ### What does not matter, plainly -/
def matB (t : Int) (x : Us) (b : Bg) : Bool := (decide (b.kind = -1) || decide (b.kind = x.kind)) && decide (x.tm.tdiv b.per = t.tdiv b.per)
def ownP (S : List Bg) (t k : Int) (x : Us) : Bool := S.any (matB t x) && decide (x.known ≤ k)
theorem perB_mat (b : Bg) (t k : Int) (x : Us) : perB b t k x = (decide (x.known ≤ k) && matB t x b) := by
  unfold perB matB; rw [Bool.and_assoc]
theorem own_filter {S : List Bg} {u : List Us} {t k : Int} {b : Bg} (hb : b ∈ S) : (u.filter (ownP S t k)).filter (perB b t k) = u.filter (perB b t k) := by
  rw [List.filter_filter]
  refine List.filter_congr fun x _ => ?_
  cases h : perB b t k x with
  | false => rfl
  | true =>
    rw [perB_mat, Bool.and_eq_true] at h
    have : S.any (matB t x) = true := List.any_eq_true.2 ⟨b, hb, h.2⟩
    simp [ownP, this, h.1]
theorem over_comm (A B : List Us) (v t k : Int) (b : Bg) : overB (B ++ A) v t k b = overB (A ++ B) v t k b := by
  unfold overB sumV
  simp only [List.filter_append, List.length_append, List.map_append, List.sum_append]
  congr 2 <;> (apply propext; omega)
theorem over_own {S : List Bg} {u A B : List Us} {v t k : Int} {b : Bg} (hb : b ∈ S) (h : u.filter (ownP S t k) = A ++ B) : overB (B ++ A) v t k b = overB u v t k b := by
  rw [over_comm, ← h]
  unfold overB
  rw [own_filter hb]
theorem res_congr {p q : Bg → Bool} {S : List Bg} (h : ∀ b ∈ S, p b = q b) : resP p S = resP q S := by
  have : S.find? p = S.find? q := by
    induction S with
    | nil => rfl
    | cons a r ih =>
      simp only [List.find?_cons]
      rw [h a List.mem_cons_self, ih fun b hb => h b (List.mem_cons_of_mem _ hb)]
  unfold resP; rw [this]
theorem usB_own {S : List Bg} {u A B : List Us} {t k : Int} (hu : usB u = true) (h : u.filter (ownP S t k) = A ++ B) : usB (B ++ A) = true := by
  unfold usB at *
  rw [Bool.and_eq_true] at *
  obtain ⟨h1, h2⟩ := hu
  have h2 := of_decide_eq_true h2
  have h3 : (A ++ B).all rU = true := by
    rw [← h, List.all_eq_true]
    intro x hx
    exact List.all_eq_true.1 h1 x (List.mem_filter.1 hx).1
  refine ⟨?_, decide_eq_true ?_⟩
  · rw [List.all_append, Bool.and_comm, ← List.all_append]; exact h3
  · have h4 : ((A ++ B).map Us.doc).Nodup := by rw [← h]; exact h2.sublist (List.Sublist.map _ List.filter_sublist)
    exact ((List.perm_append_comm (l₁ := B) (l₂ := A)).map Us.doc).nodup_iff.2 h4
def earB (k : Int) (y : Bg) : Bool := decide (y.known ≤ k)
theorem ear_chk {l : List Bg} {k : Int} (hz : chkA l = 0) : chkA (l.filter (earB k)) = 0 := by
  obtain ⟨h1, h2, h3⟩ := chkA_srt hz
  have hl := List.length_filter_le (earB k) l
  refine chkL_ok rightA Bg.no (by omega) ((okFrom_iff rightA Bg.no _ _).2 ⟨fun x hx => ⟨h2 x (List.mem_filter.1 hx).1, ?_⟩, h3.filter _⟩)
  have := rightA_no (h2 x (List.mem_filter.1 hx).1)
  omega
theorem ear_st (l : List Bg) (n t k : Int) : stA (l.filter (earB k)) n t k = stA l n t k := by
  have hst : ∀ y, stB (l.filter (earB k)) t k y = stB l t k y := fun y => by
    unfold stB
    congr 2
    rw [List.any_filter]
    congr 1
    funext z
    cases h : badB t k y z with
    | false => simp
    | true =>
      have : earB k z = true := by
        simp only [badB, cntA, Bool.and_eq_true, decide_eq_true_eq] at h
        simp [earB, h.2.1.2]
      rw [this]; rfl
  unfold stA
  rw [List.filter_filter]
  refine List.filter_congr fun y _ => ?_
  rw [hst]
  cases h : stB l t k y with
  | false => simp
  | true =>
    have : earB k y = true := by
      simp only [stB, cntA, Bool.and_eq_true, decide_eq_true_eq] at h
      simp [earB, h.1.2.2]
    rw [this]; simp
theorem room_others {l : List Bg} {u A B : List Us} {n v t k : Int} (hf : fewB l = true) (hul : u.length ≤ 30) (hus : usB u = true) (ha : argR n v t k = true) (h : u.filter (ownP (stA l n t k) t k) = A ++ B) :
    roomA (l.filter (earB k)) (B ++ A) n v t k = roomA l u n v t k := by
  have hz : chkA l = 0 := by
    unfold fewB at hf
    rw [Bool.and_eq_true] at hf
    exact of_decide_eq_true hf.2
  have hln : (B ++ A).length ≤ 30 := by
    have h1 := congrArg List.length h
    have h2 := List.length_filter_le (ownP (stA l n t k) t k) u
    simp only [List.length_append] at *
    omega
  rw [roomA_right hf hul hus, ha]
  unfold roomA
  rw [if_pos (ear_chk hz), if_pos (by omega), if_pos (usB_own hus h), if_pos ha, if_pos rfl, ear_st, roomF_res, roomF_res]
  exact res_congr fun b hb => over_own hb h
end Go.Proofs.Ytjpmjhgephlcpaa
