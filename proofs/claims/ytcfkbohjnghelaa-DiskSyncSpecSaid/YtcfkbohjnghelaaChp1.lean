/- A part of the proof: contracts of the functions that the statement reaches. -/
import Derived.Test.YtcfkbohjnghelaaChp0
import Derived.Test.YtcfkbohjnghelaaRows
set_option linter.unusedSimpArgs false
set_option linter.unusedVariables false
set_option linter.unnecessarySimpa false
namespace Go.Proofs.Ytcfkbohjnghelaa
open Go Go.Sg
set_option maxRecDepth 100000
set_option maxHeartbeats 4000000
theorem rsync_calls (d : Dk) (h1 : d.secs.length < 1000000) (h2 : d.pend.length < 1000000) : PCalls Try.prog 24 [eD d] (eR (syncD d)) := by
  cases hd : okD d with
  | false =>
    refine PCalls.of (N := 95) (res := [.cell 2 25, .tmp 3]) mixed Try.func24 rfl rfl rfl (by kernel_rfl) (by simp) [0, 1, 2, 3, 4, 5, 6, 7, 8, 15, 29, 41, 59, 88] ?_
    repeat' (first | ((with_reducible show _ = _); exact rfl) | ((with_reducible show (_ : Nat) < _); exact Nat.zero_lt_succ _) | ((with_reducible show (_ : Nat) ≤ _); exact Nat.le_of_ble_eq_true rfl) | ((with_reducible show Exists _); refine exU8 ?_) | ((with_reducible show callX _ _ _ _ _); (first | refine call_p (rchk_no hd h1 h2) (by kernel_rfl) rfl ?_)) | ((fail_if_success (first | (with_reducible show LeG _ _) | (with_reducible show Lp _ _ _ _) | (with_reducible show Exists _) | (with_reducible show callX _ _ _ _ _) | (with_reducible show (_ : Int) ≤ _) | (with_reducible show (_ : Int) < _) | (with_reducible show (_ : Nat) ≤ _) | (with_reducible show (_ : Nat) < _))); (conv => whnf) <;> (first | exact OkR.mk (by kernel_rfl) | refine Sq.pr ?_ | refine Br.dec (fun hc => ?_) (fun hc => ?_) | refine Br.tt ?_ | refine Br.ff ?_ | refine Br.not ?_ | refine Br.mk (fun hc => ?_) (fun hc => ?_) | refine Opt.nn ?_ | refine Opt.ss ?_ | exact PV.leL_nil | refine PV.leL_cons ?_ ?_ | refine And.intro ?_ ?_ | refine ix_map (fun x hx => ?_) | refine exU8 ?_ | refine nilc (fun hn => ?_) ?_ | refine call_p (rchk_no hd h1 h2) (by kernel_rfl) rfl ?_ | exact PV.le_refl _ | exact Nat.zero_lt_succ _ | exact Nat.le_of_ble_eq_true rfl | exact onesOf rfl | exact Or.inl rfl | exact noMem | exact onesOfP rfl | exact okAll rfl | exact okMap (fun _ => ⟨rfl, onesOfP rfl⟩) | exact nonz | refine imp0 (fun hpos => ?_) | refine fits_i64 ?_ ?_ | exact rfl | (with_reducible show LeG _ _) | (with_reducible show Lp _ _ _ _) | (with_reducible show Exists _) | (with_reducible show callX _ _ _ _ _)))) <;> (try (first | exact LeG.refl _ | omega | ((first | (with_reducible show (_ : Int) ≤ _) | (with_reducible show (_ : Int) < _) | (with_reducible show (_ : Nat) ≤ _) | (with_reducible show (_ : Nat) < _) | (with_reducible show ¬ _) | (with_reducible show (_ : Int) = _) | (with_reducible show (_ : Nat) = _)); (simp only [List.length_map, List.length_append, List.length_cons, List.length_nil, List.length_replicate, List.length_take, List.length_drop, List.length_set, Int.toNat_natCast, Int.reduceToNat] <;> omega)) | exact of_decide_eq_true rfl))
    ((all_goals (try simp only [syncD, runD, hd, *, ↓reduceIte, Bool.false_eq_true, Bool.not_true, Bool.not_false, Bool.and_true, Bool.true_and, Bool.and_false, Bool.false_and, List.nil_append, List.drop_zero, Nat.zero_add, List.take_length, Int.toNat_natCast, Int.toNat_zero, List.append_nil]))); ((all_goals (try refine LeG.mk ?_)); (repeat' (first | exact PV.le_refl _ | exact PV.le_nil _ _ _ | exact PV.le_clip _ _ _ | exact PV.le_nilF _ _ _ | refine PV.le_agg ?_ | refine PV.le_tup ?_ | exact PV.leL_nil | refine PV.leL_cons ?_ ?_ | refine PV.le_of ?_ | rfl)))
  | true =>
    obtain ⟨⟨k1, k2⟩, k3, k4, k5, k6⟩ := okD_spec hd
    refine PCalls.of (N := 95) (res := [.cell 2 25, .tmp 3]) mixed Try.func24 rfl rfl rfl (by kernel_rfl) (by simp) [0, 1, 2, 3, 4, 5, 6, 7, 8, 15, 29, 41, 59, 88] ?_
    repeat' (first | ((with_reducible show _ = _); exact rfl) | ((with_reducible show (_ : Nat) < _); exact Nat.zero_lt_succ _) | ((with_reducible show (_ : Nat) ≤ _); exact Nat.le_of_ble_eq_true rfl) | ((with_reducible show Exists _); refine exU8 ?_) | ((with_reducible show callX _ _ _ _ _); (first | refine call_p (rchk_ok hd h1 h2) (by kernel_rfl) rfl ?_)) | ((fail_if_success (first | (with_reducible show LeG _ _) | (with_reducible show Lp _ _ _ _) | (with_reducible show Exists _) | (with_reducible show callX _ _ _ _ _) | (with_reducible show (_ : Int) ≤ _) | (with_reducible show (_ : Int) < _) | (with_reducible show (_ : Nat) ≤ _) | (with_reducible show (_ : Nat) < _))); (conv => whnf) <;> (first | exact OkR.mk (by kernel_rfl) | refine Sq.pr ?_ | refine Br.dec (fun hc => ?_) (fun hc => ?_) | refine Br.tt ?_ | refine Br.ff ?_ | refine Br.not ?_ | refine Br.mk (fun hc => ?_) (fun hc => ?_) | refine Opt.nn ?_ | refine Opt.ss ?_ | exact PV.leL_nil | refine PV.leL_cons ?_ ?_ | refine And.intro ?_ ?_ | refine ix_map (fun x hx => ?_) | refine exU8 ?_ | refine nilc (fun hn => ?_) ?_ | refine call_p (rchk_ok hd h1 h2) (by kernel_rfl) rfl ?_ | exact PV.le_refl _ | exact Nat.zero_lt_succ _ | exact Nat.le_of_ble_eq_true rfl | exact onesOf rfl | exact Or.inl rfl | exact noMem | exact onesOfP rfl | exact okAll rfl | exact okMap (fun _ => ⟨rfl, onesOfP rfl⟩) | exact nonz | refine imp0 (fun hpos => ?_) | refine fits_i64 ?_ ?_ | exact rfl | (with_reducible show LeG _ _) | (with_reducible show Lp _ _ _ _) | (with_reducible show Exists _) | (with_reducible show callX _ _ _ _ _)))) <;> (try (first | exact LeG.refl _ | omega | ((first | (with_reducible show (_ : Int) ≤ _) | (with_reducible show (_ : Int) < _) | (with_reducible show (_ : Nat) ≤ _) | (with_reducible show (_ : Nat) < _) | (with_reducible show ¬ _) | (with_reducible show (_ : Int) = _) | (with_reducible show (_ : Nat) = _)); (simp only [List.length_map, List.length_append, List.length_cons, List.length_nil, List.length_replicate, List.length_take, List.length_drop, List.length_set, Int.toNat_natCast, Int.reduceToNat] <;> omega)) | exact of_decide_eq_true rfl))
    · ((all_goals (try simp only [syncD, runD, hd, *, ↓reduceIte, Bool.false_eq_true, Bool.not_true, Bool.not_false, Bool.and_true, Bool.true_and, Bool.and_false, Bool.false_and, List.nil_append, List.drop_zero, Nat.zero_add, List.take_length, Int.toNat_natCast, Int.toNat_zero, List.append_nil]))); ((all_goals (try refine LeG.mk ?_)); (repeat' (first | exact PV.le_refl _ | exact PV.le_nil _ _ _ | exact PV.le_clip _ _ _ | exact PV.le_nilF _ _ _ | refine PV.le_agg ?_ | refine PV.le_tup ?_ | exact PV.leL_nil | refine PV.leL_cons ?_ ?_ | refine PV.le_of ?_ | rfl)))
    · refine Wpc.loopA (α := {i : Nat // i ≤ d.left.toNat}) mixed [0, 1, 2, 3, 4, 5, 6, 7, 8, 15, 29, 41, 59, 88] (fun i => [(7, .p (eI i.1))]) (fun i => [(1984, .row 1 ((perf d.secs (d.pend.take i.1)).map eB))]) (fun _ => 0) (fun i => d.left.toNat - i.1) ⟨0, by omega⟩ ?_ ?_
      · (first | refine Ent.ofA [] ?_ | refine Ent.ofC [] ?_) <;> (repeat' (first | exact trivial | refine HpLe.mk rfl (by simp) rfl (fun h => AObj.noConfusion h) ?_ ?_ | refine And.intro ?_ ?_ | exact VLe.refl _ | exact VLe.msl rfl | exact VLe.rsl rfl | exact VLe.csl rfl | exact VLe.cslr rfl | exact VLe.mp rfl | exact VLe.eptr rfl | exact VLe.ptr rfl | exact VLe.any _ | refine VLe.pe ?_ | refine VLe.agg ?_ | refine VLeL.cons ?_ ?_ | exact VLeL.nil | exact OLe.row _ _ | rfl | refine VLe.rsle rfl ?_ ?_ ?_ | refine OLe.rowe2 ?_ ?_ | refine OLe.mape ?_ ?_)) <;> try (first | (simp; done) | (congr 1; omega) | (congr 1; (first | (simp; done) | (simp; omega))))
      rintro ⟨i, hi⟩
      have hpl : ((perf d.secs (d.pend.take i)).map eB).length = d.secs.length := by rw [List.length_map, perf_len]
      repeat' (first | ((with_reducible show _ = _); exact rfl) | ((with_reducible show (_ : Nat) < _); exact Nat.zero_lt_succ _) | ((with_reducible show (_ : Nat) ≤ _); exact Nat.le_of_ble_eq_true rfl) | ((with_reducible show Exists _); refine exU8 ?_) | ((fail_if_success (first | (with_reducible show LeG _ _) | (with_reducible show Lp _ _ _ _) | (with_reducible show Exists _) | (with_reducible show callX _ _ _ _ _) | (with_reducible show (_ : Int) ≤ _) | (with_reducible show (_ : Int) < _) | (with_reducible show (_ : Nat) ≤ _) | (with_reducible show (_ : Nat) < _))); (conv => whnf) <;> (first | exact OkR.mk (by kernel_rfl) | refine Sq.pr ?_ | refine Br.dec (fun hc => ?_) (fun hc => ?_) | refine Br.tt ?_ | refine Br.ff ?_ | refine Br.not ?_ | refine Br.mk (fun hc => ?_) (fun hc => ?_) | refine Opt.nn ?_ | refine Opt.ss ?_ | exact PV.leL_nil | refine PV.leL_cons ?_ ?_ | refine And.intro ?_ ?_ | refine ix_map (fun x hx => ?_) | refine exU8 ?_ | refine nilc (fun hn => ?_) ?_ | exact PV.le_refl _ | exact Nat.zero_lt_succ _ | exact Nat.le_of_ble_eq_true rfl | exact onesOf rfl | exact Or.inl rfl | exact noMem | exact onesOfP rfl | exact okAll rfl | exact okMap (fun _ => ⟨rfl, onesOfP rfl⟩) | exact nonz | refine imp0 (fun hpos => ?_) | refine fits_i64 ?_ ?_ | exact rfl | (with_reducible show LeG _ _) | (with_reducible show Lp _ _ _ _) | (with_reducible show Exists _) | (with_reducible show callX _ _ _ _ _)))) <;> (try (first | exact LeG.refl _ | omega | ((first | (with_reducible show (_ : Int) ≤ _) | (with_reducible show (_ : Int) < _) | (with_reducible show (_ : Nat) ≤ _) | (with_reducible show (_ : Nat) < _) | (with_reducible show ¬ _) | (with_reducible show (_ : Int) = _) | (with_reducible show (_ : Nat) = _)); (simp only [List.length_map, List.length_append, List.length_cons, List.length_nil, List.length_replicate, List.length_take, List.length_drop, List.length_set, Int.toNat_natCast, Int.reduceToNat] <;> omega)) | exact of_decide_eq_true rfl))
      · rename_i w hw
        exact (k5 w (List.mem_of_getElem? hw)).1.1
      · rename_i w hw
        have := (k5 w (List.mem_of_getElem? hw)).1.2
        simp only [List.length_map, Nat.zero_add]; exact this
      · rename_i w hw
        have h := (k5 w (List.mem_of_getElem? hw)).1
        show 0 + w.pos.toNat < ((perf d.secs (d.pend.take i)).map eB).length
        omega
      · rename_i w hw
        have hw : d.pend[i]? = some w := hw
        have hx : d.pend[i]? = some _ := hx
        rw [hw] at hx; injection hx with hx; subst hx
        have h8 : i < d.left.toNat := by have hc : (i : Int) < d.left := by assumption
                                         omega
        refine ⟨⟨i + 1, h8⟩, by show d.left.toNat - (i + 1) < d.left.toNat - i; omega, ?_⟩
        (first | refine Ent.ofA [] ?_ | refine Ent.ofC [] ?_) <;> (repeat' (first | exact trivial | refine HpLe.mk rfl (by simp) rfl (fun h => AObj.noConfusion h) ?_ ?_ | refine And.intro ?_ ?_ | exact VLe.refl _ | exact VLe.msl rfl | exact VLe.rsl rfl | exact VLe.csl rfl | exact VLe.cslr rfl | exact VLe.mp rfl | exact VLe.eptr rfl | exact VLe.ptr rfl | exact VLe.any _ | refine VLe.pe ?_ | refine VLe.agg ?_ | refine VLeL.cons ?_ ?_ | exact VLeL.nil | exact OLe.row _ _ | rfl | refine VLe.rsle rfl ?_ ?_ ?_ | refine OLe.rowe2 ?_ ?_ | refine OLe.mape ?_ ?_)) <;> try (first | (simp; done) | (congr 1; omega) | (congr 1; (first | (simp; done) | (simp; omega))))
        show ((perf d.secs (d.pend.take i)).map eB).set (0 + w.pos.toNat) (eB w.data) = (perf d.secs (d.pend.take (i + 1))).map eB
        rw [perf_take _ _ _ _ hw, List.map_set, Nat.zero_add]
      · have := (k5 x (List.mem_of_getElem? hx)).2
        simp only [List.length_map, this]; decide
      · exact (k5 x (List.mem_of_getElem? hx)).1.1
      · have := (k5 x (List.mem_of_getElem? hx)).1.2
        simp only [List.length_map, Nat.zero_add]; exact this
      · have h := (k5 x (List.mem_of_getElem? hx)).1
        show 0 + x.pos.toNat < ((perf d.secs (d.pend.take i)).map eB).length
        omega
      · have h9 : x.length = 128 := perf_all (Q := fun b => b.length = 128) (d.pend.take i) d.secs k6 (fun w hw => (k5 w (List.mem_of_mem_take hw)).2) x (List.mem_of_getElem? hx)
        simp only [List.length_map, h9]; decide
      · rename_i w hw
        have h9 : x.length = 128 := perf_all (Q := fun b => b.length = 128) (d.pend.take i) d.secs k6 (fun w hw => (k5 w (List.mem_of_mem_take hw)).2) x (List.mem_of_getElem? hx)
        have h8 := (k5 w (List.mem_of_getElem? hw)).2
        simp [h9, h8]
      · rename_i w hw
        exact (k5 w (List.mem_of_getElem? hw)).1.1
      · rename_i w hw
        have := (k5 w (List.mem_of_getElem? hw)).1.2
        simp only [List.length_map, Nat.zero_add]; exact this
      · rename_i w hw
        have h := (k5 w (List.mem_of_getElem? hw)).1
        show 0 + w.pos.toNat < ((perf d.secs (d.pend.take i)).map eB).length
        omega
      · rename_i w hw
        show 0 + (0 + (d.secs.map eB).length) ≤ (((perf d.secs (d.pend.take i)).map eB).set _ _).length
        rw [List.length_set, hpl]; simp
      · rename_i w hw
        have h9 : x.length = 128 := perf_all (Q := fun b => b.length = 128) (d.pend.take i) d.secs k6 (fun w hw => (k5 w (List.mem_of_mem_take hw)).2) x (List.mem_of_getElem? hx)
        have h8 := (k5 w (List.mem_of_getElem? hw)).2
        have hst : d.stop = false := by assumption
        have h0 : 0 ≤ d.left := by assumption
        have hl : d.left < ((d.pend.map eW).length : Int) := by assumption
        have hi2 : i = d.left.toNat := by have hc : ¬ (i : Int) < d.left := by assumption
                                          omega
        subst hi2
        have hsd : syncD d = (⟨tornW (perf d.secs (d.pend.take d.left.toNat)) w, [], 0, true⟩, 40) := by
          unfold syncD runD
          rw [hd, hst]
          simp only [Bool.not_false, Bool.and_self, ↓reduceIte, if_pos h0, if_pos hl]
          simp [List.getD, hw]
        rw [hsd]
        ((all_goals (try simp only [*, ↓reduceIte, Bool.false_eq_true, Bool.not_true, Bool.not_false, Bool.and_true, Bool.true_and, Bool.and_false, Bool.false_and, List.nil_append, List.drop_zero, Nat.zero_add, List.take_length, Int.toNat_natCast, Int.toNat_zero, List.append_nil]))); ((all_goals (try refine LeG.mk ?_)); (repeat' (first | exact PV.le_refl _ | exact PV.le_nil _ _ _ | exact PV.le_clip _ _ _ | exact PV.le_nilF _ _ _ | refine PV.le_agg ?_ | refine PV.le_tup ?_ | exact PV.leL_nil | refine PV.leL_cons ?_ ?_ | refine PV.le_of ?_ | rfl)))
        show PV.sl 1 false _ = PV.sl 1 false ((tornW (perf d.secs (d.pend.take d.left.toNat)) w).map eB)
        rw [Nat.zero_add] at hx
        rw [List.take_of_length_le (by simp [perf_len])]
        unfold tornW
        have hx2 : (perf d.secs (d.pend.take d.left.toNat)).getD w.pos.toNat [] = x := by
          have hx2 : (perf d.secs (d.pend.take d.left.toNat))[w.pos.toNat]? = some x := hx
          simp [List.getD, hx2]
        rw [List.map_set, hx2]
        show PV.sl 1 false (List.set _ w.pos.toNat (PV.sl 1 false (List.take ((List.take 64 (w.data.map (PV.int .u8))).length + (List.drop 64 (x.map (PV.int .u8))).length) (List.take 64 (w.data.map (PV.int .u8)) ++ List.drop 64 (x.map (PV.int .u8)))))) = PV.sl 1 false (List.set _ w.pos.toNat (PV.sl 1 false (List.map (PV.int .u8) (w.data.take 64 ++ x.drop 64))))
        rw [List.take_of_length_le (l := List.take 64 (w.data.map (PV.int .u8)) ++ List.drop 64 (x.map (PV.int .u8))) (Nat.le_of_eq List.length_append), List.map_append, List.map_take, List.map_drop]
    · refine Wpc.loopA (α := {i : Nat // i ≤ d.pend.length}) mixed [0, 1, 2, 3, 4, 5, 6, 7, 8, 15, 29, 41, 59, 88] (fun i => [(7, .p (eI i.1))]) (fun i => [(1792, .row 1 ((perf d.secs (d.pend.take i.1)).map eB))]) (fun _ => 0) (fun i => d.pend.length - i.1) ⟨0, by omega⟩ ?_ ?_
      · (first | refine Ent.ofA [] ?_ | refine Ent.ofC [] ?_) <;> (repeat' (first | exact trivial | refine HpLe.mk rfl (by simp) rfl (fun h => AObj.noConfusion h) ?_ ?_ | refine And.intro ?_ ?_ | exact VLe.refl _ | exact VLe.msl rfl | exact VLe.rsl rfl | exact VLe.csl rfl | exact VLe.cslr rfl | exact VLe.mp rfl | exact VLe.eptr rfl | exact VLe.ptr rfl | exact VLe.any _ | refine VLe.pe ?_ | refine VLe.agg ?_ | refine VLeL.cons ?_ ?_ | exact VLeL.nil | exact OLe.row _ _ | rfl | refine VLe.rsle rfl ?_ ?_ ?_ | refine OLe.rowe2 ?_ ?_ | refine OLe.mape ?_ ?_)) <;> try (first | (simp; done) | (congr 1; omega) | (congr 1; (first | (simp; done) | (simp; omega))))
      rintro ⟨i, hi⟩
      have hpl : ((perf d.secs (d.pend.take i)).map eB).length = d.secs.length := by rw [List.length_map, perf_len]
      repeat' (first | ((with_reducible show _ = _); exact rfl) | ((with_reducible show (_ : Nat) < _); exact Nat.zero_lt_succ _) | ((with_reducible show (_ : Nat) ≤ _); exact Nat.le_of_ble_eq_true rfl) | ((with_reducible show Exists _); refine exU8 ?_) | ((fail_if_success (first | (with_reducible show LeG _ _) | (with_reducible show Lp _ _ _ _) | (with_reducible show Exists _) | (with_reducible show callX _ _ _ _ _) | (with_reducible show (_ : Int) ≤ _) | (with_reducible show (_ : Int) < _) | (with_reducible show (_ : Nat) ≤ _) | (with_reducible show (_ : Nat) < _))); (conv => whnf) <;> (first | exact OkR.mk (by kernel_rfl) | refine Sq.pr ?_ | refine Br.dec (fun hc => ?_) (fun hc => ?_) | refine Br.tt ?_ | refine Br.ff ?_ | refine Br.not ?_ | refine Br.mk (fun hc => ?_) (fun hc => ?_) | refine Opt.nn ?_ | refine Opt.ss ?_ | exact PV.leL_nil | refine PV.leL_cons ?_ ?_ | refine And.intro ?_ ?_ | refine ix_map (fun x hx => ?_) | refine exU8 ?_ | refine nilc (fun hn => ?_) ?_ | exact PV.le_refl _ | exact Nat.zero_lt_succ _ | exact Nat.le_of_ble_eq_true rfl | exact onesOf rfl | exact Or.inl rfl | exact noMem | exact onesOfP rfl | exact okAll rfl | exact okMap (fun _ => ⟨rfl, onesOfP rfl⟩) | exact nonz | refine imp0 (fun hpos => ?_) | refine fits_i64 ?_ ?_ | exact rfl | (with_reducible show LeG _ _) | (with_reducible show Lp _ _ _ _) | (with_reducible show Exists _) | (with_reducible show callX _ _ _ _ _)))) <;> (try (first | exact LeG.refl _ | omega | ((first | (with_reducible show (_ : Int) ≤ _) | (with_reducible show (_ : Int) < _) | (with_reducible show (_ : Nat) ≤ _) | (with_reducible show (_ : Nat) < _) | (with_reducible show ¬ _) | (with_reducible show (_ : Int) = _) | (with_reducible show (_ : Nat) = _)); (simp only [List.length_map, List.length_append, List.length_cons, List.length_nil, List.length_replicate, List.length_take, List.length_drop, List.length_set, Int.toNat_natCast, Int.reduceToNat] <;> omega)) | exact of_decide_eq_true rfl))
      · rename_i w hw
        exact (k5 w (List.mem_of_getElem? hw)).1.1
      · rename_i w hw
        have := (k5 w (List.mem_of_getElem? hw)).1.2
        simp only [List.length_map, Nat.zero_add]; exact this
      · rename_i w hw
        have h := (k5 w (List.mem_of_getElem? hw)).1
        show 0 + w.pos.toNat < ((perf d.secs (d.pend.take i)).map eB).length
        omega
      · rename_i w hw
        have hw : d.pend[i]? = some w := hw
        have hx : d.pend[i]? = some _ := hx
        rw [hw] at hx; injection hx with hx; subst hx
        have h8 : i < d.pend.length := by have hc : (i : Int) < ((d.pend.map eW).length : Int) := by assumption
                                          simp only [List.length_map] at hc; omega
        refine ⟨⟨i + 1, h8⟩, by show d.pend.length - (i + 1) < d.pend.length - i; omega, ?_⟩
        (first | refine Ent.ofA [] ?_ | refine Ent.ofC [] ?_) <;> (repeat' (first | exact trivial | refine HpLe.mk rfl (by simp) rfl (fun h => AObj.noConfusion h) ?_ ?_ | refine And.intro ?_ ?_ | exact VLe.refl _ | exact VLe.msl rfl | exact VLe.rsl rfl | exact VLe.csl rfl | exact VLe.cslr rfl | exact VLe.mp rfl | exact VLe.eptr rfl | exact VLe.ptr rfl | exact VLe.any _ | refine VLe.pe ?_ | refine VLe.agg ?_ | refine VLeL.cons ?_ ?_ | exact VLeL.nil | exact OLe.row _ _ | rfl | refine VLe.rsle rfl ?_ ?_ ?_ | refine OLe.rowe2 ?_ ?_ | refine OLe.mape ?_ ?_)) <;> try (first | (simp; done) | (congr 1; omega) | (congr 1; (first | (simp; done) | (simp; omega))))
        show ((perf d.secs (d.pend.take i)).map eB).set (0 + w.pos.toNat) (eB w.data) = (perf d.secs (d.pend.take (i + 1))).map eB
        rw [perf_take _ _ _ _ hw, List.map_set, Nat.zero_add]
      · show 0 + (0 + (d.secs.map eB).length) ≤ ((perf d.secs (d.pend.take i)).map eB).length
        rw [hpl]; simp
      · have hi2 : i = d.pend.length := by have hc : ¬ (i : Int) < ((d.pend.map eW).length : Int) := by assumption
                                           simp only [List.length_map] at hc; omega
        subst hi2
        ((all_goals (try simp only [syncD, runD, hd, *, ↓reduceIte, Bool.false_eq_true, Bool.not_true, Bool.not_false, Bool.and_true, Bool.true_and, Bool.and_false, Bool.false_and, List.nil_append, List.drop_zero, Nat.zero_add, List.take_length, Int.toNat_natCast, Int.toNat_zero, List.append_nil]))); ((all_goals (try refine LeG.mk ?_)); (repeat' (first | exact PV.le_refl _ | exact PV.le_nil _ _ _ | exact PV.le_clip _ _ _ | exact PV.le_nilF _ _ _ | refine PV.le_agg ?_ | refine PV.le_tup ?_ | exact PV.leL_nil | refine PV.leL_cons ?_ ?_ | refine PV.le_of ?_ | rfl)))
        show PV.sl 1 false _ = PV.sl 1 false ((perf d.secs d.pend).map eB)
        rw [List.take_of_length_le (by simp [perf_len])]
    · refine Wpc.loopA (α := {i : Nat // i ≤ d.pend.length}) mixed [0, 1, 2, 3, 4, 5, 6, 7, 8, 15, 29, 41, 59, 88] (fun i => [(7, .p (eI i.1))]) (fun i => [(1536, .row 1 ((perf d.secs (d.pend.take i.1)).map eB))]) (fun _ => 0) (fun i => d.pend.length - i.1) ⟨0, by omega⟩ ?_ ?_
      · (first | refine Ent.ofA [] ?_ | refine Ent.ofC [] ?_) <;> (repeat' (first | exact trivial | refine HpLe.mk rfl (by simp) rfl (fun h => AObj.noConfusion h) ?_ ?_ | refine And.intro ?_ ?_ | exact VLe.refl _ | exact VLe.msl rfl | exact VLe.rsl rfl | exact VLe.csl rfl | exact VLe.cslr rfl | exact VLe.mp rfl | exact VLe.eptr rfl | exact VLe.ptr rfl | exact VLe.any _ | refine VLe.pe ?_ | refine VLe.agg ?_ | refine VLeL.cons ?_ ?_ | exact VLeL.nil | exact OLe.row _ _ | rfl | refine VLe.rsle rfl ?_ ?_ ?_ | refine OLe.rowe2 ?_ ?_ | refine OLe.mape ?_ ?_)) <;> try (first | (simp; done) | (congr 1; omega) | (congr 1; (first | (simp; done) | (simp; omega))))
      rintro ⟨i, hi⟩
      have hpl : ((perf d.secs (d.pend.take i)).map eB).length = d.secs.length := by rw [List.length_map, perf_len]
      repeat' (first | ((with_reducible show _ = _); exact rfl) | ((with_reducible show (_ : Nat) < _); exact Nat.zero_lt_succ _) | ((with_reducible show (_ : Nat) ≤ _); exact Nat.le_of_ble_eq_true rfl) | ((with_reducible show Exists _); refine exU8 ?_) | ((fail_if_success (first | (with_reducible show LeG _ _) | (with_reducible show Lp _ _ _ _) | (with_reducible show Exists _) | (with_reducible show callX _ _ _ _ _) | (with_reducible show (_ : Int) ≤ _) | (with_reducible show (_ : Int) < _) | (with_reducible show (_ : Nat) ≤ _) | (with_reducible show (_ : Nat) < _))); (conv => whnf) <;> (first | exact OkR.mk (by kernel_rfl) | refine Sq.pr ?_ | refine Br.dec (fun hc => ?_) (fun hc => ?_) | refine Br.tt ?_ | refine Br.ff ?_ | refine Br.not ?_ | refine Br.mk (fun hc => ?_) (fun hc => ?_) | refine Opt.nn ?_ | refine Opt.ss ?_ | exact PV.leL_nil | refine PV.leL_cons ?_ ?_ | refine And.intro ?_ ?_ | refine ix_map (fun x hx => ?_) | refine exU8 ?_ | refine nilc (fun hn => ?_) ?_ | exact PV.le_refl _ | exact Nat.zero_lt_succ _ | exact Nat.le_of_ble_eq_true rfl | exact onesOf rfl | exact Or.inl rfl | exact noMem | exact onesOfP rfl | exact okAll rfl | exact okMap (fun _ => ⟨rfl, onesOfP rfl⟩) | exact nonz | refine imp0 (fun hpos => ?_) | refine fits_i64 ?_ ?_ | exact rfl | (with_reducible show LeG _ _) | (with_reducible show Lp _ _ _ _) | (with_reducible show Exists _) | (with_reducible show callX _ _ _ _ _)))) <;> (try (first | exact LeG.refl _ | omega | ((first | (with_reducible show (_ : Int) ≤ _) | (with_reducible show (_ : Int) < _) | (with_reducible show (_ : Nat) ≤ _) | (with_reducible show (_ : Nat) < _) | (with_reducible show ¬ _) | (with_reducible show (_ : Int) = _) | (with_reducible show (_ : Nat) = _)); (simp only [List.length_map, List.length_append, List.length_cons, List.length_nil, List.length_replicate, List.length_take, List.length_drop, List.length_set, Int.toNat_natCast, Int.reduceToNat] <;> omega)) | exact of_decide_eq_true rfl))
      · rename_i w hw
        exact (k5 w (List.mem_of_getElem? hw)).1.1
      · rename_i w hw
        have := (k5 w (List.mem_of_getElem? hw)).1.2
        simp only [List.length_map, Nat.zero_add]; exact this
      · rename_i w hw
        have h := (k5 w (List.mem_of_getElem? hw)).1
        show 0 + w.pos.toNat < ((perf d.secs (d.pend.take i)).map eB).length
        omega
      · rename_i w hw
        have hw : d.pend[i]? = some w := hw
        have hx : d.pend[i]? = some _ := hx
        rw [hw] at hx; injection hx with hx; subst hx
        have h8 : i < d.pend.length := by have hc : (i : Int) < ((d.pend.map eW).length : Int) := by assumption
                                          simp only [List.length_map] at hc; omega
        refine ⟨⟨i + 1, h8⟩, by show d.pend.length - (i + 1) < d.pend.length - i; omega, ?_⟩
        (first | refine Ent.ofA [] ?_ | refine Ent.ofC [] ?_) <;> (repeat' (first | exact trivial | refine HpLe.mk rfl (by simp) rfl (fun h => AObj.noConfusion h) ?_ ?_ | refine And.intro ?_ ?_ | exact VLe.refl _ | exact VLe.msl rfl | exact VLe.rsl rfl | exact VLe.csl rfl | exact VLe.cslr rfl | exact VLe.mp rfl | exact VLe.eptr rfl | exact VLe.ptr rfl | exact VLe.any _ | refine VLe.pe ?_ | refine VLe.agg ?_ | refine VLeL.cons ?_ ?_ | exact VLeL.nil | exact OLe.row _ _ | rfl | refine VLe.rsle rfl ?_ ?_ ?_ | refine OLe.rowe2 ?_ ?_ | refine OLe.mape ?_ ?_)) <;> try (first | (simp; done) | (congr 1; omega) | (congr 1; (first | (simp; done) | (simp; omega))))
        show ((perf d.secs (d.pend.take i)).map eB).set (0 + w.pos.toNat) (eB w.data) = (perf d.secs (d.pend.take (i + 1))).map eB
        rw [perf_take _ _ _ _ hw, List.map_set, Nat.zero_add]
      · show 0 + (0 + (d.secs.map eB).length) ≤ ((perf d.secs (d.pend.take i)).map eB).length
        rw [hpl]; simp
      · have hi2 : i = d.pend.length := by have hc : ¬ (i : Int) < ((d.pend.map eW).length : Int) := by assumption
                                           simp only [List.length_map] at hc; omega
        subst hi2
        ((all_goals (try simp only [syncD, runD, hd, *, ↓reduceIte, Bool.false_eq_true, Bool.not_true, Bool.not_false, Bool.and_true, Bool.true_and, Bool.and_false, Bool.false_and, List.nil_append, List.drop_zero, Nat.zero_add, List.take_length, Int.toNat_natCast, Int.toNat_zero, List.append_nil]))); ((all_goals (try refine LeG.mk ?_)); (repeat' (first | exact PV.le_refl _ | exact PV.le_nil _ _ _ | exact PV.le_clip _ _ _ | exact PV.le_nilF _ _ _ | refine PV.le_agg ?_ | refine PV.le_tup ?_ | exact PV.leL_nil | refine PV.leL_cons ?_ ?_ | refine PV.le_of ?_ | rfl)))
        show PV.sl 1 false _ = PV.sl 1 false ((perf d.secs d.pend).map eB)
        rw [List.take_of_length_le (by simp [perf_len])]
end Go.Proofs.Ytcfkbohjnghelaa

namespace Go.Proofs.Ytcfkbohjnghelaa
open Go Go.Sg
set_option maxRecDepth 100000
set_option maxHeartbeats 4000000
theorem syncD_len (d : Dk) (h1 : d.secs.length < 1000000) (h2 : d.pend.length < 1000000) : (syncD d).1.secs.length < 1000000 ∧ (syncD d).1.pend.length < 1000000 := by
  unfold syncD
  split
  · split
    · split
      · simp [tornW, perf_len]; omega
      · simp [perf_len]; omega
    · simp [perf_len]; omega
  · simp [d0]
theorem stopD_len (d : Dk) (n : Int) (h1 : d.secs.length < 1000000) (h2 : d.pend.length < 1000000) : (stopD d n).1.secs.length < 1000000 ∧ (stopD d n).1.pend.length < 1000000 := by
  unfold stopD
  split
  · split
    · simp [d0]
    · split
      · simp [d0]
      · simp; omega
  · simp [d0]
theorem syncSpec_calls (d : Dk) (n : Int) (hr : rdD d) : PCalls Try.prog 5 [eD d, eI n] (.bool true) := by
  by_cases hfew : fewW d.pend (fewS d.secs 0) ≤ 9000
  · obtain ⟨l1, l2⟩ := few_len hfew
    have l3 := syncD_len d l1 l2
    have l4 := stopD_len d n l1 l2
    refine PCalls.of (N := 58) (res := [.tmp 4]) mixed Try.func5 rfl rfl rfl (by kernel_rfl) (by simp) [0, 1, 2, 4, 5, 6, 7, 8, 9, 10, 11, 12, 14, 17] ?_
    repeat' (first | ((with_reducible show _ = _); exact rfl) | ((with_reducible show (_ : Nat) < _); exact Nat.zero_lt_succ _) | ((with_reducible show (_ : Nat) ≤ _); exact Nat.le_of_ble_eq_true rfl) | ((with_reducible show Exists _); refine exU8 ?_) | ((with_reducible show callX _ _ _ _ _); (first | refine call_p (sane_calls) (by kernel_rfl) rfl ?_ | refine call_p (few_calls d hr.s hr.p) (by kernel_rfl) rfl ?_ | refine call_p (sync_calls d l1 l2) (by kernel_rfl) rfl ?_ | refine call_p (rsync_calls d l1 l2) (by kernel_rfl) rfl ?_ | refine call_p (stop_calls d n l1 l2) (by kernel_rfl) rfl ?_ | refine call_p (rstop_calls d n l1 l2) (by kernel_rfl) rfl ?_ | refine call_p (same_calls (syncD d).1 l3.1 l3.2) (by kernel_rfl) rfl ?_ | refine call_p (same_calls (stopD d n).1 l4.1 l4.2) (by kernel_rfl) rfl ?_)) | ((fail_if_success (first | (with_reducible show LeG _ _) | (with_reducible show Lp _ _ _ _) | (with_reducible show Exists _) | (with_reducible show callX _ _ _ _ _) | (with_reducible show (_ : Int) ≤ _) | (with_reducible show (_ : Int) < _) | (with_reducible show (_ : Nat) ≤ _) | (with_reducible show (_ : Nat) < _))); (conv => whnf) <;> (first | exact OkR.mk (by kernel_rfl) | refine Sq.pr ?_ | refine Br.dec (fun hc => ?_) (fun hc => ?_) | refine Br.tt ?_ | refine Br.ff ?_ | refine Br.not ?_ | refine Br.mk (fun hc => ?_) (fun hc => ?_) | refine Opt.nn ?_ | refine Opt.ss ?_ | exact PV.leL_nil | refine PV.leL_cons ?_ ?_ | refine And.intro ?_ ?_ | refine ix_map (fun x hx => ?_) | refine exU8 ?_ | refine nilc (fun hn => ?_) ?_ | refine call_p (sane_calls) (by kernel_rfl) rfl ?_ | refine call_p (few_calls d hr.s hr.p) (by kernel_rfl) rfl ?_ | refine call_p (sync_calls d l1 l2) (by kernel_rfl) rfl ?_ | refine call_p (rsync_calls d l1 l2) (by kernel_rfl) rfl ?_ | refine call_p (stop_calls d n l1 l2) (by kernel_rfl) rfl ?_ | refine call_p (rstop_calls d n l1 l2) (by kernel_rfl) rfl ?_ | refine call_p (same_calls (syncD d).1 l3.1 l3.2) (by kernel_rfl) rfl ?_ | refine call_p (same_calls (stopD d n).1 l4.1 l4.2) (by kernel_rfl) rfl ?_ | exact PV.le_refl _ | exact Nat.zero_lt_succ _ | exact Nat.le_of_ble_eq_true rfl | exact onesOf rfl | exact Or.inl rfl | exact noMem | exact onesOfP rfl | exact okAll rfl | exact okMap (fun _ => ⟨rfl, onesOfP rfl⟩) | exact nonz | refine imp0 (fun hpos => ?_) | refine fits_i64 ?_ ?_ | exact rfl | (with_reducible show LeG _ _) | (with_reducible show Lp _ _ _ _) | (with_reducible show Exists _) | (with_reducible show callX _ _ _ _ _)))) <;> (try (first | exact LeG.refl _ | omega | ((first | (with_reducible show (_ : Int) ≤ _) | (with_reducible show (_ : Int) < _) | (with_reducible show (_ : Nat) ≤ _) | (with_reducible show (_ : Nat) < _) | (with_reducible show ¬ _) | (with_reducible show (_ : Int) = _) | (with_reducible show (_ : Nat) = _)); (simp only [List.length_map, List.length_append, List.length_cons, List.length_nil, List.length_replicate, List.length_take, List.length_drop, List.length_set, Int.toNat_natCast, Int.reduceToNat] <;> omega)) | exact of_decide_eq_true rfl))
    ((all_goals (try simp only [*, ↓reduceIte, Bool.false_eq_true, Bool.not_true, Bool.not_false, Bool.and_true, Bool.true_and, Bool.and_false, Bool.false_and, List.nil_append, List.drop_zero, Nat.zero_add, List.take_length, Int.toNat_natCast, Int.toNat_zero, List.append_nil]))); ((all_goals (try refine LeG.mk ?_)); (repeat' (first | exact PV.le_refl _ | exact PV.le_nil _ _ _ | exact PV.le_clip _ _ _ | exact PV.le_nilF _ _ _ | refine PV.le_agg ?_ | refine PV.le_tup ?_ | exact PV.leL_nil | refine PV.leL_cons ?_ ?_ | refine PV.le_of ?_ | rfl)))
  · refine PCalls.of (N := 58) (res := [.tmp 4]) mixed Try.func5 rfl rfl rfl (by kernel_rfl) (by simp) [0, 1, 2, 4, 5, 6, 7, 8, 9, 10, 11, 12, 14, 17] ?_
    repeat' (first | ((with_reducible show _ = _); exact rfl) | ((with_reducible show (_ : Nat) < _); exact Nat.zero_lt_succ _) | ((with_reducible show (_ : Nat) ≤ _); exact Nat.le_of_ble_eq_true rfl) | ((with_reducible show Exists _); refine exU8 ?_) | ((with_reducible show callX _ _ _ _ _); (first | refine call_p (sane_calls) (by kernel_rfl) rfl ?_ | refine call_p (few_calls d hr.s hr.p) (by kernel_rfl) rfl ?_)) | ((fail_if_success (first | (with_reducible show LeG _ _) | (with_reducible show Lp _ _ _ _) | (with_reducible show Exists _) | (with_reducible show callX _ _ _ _ _) | (with_reducible show (_ : Int) ≤ _) | (with_reducible show (_ : Int) < _) | (with_reducible show (_ : Nat) ≤ _) | (with_reducible show (_ : Nat) < _))); (conv => whnf) <;> (first | exact OkR.mk (by kernel_rfl) | refine Sq.pr ?_ | refine Br.dec (fun hc => ?_) (fun hc => ?_) | refine Br.tt ?_ | refine Br.ff ?_ | refine Br.not ?_ | refine Br.mk (fun hc => ?_) (fun hc => ?_) | refine Opt.nn ?_ | refine Opt.ss ?_ | exact PV.leL_nil | refine PV.leL_cons ?_ ?_ | refine And.intro ?_ ?_ | refine ix_map (fun x hx => ?_) | refine exU8 ?_ | refine nilc (fun hn => ?_) ?_ | refine call_p (sane_calls) (by kernel_rfl) rfl ?_ | refine call_p (few_calls d hr.s hr.p) (by kernel_rfl) rfl ?_ | exact PV.le_refl _ | exact Nat.zero_lt_succ _ | exact Nat.le_of_ble_eq_true rfl | exact onesOf rfl | exact Or.inl rfl | exact noMem | exact onesOfP rfl | exact okAll rfl | exact okMap (fun _ => ⟨rfl, onesOfP rfl⟩) | exact nonz | refine imp0 (fun hpos => ?_) | refine fits_i64 ?_ ?_ | exact rfl | (with_reducible show LeG _ _) | (with_reducible show Lp _ _ _ _) | (with_reducible show Exists _) | (with_reducible show callX _ _ _ _ _)))) <;> (try (first | exact LeG.refl _ | omega | ((first | (with_reducible show (_ : Int) ≤ _) | (with_reducible show (_ : Int) < _) | (with_reducible show (_ : Nat) ≤ _) | (with_reducible show (_ : Nat) < _) | (with_reducible show ¬ _) | (with_reducible show (_ : Int) = _) | (with_reducible show (_ : Nat) = _)); (simp only [List.length_map, List.length_append, List.length_cons, List.length_nil, List.length_replicate, List.length_take, List.length_drop, List.length_set, Int.toNat_natCast, Int.reduceToNat] <;> omega)) | exact of_decide_eq_true rfl))
end Go.Proofs.Ytcfkbohjnghelaa

namespace Go.Proofs.Ytcfkbohjnghelaa
open Go Go.Sg
set_option maxRecDepth 100000
theorem rI : Rdc Try.prog 3 Int (fun n => [eI n]) (fun n => (Lit.int .i64 n).wf = true) := Rdc.int (by kernel_rfl) (by kernel_rfl)
theorem rU8 : Rdc Try.prog 5 Int (fun n => [.int .u8 n]) (fun n => (Lit.int .u8 n).wf = true) := Rdc.int (by kernel_rfl) (by kernel_rfl)
theorem rBool : Rdc Try.prog 4 Bool (fun n => [.bool n]) (fun _ => True) := Rdc.bool (by kernel_rfl) (by kernel_rfl)
def okBs (b : Bs) : Prop := b.length ≤ reachBytes ∧ ∀ n ∈ b, (Lit.int .u8 n).wf = true
theorem rB : Rdc Try.prog 35 Bs (fun b => [eB b]) okBs :=
  Rdc.slice (e := 5) (sz := 1) (by kernel_rfl) (by kernel_rfl) rU8 (by kernel_rfl) (by decide) (of_decide_eq_true (by kernel_rfl)) (fun _ _ => rfl)
def okSs (l : List Bs) : Prop := l.length ≤ reachBytes ∧ ∀ b ∈ l, okBs b
theorem rS : Rdc Try.prog 22 (List Bs) (fun b => [eS b]) okSs :=
  Rdc.slice (e := 35) (sz := 1) (by kernel_rfl) (by kernel_rfl) rB (by kernel_rfl) (by decide) (of_decide_eq_true (by kernel_rfl)) (fun _ _ => rfl)
def okWr (w : Wr) : Prop := (Lit.int .i64 w.pos).wf = true ∧ okBs w.data
theorem rW : Rdc Try.prog 54 Wr (fun w => [eI w.pos, eB w.data]) okWr := by
  have h := Rdc.struct (P := Try.prog) (t := 54) Try.underlying54 (Rdf.cons rI (Rdf.cons rB Rdf.nil (by kernel_rfl) rfl) (by kernel_rfl) rfl) (by kernel_rfl)
  exact h.map (fun x => (⟨x.1, x.2.1⟩ : Wr)) (fun w => (w.pos, w.data, ())) (fun _ => rfl) (fun _ _ => rfl) (fun x h => ⟨h.1, h.2.1⟩) (fun y h => ⟨h.1, h.2, trivial⟩)
def okPs (l : List Wr) : Prop := l.length ≤ reachBytes ∧ ∀ b ∈ l, okWr b
theorem rP : Rdc Try.prog 23 (List Wr) (fun b => [eP b]) okPs :=
  Rdc.slice (e := 54) (sz := 2) (by kernel_rfl) (by kernel_rfl) rW (by kernel_rfl) (by decide) (of_decide_eq_true (by kernel_rfl)) (fun _ _ => rfl)
def okDk (d : Dk) : Prop := okSs d.secs ∧ okPs d.pend ∧ (Lit.int .i64 d.left).wf = true
theorem rDc : Rdc Try.prog 25 Dk (fun d => [eS d.secs, eP d.pend, eI d.left, .bool d.stop]) okDk := by
  have h := Rdc.struct (P := Try.prog) (t := 25) Try.underlying25 (Rdf.cons rS (Rdf.cons rP (Rdf.cons rI (Rdf.cons rBool Rdf.nil (by kernel_rfl) rfl) (by kernel_rfl) rfl) (by kernel_rfl) rfl) (by kernel_rfl) rfl) (by kernel_rfl)
  exact h.map (fun x => (⟨x.1, x.2.1, x.2.2.1, x.2.2.2.1⟩ : Dk)) (fun w => (w.secs, w.pend, w.left, w.stop, ())) (fun _ => rfl) (fun _ _ => rfl) (fun x h => ⟨h.1, h.2.1, h.2.2.1⟩) (fun y h => ⟨h.1, h.2.1, h.2.2, trivial, trivial⟩)
theorem aD : Rda Try.prog 25 Dk eD okDk := Rda.agg rDc (by kernel_rfl)
theorem aI : Rda Try.prog 3 Int eI (fun n => (Lit.int .i64 n).wf = true) := Rda.one rI (by kernel_rfl)
theorem aB : Rda Try.prog 35 Bs eB okBs := Rda.one rB (by kernel_rfl)
theorem okDk.rd {d : Dk} (h : okDk d) : rdD d := ⟨fun b hb => Nat.lt_of_le_of_lt (h.1.2 b hb).1 reachBytes_lt, fun w hw => Nat.lt_of_le_of_lt (h.2.1.2 w hw).2.1 reachBytes_lt⟩
theorem own : ownKnob Try.prog.godebug = none := by kernel_rfl
end Go.Proofs.Ytcfkbohjnghelaa
