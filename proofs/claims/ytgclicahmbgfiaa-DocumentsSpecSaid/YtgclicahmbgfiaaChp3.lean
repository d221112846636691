/- A part of the proof: contracts of the functions that the statement reaches. -/
import Derived.Test.YtgclicahmbgfiaaChp2
import Derived.Test.YtgclicahmbgfiaaRows
set_option linter.unusedSimpArgs false
set_option linter.unusedVariables false
set_option linter.unnecessarySimpa false
namespace Go.Proofs.Ytgclicahmbgfiaa
open Go Go.Sg
set_option maxRecDepth 100000
set_option maxHeartbeats 8000000
theorem addA_ok {l : List Dc} {x : Dc} (hz : chkA l = 0) : addA l x = (if rightA x then (if hasN Dc.no x.no l then ([], 151) else if namB l x then (insN Dc.no l x, 0) else ([], 170)) else ([], 170)) := by
  unfold addA; rw [if_pos hz]
theorem addA_no {l : List Dc} {x : Dc} (hz : ¬ chkA l = 0) : addA l x = ([], chkA l) := by
  unfold addA; rw [if_neg hz]
theorem radd_calls (l : List Dc) (u : Dc) (hl : l.length < 1000000) (hd : ∀ y ∈ l, okE y) (hu : okE u) : PCalls Try.prog 14 [eL l, eA u] (eR (addA l u)) := by
  have q1 := rcheck_calls l hl (fun y hy => (hd y hy).d)
  by_cases hz : chkA l = 0
  · rw [hz] at q1
    rw [addA_ok hz]
    obtain ⟨h96, _, hs, _⟩ := chkA_srt hz
    have q2 := rright_calls u hu.1 hu.d.2.1 hu.d.2.2
    have q3 := find_calls l u.no hl
    have q4 := there_calls l u.rev hl hu.d.2.1
    have q5 := there_calls l u.need hl hu.d.2.2
    cases hr : rightA u with
    | false =>
      rw [hr] at q2
      refine PCalls.of (N := 61) (res := [.tmp 4, .tmp 5]) mixed Try.func14 rfl rfl rfl (by kernel_rfl) (by simp) [0, 1, 3, 4, 5, 6, 7, 11, 15, 20, 32, 46] ?_
      repeat' (first | exact cl1 | ((with_reducible show Exists _); first | exact exHM _ | refine exU8 ?_) | ((with_reducible show callX _ _ _ _ _); (first | refine call_p (q1) (by kernel_rfl) rfl ?_ | refine call_p (q2) (by kernel_rfl) rfl ?_)) | ((fail_if_success refine stp ?_); (conv => whnf) <;> (first | exact cl2 | refine XAlt.l ?_ | refine Sq.pr ?_ | refine Br.dec (fun hc => ?_) (fun hc => ?_) | refine Br.tt ?_ | refine Br.ff ?_ | refine Br.not ?_ | refine Br.mk (fun hc => ?_) (fun hc => ?_) | refine Opt.nn ?_ | refine Opt.ss ?_ | refine AltA.l ?_ | exact PV.leL_nil | refine PV.leL_cons ?_ ?_ | refine And.intro ?_ ?_ | refine ix_map (fun x hx => ?_) | refine exU8 ?_ | refine nilc (fun hn => ?_) ?_ | exact cl3 | refine imp0 (fun hpos => ?_) | refine fits_i64 ?_ ?_ | exact rfl | exact trivial | (first | refine stq ?_ | fail)))) <;> (try exact cl5)
      all_goals exact nilR _
    | true =>
    rw [hr] at q2
    rw [if_pos rfl]
    have hfn := fnd_neg l u.no
    have hhi := hasN_iff Dc.no hs u.no
    cases hh : hasN Dc.no u.no l with
    | true =>
      have hf : ¬ fnd l u.no < 0 := fun h => by
        obtain ⟨y, hy, e⟩ := hhi.1 hh
        have := List.any_eq_false.1 (hfn.1 h) y hy
        exact this (decide_eq_true e)
      have hf0 : 0 ≤ fnd l u.no := by omega
      refine PCalls.of (N := 61) (res := [.tmp 4, .tmp 5]) mixed Try.func14 rfl rfl rfl (by kernel_rfl) (by simp) [0, 1, 3, 4, 5, 6, 7, 11, 15, 20, 32, 46] ?_
      repeat' (first | exact cl1 | ((with_reducible show Exists _); first | exact exHM _ | refine exU8 ?_) | ((with_reducible show callX _ _ _ _ _); (first | refine call_p (q1) (by kernel_rfl) rfl ?_ | refine call_p (q2) (by kernel_rfl) rfl ?_ | refine call_p (q3) (by kernel_rfl) rfl ?_)) | ((fail_if_success refine stp ?_); (conv => whnf) <;> (first | exact cl2 | refine Br.dec (fun hc => ?_) (fun hc => absurd hf0 hc) | refine XAlt.l ?_ | refine Sq.pr ?_ | refine Br.dec (fun hc => ?_) (fun hc => ?_) | refine Br.tt ?_ | refine Br.ff ?_ | refine Br.not ?_ | refine Br.mk (fun hc => ?_) (fun hc => ?_) | refine Opt.nn ?_ | refine Opt.ss ?_ | refine AltA.l ?_ | exact PV.leL_nil | refine PV.leL_cons ?_ ?_ | refine And.intro ?_ ?_ | refine ix_map (fun x hx => ?_) | refine exU8 ?_ | refine nilc (fun hn => ?_) ?_ | exact cl3 | refine imp0 (fun hpos => ?_) | refine fits_i64 ?_ ?_ | exact rfl | exact trivial | (first | refine stq ?_ | fail)))) <;> (try exact cl5)
      all_goals exact nilR _
    | false =>
    have hf0 : ¬ 0 ≤ fnd l u.no := fun h => by
      have h1 : ¬ (l.any fun x => decide (x.no = u.no)) = false := fun e => by have := hfn.2 e; omega
      have h2 : (l.any fun x => decide (x.no = u.no)) = true := by cases hb : (l.any fun x => decide (x.no = u.no)) with
        | true => rfl
        | false => exact absurd hb h1
      obtain ⟨y, hy, e⟩ := List.any_eq_true.1 h2
      rw [hhi.2 ⟨y, hy, of_decide_eq_true e⟩] at hh; cases hh
    rw [if_neg Bool.false_ne_true]
    cases h4 : thB l u.rev with
    | false =>
      rw [h4] at q4
      rw [show namB l u = false from by unfold namB; rw [h4]; rfl]
      refine PCalls.of (N := 61) (res := [.tmp 4, .tmp 5]) mixed Try.func14 rfl rfl rfl (by kernel_rfl) (by simp) [0, 1, 3, 4, 5, 6, 7, 11, 15, 20, 32, 46] ?_
      repeat' (first | exact cl1 | ((with_reducible show Exists _); first | exact exHM _ | refine exU8 ?_) | ((with_reducible show callX _ _ _ _ _); (first | refine call_p (q1) (by kernel_rfl) rfl ?_ | refine call_p (q2) (by kernel_rfl) rfl ?_ | refine call_p (q3) (by kernel_rfl) rfl ?_ | refine call_p (q4) (by kernel_rfl) rfl ?_)) | ((fail_if_success refine stp ?_); (conv => whnf) <;> (first | exact cl2 | refine Br.dec (fun hc => absurd hc hf0) (fun hc => ?_) | refine XAlt.l ?_ | refine Sq.pr ?_ | refine Br.dec (fun hc => ?_) (fun hc => ?_) | refine Br.tt ?_ | refine Br.ff ?_ | refine Br.not ?_ | refine Br.mk (fun hc => ?_) (fun hc => ?_) | refine Opt.nn ?_ | refine Opt.ss ?_ | refine AltA.l ?_ | exact PV.leL_nil | refine PV.leL_cons ?_ ?_ | refine And.intro ?_ ?_ | refine ix_map (fun x hx => ?_) | refine exU8 ?_ | refine nilc (fun hn => ?_) ?_ | exact cl3 | refine imp0 (fun hpos => ?_) | refine fits_i64 ?_ ?_ | exact rfl | exact trivial | (first | refine stq ?_ | fail)))) <;> (try exact cl5)
      all_goals exact nilR _
    | true =>
    rw [h4] at q4
    cases h5 : thB l u.need with
    | false =>
      rw [h5] at q5
      rw [show namB l u = false from by unfold namB; rw [h4, h5]; rfl]
      refine PCalls.of (N := 61) (res := [.tmp 4, .tmp 5]) mixed Try.func14 rfl rfl rfl (by kernel_rfl) (by simp) [0, 1, 3, 4, 5, 6, 7, 11, 15, 20, 32, 46] ?_
      repeat' (first | exact cl1 | ((with_reducible show Exists _); first | exact exHM _ | refine exU8 ?_) | ((with_reducible show callX _ _ _ _ _); (first | refine call_p (q1) (by kernel_rfl) rfl ?_ | refine call_p (q2) (by kernel_rfl) rfl ?_ | refine call_p (q3) (by kernel_rfl) rfl ?_ | refine call_p (q4) (by kernel_rfl) rfl ?_ | refine call_p (q5) (by kernel_rfl) rfl ?_)) | ((fail_if_success refine stp ?_); (conv => whnf) <;> (first | exact cl2 | refine Br.dec (fun hc => absurd hc hf0) (fun hc => ?_) | refine XAlt.l ?_ | refine Sq.pr ?_ | refine Br.dec (fun hc => ?_) (fun hc => ?_) | refine Br.tt ?_ | refine Br.ff ?_ | refine Br.not ?_ | refine Br.mk (fun hc => ?_) (fun hc => ?_) | refine Opt.nn ?_ | refine Opt.ss ?_ | refine AltA.l ?_ | exact PV.leL_nil | refine PV.leL_cons ?_ ?_ | refine And.intro ?_ ?_ | refine ix_map (fun x hx => ?_) | refine exU8 ?_ | refine nilc (fun hn => ?_) ?_ | exact cl3 | refine imp0 (fun hpos => ?_) | refine fits_i64 ?_ ?_ | exact rfl | exact trivial | (first | refine stq ?_ | fail)))) <;> (try exact cl5)
      all_goals exact nilR _
    | true =>
    rw [h5] at q5
    rw [show namB l u = true from by unfold namB; rw [h4, h5]; rfl, if_pos rfl]
    refine PCalls.of (N := 61) (res := [.tmp 4, .tmp 5]) mixed Try.func14 rfl rfl rfl (by kernel_rfl) (by simp) [0, 1, 3, 4, 5, 6, 7, 11, 15, 20, 32, 46] ?_
    repeat' (first | exact cl1 | ((with_reducible show Exists _); first | exact exHM _ | refine exU8 ?_) | ((with_reducible show callX _ _ _ _ _); (first | refine call_p (q1) (by kernel_rfl) rfl ?_ | refine call_p (q2) (by kernel_rfl) rfl ?_ | refine call_p (q3) (by kernel_rfl) rfl ?_ | refine call_p (q4) (by kernel_rfl) rfl ?_ | refine call_p (q5) (by kernel_rfl) rfl ?_)) | ((fail_if_success refine stp ?_); (conv => whnf) <;> (first | exact cl2 | refine Br.dec (fun hc => absurd hc hf0) (fun hc => ?_) | refine XAlt.l ?_ | refine Sq.pr ?_ | refine Br.dec (fun hc => ?_) (fun hc => ?_) | refine Br.tt ?_ | refine Br.ff ?_ | refine Br.not ?_ | refine Br.mk (fun hc => ?_) (fun hc => ?_) | refine Opt.nn ?_ | refine Opt.ss ?_ | refine AltA.l ?_ | exact PV.leL_nil | refine PV.leL_cons ?_ ?_ | refine And.intro ?_ ?_ | refine ix_map (fun x hx => ?_) | refine exU8 ?_ | refine nilc (fun hn => ?_) ?_ | exact cl3 | refine imp0 (fun hpos => ?_) | refine fits_i64 ?_ ?_ | exact rfl | exact trivial | (first | refine stq ?_ | fail)))) <;> (try exact cl5)
    refine Wpc.loopB (α := {i : Nat // i ≤ l.length ∧ ∀ j y, j < i → l[j]? = some y → Dc.no y < Dc.no u}) mixed [0, 1, 3, 4, 5, 6, 7, 11, 15, 20, 32, 46] (fun i => [(7, .p (eI i.1))]) (fun i => l.length - i.1) ⟨0, by omega, fun j y h => absurd h (by omega)⟩ ?_ ?_
    · (first | refine Ent.ofA [] ?_ | refine Ent.ofC [] ?_) <;> (repeat' (first | exact trivial | refine HpLe.dd ?_ | refine HpLe.mk rfl (by simp) rfl (fun h => AObj.noConfusion h) ?_ ?_ | refine And.intro ?_ ?_ | exact cl9 | refine VLe.pe ?_ | refine VLe.agg ?_ | refine VLe.tup ?_ | refine VLe.fn ?_ ?_ | refine VLeL.cons ?_ ?_ | exact VLeL.nil | exact OLe.row _ _ | rfl | refine VLe.rsle rfl ?_ ?_ ?_ | refine OLe.rowe2 ?_ ?_ | refine OLe.mape ?_ ?_ | refine OLe.iter0 ?_ | refine OLe.itere ?_ ?_ | refine OLe.chane ?_ ?_ | refine OLe.mapSe ?_ ?_ ?_ | exact OLe.mapS0 rfl)) <;> try (first | (simp; done) | (congr 1; omega) | (congr 1; (first | (simp; done) | (simp; omega))))
    rintro ⟨i, hi, hq⟩
    have hi : i ≤ l.length := hi
    have hq : ∀ j y, j < i → l[j]? = some y → Dc.no y < Dc.no u := hq
    have hpos : (∀ y, l[i]? = some y → Dc.no u ≤ Dc.no y) → posN Dc.no (Dc.no u) l = i := fun h => posN_eq Dc.no l _ i hi hq h
    have hfin : posN Dc.no (Dc.no u) l = i → List.take (0 + (List.drop (Int.toNat 0) (List.take ((i : Int)).toNat (l.map eA))).length + 1 + (List.drop ((i : Int)).toNat (List.take (((l.map eA).length : Int)).toNat (l.map eA))).length) (List.drop 0 ([] ++ List.drop (Int.toNat 0) (List.take ((i : Int)).toNat (l.map eA)) ++ List.take 1 (List.drop 0 [eA u]) ++ List.drop ((i : Int)).toNat (List.take (((l.map eA).length : Int)).toNat (l.map eA)))) = (insN Dc.no l u).map eA := fun h => by
      unfold insN
      rw [h]
      simp only [Int.toNat_natCast, Int.reduceToNat, List.drop_zero, List.nil_append, List.take_length, List.take_succ_cons, List.take_zero, List.map_append, List.map_cons, List.map_take, List.map_drop, Nat.zero_add]
      rw [List.take_of_length_le (by simp <;> omega)]
      simp
    cases hx : l[i]? with
    | some y =>
      have hlt := (List.getElem?_eq_some_iff.1 hx).1
      have hyes : ((i : Int) < ((l.map eA).length : Int)) := by rw [List.length_map]; omega
      by_cases hcc : y.no < u.no
      · repeat' (first | exact cl1 | ((with_reducible show Exists _); first | exact exHM _ | refine exU8 ?_) | ((fail_if_success refine stp ?_); (conv => whnf) <;> (first | exact cl2 | refine Br.dec (fun hc => ?_) (fun hc => absurd hcc hc) | refine Br.mk (fun hc => ?_) (fun hc => absurd (decide_eq_true hyes) (by rw [hc]; exact Bool.false_ne_true)) | refine ix_at hx ?_ | refine XAlt.l ?_ | refine Sq.pr ?_ | refine Br.dec (fun hc => ?_) (fun hc => ?_) | refine Br.tt ?_ | refine Br.ff ?_ | refine Br.not ?_ | refine Br.mk (fun hc => ?_) (fun hc => ?_) | refine Opt.nn ?_ | refine Opt.ss ?_ | refine AltA.l ?_ | exact PV.leL_nil | refine PV.leL_cons ?_ ?_ | refine And.intro ?_ ?_ | refine ix_map (fun x hx => ?_) | refine exU8 ?_ | refine nilc (fun hn => ?_) ?_ | exact cl3 | refine imp0 (fun hpos => ?_) | refine fits_i64 ?_ ?_ | exact rfl | exact trivial | (first | refine stq ?_ | fail)))) <;> (try exact cl5)
        refine ⟨⟨i + 1, hlt, fun j z hj hz2 => ?_⟩, by show l.length - (i + 1) < l.length - i; omega, ?_⟩
        · rcases Nat.lt_succ_iff_lt_or_eq.1 hj with h1 | h1
          · exact hq j z h1 hz2
          · subst h1; rw [hx] at hz2; injection hz2 with hz2; rw [← hz2]; exact hcc
        · (first | refine Ent.ofA [] ?_ | refine Ent.ofC [] ?_) <;> (repeat' (first | exact trivial | refine HpLe.dd ?_ | refine HpLe.mk rfl (by simp) rfl (fun h => AObj.noConfusion h) ?_ ?_ | refine And.intro ?_ ?_ | exact cl9 | refine VLe.pe ?_ | refine VLe.agg ?_ | refine VLe.tup ?_ | refine VLe.fn ?_ ?_ | refine VLeL.cons ?_ ?_ | exact VLeL.nil | exact OLe.row _ _ | rfl | refine VLe.rsle rfl ?_ ?_ ?_ | refine OLe.rowe2 ?_ ?_ | refine OLe.mape ?_ ?_ | refine OLe.iter0 ?_ | refine OLe.itere ?_ ?_ | refine OLe.chane ?_ ?_ | refine OLe.mapSe ?_ ?_ ?_ | exact OLe.mapS0 rfl)) <;> try (first | (simp; done) | (congr 1; omega) | (congr 1; (first | (simp; done) | (simp; omega))))
      · have hp := hpos fun z hz2 => by rw [hx] at hz2; injection hz2 with hz2; subst hz2; omega
        repeat' (first | exact cl1 | ((with_reducible show Exists _); first | exact exHM _ | refine exU8 ?_) | ((fail_if_success refine stp ?_); (conv => whnf) <;> (first | exact cl2 | refine ix_at hx ?_ | refine XAlt.l ?_ | refine Sq.pr ?_ | refine Br.dec (fun hc => ?_) (fun hc => ?_) | refine Br.tt ?_ | refine Br.ff ?_ | refine Br.not ?_ | refine Br.mk (fun hc => ?_) (fun hc => ?_) | refine Opt.nn ?_ | refine Opt.ss ?_ | refine AltA.l ?_ | exact PV.leL_nil | refine PV.leL_cons ?_ ?_ | refine And.intro ?_ ?_ | refine ix_map (fun x hx => ?_) | refine exU8 ?_ | refine nilc (fun hn => ?_) ?_ | exact cl3 | refine imp0 (fun hpos => ?_) | refine fits_i64 ?_ ?_ | exact rfl | exact trivial | (first | refine stq ?_ | fail)))) <;> (try exact cl5)
        all_goals first
        | exact absurd (by assumption) hcc
        | exact LeG.of (congrArg (fun q => PV.tup [PV.sl _ false q, eI 0]) (hfin hp))
        | trace_state
    | none =>
      have hge : l.length ≤ i := List.getElem?_eq_none_iff.1 hx
      have hno : ¬ ((i : Int) < ((l.map eA).length : Int)) := by rw [List.length_map]; omega
      have hp := hpos fun z hz2 => by rw [hx] at hz2; cases hz2
      repeat' (first | exact cl1 | ((with_reducible show Exists _); first | exact exHM _ | refine exU8 ?_) | ((fail_if_success refine stp ?_); (conv => whnf) <;> (first | exact cl2 | refine Br.dec (fun hc => absurd hc hno) (fun hc => ?_) | refine XAlt.l ?_ | refine Sq.pr ?_ | refine Br.dec (fun hc => ?_) (fun hc => ?_) | refine Br.tt ?_ | refine Br.ff ?_ | refine Br.not ?_ | refine Br.mk (fun hc => ?_) (fun hc => ?_) | refine Opt.nn ?_ | refine Opt.ss ?_ | refine AltA.l ?_ | exact PV.leL_nil | refine PV.leL_cons ?_ ?_ | refine And.intro ?_ ?_ | refine ix_map (fun x hx => ?_) | refine exU8 ?_ | refine nilc (fun hn => ?_) ?_ | exact cl3 | refine imp0 (fun hpos => ?_) | refine fits_i64 ?_ ?_ | exact rfl | exact trivial | (first | refine stq ?_ | fail)))) <;> (try exact cl5)
      all_goals exact LeG.of (congrArg (fun q => PV.tup [PV.sl _ false q, eI 0]) (hfin hp))
  · rw [addA_no hz]
    refine PCalls.of (N := 61) (res := [.tmp 4, .tmp 5]) mixed Try.func14 rfl rfl rfl (by kernel_rfl) (by simp) [0, 1, 3, 4, 5, 6, 7, 11, 15, 20, 32, 46] ?_
    repeat' (first | exact cl1 | ((with_reducible show Exists _); first | exact exHM _ | refine exU8 ?_) | ((with_reducible show callX _ _ _ _ _); (first | refine call_p (q1) (by kernel_rfl) rfl ?_)) | ((fail_if_success refine stp ?_); (conv => whnf) <;> (first | exact cl2 | refine XAlt.l ?_ | refine Sq.pr ?_ | refine Br.dec (fun hc => ?_) (fun hc => ?_) | refine Br.tt ?_ | refine Br.ff ?_ | refine Br.not ?_ | refine Br.mk (fun hc => ?_) (fun hc => ?_) | refine Opt.nn ?_ | refine Opt.ss ?_ | refine AltA.l ?_ | exact PV.leL_nil | refine PV.leL_cons ?_ ?_ | refine And.intro ?_ ?_ | refine ix_map (fun x hx => ?_) | refine exU8 ?_ | refine nilc (fun hn => ?_) ?_ | exact cl3 | refine imp0 (fun hpos => ?_) | refine fits_i64 ?_ ?_ | exact rfl | exact trivial | (first | refine stq ?_ | fail)))) <;> (try exact cl5)
    all_goals exact nilR _
end Go.Proofs.Ytgclicahmbgfiaa

namespace Go.Proofs.Ytgclicahmbgfiaa
open Go Go.Sg
set_option maxRecDepth 100000
set_option maxHeartbeats 20000000
open Cd
def eWI (n : Int) : PV := eW (vI n)
def oWv (n : Nat) : List Int → AV
  | [] => .p (.sl 0 true [])
  | _ :: r => .rsl n 4 0 (r.length + 1)
def oHw (n : Nat) : List Int → Heap
  | [] => []
  | a :: r => [(n, .row 4 ((a :: r).map eWI))]
theorem lastNil {a b s : PV} {z : Nat} : LeG (.agg [a, b, s, .sl z true []]) (.agg [a, b, s, .sl 4 false []]) := LeG.mk (PV.le_agg (PV.leL_cons (PV.le_refl _) (PV.leL_cons (PV.le_refl _) (PV.leL_cons (PV.le_refl _) (PV.leL_cons (PV.le_nil _ _ _) PV.leL_nil)))))
theorem rint_calls (n : Int) : PCalls Try.prog 48 [eI n] (eWI n) := by
  refine PCalls.of (N := 5) (res := [.cell 2 57]) mixed Try.func48 rfl rfl rfl (by kernel_rfl) (by simp) [0, 2] ?_
  repeat' (first | exact cl1 | ((with_reducible show Exists _); first | exact exHM _ | refine exU8 ?_) | ((fail_if_success refine stp ?_); (conv => whnf) <;> (first | exact cl2 | refine XAlt.l ?_ | refine Sq.pr ?_ | refine Br.dec (fun hc => ?_) (fun hc => ?_) | refine Br.tt ?_ | refine Br.ff ?_ | refine Br.not ?_ | refine Br.mk (fun hc => ?_) (fun hc => ?_) | refine Opt.nn ?_ | refine Opt.ss ?_ | refine AltA.l ?_ | exact PV.leL_nil | refine PV.leL_cons ?_ ?_ | refine And.intro ?_ ?_ | refine ix_map (fun x hx => ?_) | refine exU8 ?_ | refine nilc (fun hn => ?_) ?_ | exact cl3 | refine imp0 (fun hpos => ?_) | refine fits_i64 ?_ ?_ | exact rfl | exact trivial | (first | refine stq ?_ | fail)))) <;> (try exact cl5)
  all_goals exact lastNil
theorem rtext1_calls (s : ByteArray) : PCalls Try.prog 50 [.str s] (eW (.mk 2 0 s [])) := by
  refine PCalls.of (N := 5) (res := [.cell 2 57]) mixed Try.func50 rfl rfl rfl (by kernel_rfl) (by simp) [0, 2] ?_
  repeat' (first | exact cl1 | ((with_reducible show Exists _); first | exact exHM _ | refine exU8 ?_) | ((fail_if_success refine stp ?_); (conv => whnf) <;> (first | exact cl2 | refine XAlt.l ?_ | refine Sq.pr ?_ | refine Br.dec (fun hc => ?_) (fun hc => ?_) | refine Br.tt ?_ | refine Br.ff ?_ | refine Br.not ?_ | refine Br.mk (fun hc => ?_) (fun hc => ?_) | refine Opt.nn ?_ | refine Opt.ss ?_ | refine AltA.l ?_ | exact PV.leL_nil | refine PV.leL_cons ?_ ?_ | refine And.intro ?_ ?_ | refine ix_map (fun x hx => ?_) | refine exU8 ?_ | refine nilc (fun hn => ?_) ?_ | exact cl3 | refine imp0 (fun hpos => ?_) | refine fits_i64 ?_ ?_ | exact rfl | exact trivial | (first | refine stq ?_ | fail)))) <;> (try exact cl5)
  all_goals exact lastNil
theorem rlist1_calls (l : List PV) : PCalls Try.prog 47 [.sl 4 false l] (.agg [eI 3, eI 0, .str ⟨#[]⟩, .sl 4 false l]) := by
  refine PCalls.of (N := 5) (res := [.cell 2 57]) mixed Try.func47 rfl rfl rfl (by kernel_rfl) (by simp) [0, 2] ?_
  repeat' (first | exact cl1 | ((with_reducible show Exists _); first | exact exHM _ | refine exU8 ?_) | ((fail_if_success refine stp ?_); (conv => whnf) <;> (first | exact cl2 | refine XAlt.l ?_ | refine Sq.pr ?_ | refine Br.dec (fun hc => ?_) (fun hc => ?_) | refine Br.tt ?_ | refine Br.ff ?_ | refine Br.not ?_ | refine Br.mk (fun hc => ?_) (fun hc => ?_) | refine Opt.nn ?_ | refine Opt.ss ?_ | refine AltA.l ?_ | exact PV.leL_nil | refine PV.leL_cons ?_ ?_ | refine And.intro ?_ ?_ | refine ix_map (fun x hx => ?_) | refine exU8 ?_ | refine nilc (fun hn => ?_) ?_ | exact cl3 | refine imp0 (fun hpos => ?_) | refine fits_i64 ?_ ?_ | exact rfl | exact trivial | (first | refine stq ?_ | fail)))) <;> (try exact cl5)
theorem ints_calls (ns : List Int) (hl : ns.length < 1000000) : PCalls Try.prog 49 [eIs ns] (eW (vN ns)) := by
  refine PCalls.of (N := 23) (res := [.cell 2 57]) mixed Try.func49 rfl rfl rfl (by kernel_rfl) (by simp) [0, 2, 3, 4, 9] ?_
  repeat' (first | exact cl1 | ((with_reducible show Exists _); first | exact exHM _ | refine exU8 ?_) | ((fail_if_success refine stp ?_); (conv => whnf) <;> (first | exact cl2 | refine XAlt.l ?_ | refine Sq.pr ?_ | refine Br.dec (fun hc => ?_) (fun hc => ?_) | refine Br.tt ?_ | refine Br.ff ?_ | refine Br.not ?_ | refine Br.mk (fun hc => ?_) (fun hc => ?_) | refine Opt.nn ?_ | refine Opt.ss ?_ | refine AltA.l ?_ | exact PV.leL_nil | refine PV.leL_cons ?_ ?_ | refine And.intro ?_ ?_ | refine ix_map (fun x hx => ?_) | refine exU8 ?_ | refine nilc (fun hn => ?_) ?_ | exact cl3 | refine imp0 (fun hpos => ?_) | refine fits_i64 ?_ ?_ | exact rfl | exact trivial | (first | refine stq ?_ | fail)))) <;> (try exact cl5)
  refine Wpc.loopA (α := {i : Nat // i ≤ ns.length}) mixed [0, 2, 3, 4, 9] (fun i => [(4, .p (eI i.1))]) (fun i => (128, .cells [.p (eI 3), .p (eI 0), .p (.str ⟨#[]⟩), oWv 1 (ns.take i.1)]) :: oHw 1 (ns.take i.1)) (fun _ => 0) (fun i => ns.length - i.1) ⟨0, by omega⟩ ?_ ?_
  · (first | refine Ent.ofA [] ?_ | refine Ent.ofC [] ?_) <;> (repeat' (first | exact trivial | refine HpLe.dd ?_ | refine HpLe.mk rfl (by simp) rfl (fun h => AObj.noConfusion h) ?_ ?_ | refine And.intro ?_ ?_ | exact cl9 | refine VLe.pe ?_ | refine VLe.agg ?_ | refine VLe.tup ?_ | refine VLe.fn ?_ ?_ | refine VLeL.cons ?_ ?_ | exact VLeL.nil | exact OLe.row _ _ | rfl | refine VLe.rsle rfl ?_ ?_ ?_ | refine OLe.rowe2 ?_ ?_ | refine OLe.mape ?_ ?_ | refine OLe.iter0 ?_ | refine OLe.itere ?_ ?_ | refine OLe.chane ?_ ?_ | refine OLe.mapSe ?_ ?_ ?_ | exact OLe.mapS0 rfl)) <;> try (first | (simp; done) | (congr 1; omega) | (congr 1; (first | (simp; done) | (simp; omega))))
  rintro ⟨i, hi⟩
  have hi : i ≤ ns.length := hi
  show lpE [(4, _)] _ _ fun e => lpH ((128, .cells [.p (eI 3), .p (eI 0), .p (.str ⟨#[]⟩), oWv 1 (ns.take i)]) :: oHw 1 (ns.take i)) _ [] fun h => _
  cases hxi : ns[i]? with
  | some y =>
    have hlt : i < ns.length := (List.getElem?_eq_some_iff.1 hxi).1
    have hyes : ((i : Int) < ((ns.map eI).length : Int)) := by rw [List.length_map]; omega
    have hta : ns.take (i + 1) = ns.take i ++ [y] := by rw [List.take_add_one, hxi]; rfl
    cases hG : ns.take i with
    | nil =>
      repeat' (first | exact cl1 | ((with_reducible show Exists _); first | exact exHM _ | refine exU8 ?_) | ((with_reducible show callX _ _ _ _ _); (first | refine call_p (rint_calls _) (by kernel_rfl) rfl ?_)) | ((fail_if_success refine stp ?_); (conv => whnf) <;> (first | exact cl2 | refine Br.dec (fun hc => ?_) (fun hc => absurd hyes hc) | refine XAlt.l ?_ | refine Sq.pr ?_ | refine Br.dec (fun hc => ?_) (fun hc => ?_) | refine Br.tt ?_ | refine Br.ff ?_ | refine Br.not ?_ | refine Br.mk (fun hc => ?_) (fun hc => ?_) | refine Opt.nn ?_ | refine Opt.ss ?_ | refine AltA.l ?_ | exact PV.leL_nil | refine PV.leL_cons ?_ ?_ | refine And.intro ?_ ?_ | refine ix_map (fun x hx => ?_) | refine exU8 ?_ | refine nilc (fun hn => ?_) ?_ | exact cl3 | refine imp0 (fun hpos => ?_) | refine fits_i64 ?_ ?_ | exact rfl | exact trivial | (first | refine stq ?_ | fail)))) <;> (try exact cl5)
      all_goals (
        have hx : ns[i]? = some x := hx
        rw [hxi] at hx; injection hx with hx; subst hx)
      refine ⟨⟨i + 1, hlt⟩, by show ns.length - (i + 1) < ns.length - i; omega, ?_⟩
      show Ent _ _ (hdS [0, 2, 3, 4, 9] _ _ _ [(4, .p (eI ((i + 1 : Nat) : Int)))] ((128, .cells [.p (eI 3), .p (eI 0), .p (.str ⟨#[]⟩), oWv 1 (ns.take (i + 1))]) :: oHw 1 (ns.take (i + 1))) _)
      rw [hta, hG]
      (first | refine Ent.ofA [] ?_ | refine Ent.ofC [] ?_) <;> (repeat' (first | exact trivial | refine HpLe.dd ?_ | refine HpLe.mk rfl (by simp) rfl (fun h => AObj.noConfusion h) ?_ ?_ | refine And.intro ?_ ?_ | exact cl9 | refine VLe.pe ?_ | refine VLe.agg ?_ | refine VLe.tup ?_ | refine VLe.fn ?_ ?_ | refine VLeL.cons ?_ ?_ | exact VLeL.nil | exact OLe.row _ _ | rfl | refine VLe.rsle rfl ?_ ?_ ?_ | refine OLe.rowe2 ?_ ?_ | refine OLe.mape ?_ ?_ | refine OLe.iter0 ?_ | refine OLe.itere ?_ ?_ | refine OLe.chane ?_ ?_ | refine OLe.mapSe ?_ ?_ ?_ | exact OLe.mapS0 rfl)) <;> try (first | (simp; done) | (congr 1; omega) | (congr 1; (first | (simp; done) | (simp; omega))))
    | cons g gr =>
      have hgl : gr.length < 1000000 := by have h : (ns.take i).length ≤ ns.length := by rw [List.length_take]; omega
                                           rw [hG] at h; simp at h; omega
      repeat' (first | exact cl1 | ((with_reducible show Exists _); first | exact exHM _ | refine exU8 ?_) | ((with_reducible show callX _ _ _ _ _); (first | refine call_p (rint_calls _) (by kernel_rfl) rfl ?_)) | ((fail_if_success refine stp ?_); (conv => whnf) <;> (first | exact cl2 | refine Br.dec (fun hc => ?_) (fun hc => absurd hyes hc) | refine XAlt.l ?_ | refine Sq.pr ?_ | refine Br.dec (fun hc => ?_) (fun hc => ?_) | refine Br.tt ?_ | refine Br.ff ?_ | refine Br.not ?_ | refine Br.mk (fun hc => ?_) (fun hc => ?_) | refine Opt.nn ?_ | refine Opt.ss ?_ | refine AltA.l ?_ | exact PV.leL_nil | refine PV.leL_cons ?_ ?_ | refine And.intro ?_ ?_ | refine ix_map (fun x hx => ?_) | refine exU8 ?_ | refine nilc (fun hn => ?_) ?_ | exact cl3 | refine imp0 (fun hpos => ?_) | refine fits_i64 ?_ ?_ | exact rfl | exact trivial | (first | refine stq ?_ | fail)))) <;> (try exact cl5)
      all_goals (
        have hx : ns[i]? = some x := hx
        rw [hxi] at hx; injection hx with hx; subst hx)
      refine ⟨⟨i + 1, hlt⟩, by show ns.length - (i + 1) < ns.length - i; omega, ?_⟩
      show Ent _ _ (hdS [0, 2, 3, 4, 9] _ _ _ [(4, .p (eI ((i + 1 : Nat) : Int)))] ((128, .cells [.p (eI 3), .p (eI 0), .p (.str ⟨#[]⟩), oWv 1 (ns.take (i + 1))]) :: oHw 1 (ns.take (i + 1))) _)
      rw [hta, hG]
      (first | refine Ent.ofA [] ?_ | refine Ent.ofC [] ?_) <;> (repeat' (first | exact trivial | refine HpLe.dd ?_ | refine HpLe.mk rfl (by simp) rfl (fun h => AObj.noConfusion h) ?_ ?_ | refine And.intro ?_ ?_ | exact cl9 | refine VLe.pe ?_ | refine VLe.agg ?_ | refine VLe.tup ?_ | refine VLe.fn ?_ ?_ | refine VLeL.cons ?_ ?_ | exact VLeL.nil | exact OLe.row _ _ | rfl | refine VLe.rsle rfl ?_ ?_ ?_ | refine OLe.rowe2 ?_ ?_ | refine OLe.mape ?_ ?_ | refine OLe.iter0 ?_ | refine OLe.itere ?_ ?_ | refine OLe.chane ?_ ?_ | refine OLe.mapSe ?_ ?_ ?_ | exact OLe.mapS0 rfl)) <;> try (first | (simp; done) | (congr 1; omega) | (congr 1; (first | (simp; done) | (simp; omega))))
      all_goals (try (show List.map eWI (g :: gr) ++ [eWI y] = List.map eWI (g :: (gr ++ [y])); simp; done))
  | none =>
    have hge : ns.length ≤ i := List.getElem?_eq_none_iff.1 hxi
    have hno : ¬ ((i : Int) < ((ns.map eI).length : Int)) := by rw [List.length_map]; omega
    have hil : ns.take i = ns := List.take_of_length_le hge
    cases hG : ns.take i with
    | nil =>
      have h0 : ns = [] := by rw [← hil, hG]
      repeat' (first | exact cl1 | ((with_reducible show Exists _); first | exact exHM _ | refine exU8 ?_) | ((with_reducible show callX _ _ _ _ _); (first | refine call_p (rint_calls _) (by kernel_rfl) rfl ?_)) | ((fail_if_success refine stp ?_); (conv => whnf) <;> (first | exact cl2 | refine Br.dec (fun hc => absurd hc hno) (fun hc => ?_) | refine XAlt.l ?_ | refine Sq.pr ?_ | refine Br.dec (fun hc => ?_) (fun hc => ?_) | refine Br.tt ?_ | refine Br.ff ?_ | refine Br.not ?_ | refine Br.mk (fun hc => ?_) (fun hc => ?_) | refine Opt.nn ?_ | refine Opt.ss ?_ | refine AltA.l ?_ | exact PV.leL_nil | refine PV.leL_cons ?_ ?_ | refine And.intro ?_ ?_ | refine ix_map (fun x hx => ?_) | refine exU8 ?_ | refine nilc (fun hn => ?_) ?_ | exact cl3 | refine imp0 (fun hpos => ?_) | refine fits_i64 ?_ ?_ | exact rfl | exact trivial | (first | refine stq ?_ | fail)))) <;> (try exact cl5)
      rw [h0]
      exact LeG.mk (PV.le_agg (PV.leL_cons (PV.le_refl _) (PV.leL_cons (PV.le_refl _) (PV.leL_cons (PV.le_refl _) (PV.leL_cons (PV.le_nil _ _ _) PV.leL_nil)))))
    | cons g gr =>
      have hns : ns = g :: gr := by rw [← hil, hG]
      repeat' (first | exact cl1 | ((with_reducible show Exists _); first | exact exHM _ | refine exU8 ?_) | ((with_reducible show callX _ _ _ _ _); (first | refine call_p (rint_calls _) (by kernel_rfl) rfl ?_)) | ((fail_if_success refine stp ?_); (conv => whnf) <;> (first | exact cl2 | refine Br.dec (fun hc => absurd hc hno) (fun hc => ?_) | refine XAlt.l ?_ | refine Sq.pr ?_ | refine Br.dec (fun hc => ?_) (fun hc => ?_) | refine Br.tt ?_ | refine Br.ff ?_ | refine Br.not ?_ | refine Br.mk (fun hc => ?_) (fun hc => ?_) | refine Opt.nn ?_ | refine Opt.ss ?_ | refine AltA.l ?_ | exact PV.leL_nil | refine PV.leL_cons ?_ ?_ | refine And.intro ?_ ?_ | refine ix_map (fun x hx => ?_) | refine exU8 ?_ | refine nilc (fun hn => ?_) ?_ | exact cl3 | refine imp0 (fun hpos => ?_) | refine fits_i64 ?_ ?_ | exact rfl | exact trivial | (first | refine stq ?_ | fail)))) <;> (try exact cl5)
      rw [hns]
      refine LeG.mk (PV.le_agg (PV.leL_cons (PV.le_refl _) (PV.leL_cons (PV.le_refl _) (PV.leL_cons (PV.le_refl _) (PV.leL_cons ?_ PV.leL_nil)))))
      rw [List.drop_zero, List.take_of_length_le (by simp)]
      exact PV.le_of (congrArg (PV.sl 4 false) (show List.map eWI (g :: gr) = List.map eV ((g :: gr).map vI) by rw [List.map_map]; exact List.map_congr_left fun n _ => (eV_eq (vI n)).symm))
end Go.Proofs.Ytgclicahmbgfiaa

namespace Go.Proofs.Ytgclicahmbgfiaa
open Go Go.Sg
set_option maxRecDepth 100000
set_option maxHeartbeats 40000000
open Cd
theorem strOf_app (a b : List Int) : strOfNums (a ++ b) = strOfNums a ++ strOfNums b := by
  unfold strOfNums
  simp [ByteArray.ext_iff]
theorem rtext_calls (x : Dc) (h1 : x.par.length < 1000000) (h2 : x.rev.length < 1000000) (h3 : x.need.length < 1000000) : PCalls Try.prog 16 [eA x] (.tup [eB (textA x).1, eI (textA x).2]) := by
  have q1 := rright_calls x (by omega) (by omega) (by omega)
  unfold textA
  cases hr : rightA x with
  | false =>
    rw [hr] at q1
    refine PCalls.of (N := 61) (res := [.tmp 2, .tmp 3]) mixed Try.func16 rfl rfl rfl (by kernel_rfl) (by simp) [0, 1, 2, 3, 4, 5, 6, 7, 11, 13] ?_
    repeat' (first | exact cl1 | ((with_reducible show Exists _); first | exact exHM _ | refine exU8 ?_) | ((with_reducible show callX _ _ _ _ _); (first | refine call_p (q1) (by kernel_rfl) rfl ?_)) | ((fail_if_success refine stp ?_); (conv => whnf) <;> (first | exact cl2 | refine XAlt.l ?_ | refine Sq.pr ?_ | refine Br.dec (fun hc => ?_) (fun hc => ?_) | refine Br.tt ?_ | refine Br.ff ?_ | refine Br.not ?_ | refine Br.mk (fun hc => ?_) (fun hc => ?_) | refine Opt.nn ?_ | refine Opt.ss ?_ | refine AltA.l ?_ | exact PV.leL_nil | refine PV.leL_cons ?_ ?_ | refine And.intro ?_ ?_ | refine ix_map (fun x hx => ?_) | refine exU8 ?_ | refine nilc (fun hn => ?_) ?_ | exact cl3 | refine imp0 (fun hpos => ?_) | refine fits_i64 ?_ ?_ | exact rfl | exact trivial | (first | refine stq ?_ | fail)))) <;> (try exact cl5)
    all_goals exact LeG.mk leE
  | true =>
    rw [hr] at q1
    refine PCalls.of (N := 61) (res := [.tmp 2, .tmp 3]) mixed Try.func16 rfl rfl rfl (by kernel_rfl) (by simp) [0, 1, 2, 3, 4, 5, 6, 7, 11, 13] ?_
    repeat' (first | exact cl1 | ((with_reducible show Exists _); first | exact exHM _ | refine exU8 ?_) | ((with_reducible show callX _ _ _ _ _); (first | refine call_p (q1) (by kernel_rfl) rfl ?_)) | ((fail_if_success refine stp ?_); (conv => whnf) <;> (first | exact cl2 | refine XAlt.l ?_ | refine Sq.pr ?_ | refine Br.dec (fun hc => ?_) (fun hc => ?_) | refine Br.tt ?_ | refine Br.ff ?_ | refine Br.not ?_ | refine Br.mk (fun hc => ?_) (fun hc => ?_) | refine Opt.nn ?_ | refine Opt.ss ?_ | refine AltA.l ?_ | exact PV.leL_nil | refine PV.leL_cons ?_ ?_ | refine And.intro ?_ ?_ | refine ix_map (fun x hx => ?_) | refine exU8 ?_ | refine nilc (fun hn => ?_) ?_ | exact cl3 | refine imp0 (fun hpos => ?_) | refine fits_i64 ?_ ?_ | exact rfl | exact trivial | (first | refine stq ?_ | fail)))) <;> (try exact cl5)
    refine Wpc.loopB (α := {i : Nat // i ≤ 32}) mixed [0, 1, 2, 3, 4, 5, 6, 7, 11, 13] (fun i => [(4, .p (.str (strOfNums ((txL x).take i.1)))), (5, .p (eI i.1))]) (fun i => 32 - i.1) ⟨0, by omega⟩ ?_ ?_
    · (first | refine Ent.ofA [] ?_ | refine Ent.ofC [] ?_) <;> (repeat' (first | exact trivial | refine HpLe.dd ?_ | refine HpLe.mk rfl (by simp) rfl (fun h => AObj.noConfusion h) ?_ ?_ | refine And.intro ?_ ?_ | exact cl9 | refine VLe.pe ?_ | refine VLe.agg ?_ | refine VLe.tup ?_ | refine VLe.fn ?_ ?_ | refine VLeL.cons ?_ ?_ | exact VLeL.nil | exact OLe.row _ _ | rfl | refine VLe.rsle rfl ?_ ?_ ?_ | refine OLe.rowe2 ?_ ?_ | refine OLe.mape ?_ ?_ | refine OLe.iter0 ?_ | refine OLe.itere ?_ ?_ | refine OLe.chane ?_ ?_ | refine OLe.mapSe ?_ ?_ ?_ | exact OLe.mapS0 rfl)) <;> try (first | (simp; done) | (congr 1; omega) | (congr 1; (first | (simp; done) | (simp; omega))))
    rintro ⟨i, hi⟩
    by_cases h32 : i = 32
    · subst h32
      have hno : ¬ (((32 : Nat) : Int)) < 32 := by decide
      have e1 := ints_calls x.par h1
      have e2 := ints_calls x.rev h2
      have e3 := ints_calls x.need h3
      have e4 := rlist1_calls [eWI x.no, eWI x.tm, eWI x.kind, eWI x.val, eWI x.frm, eWI x.til, eW (vN x.par), eW (vN x.rev), eW (vN x.need), eW (.mk 2 0 (strOfNums ((txL x).take 32)) [])]
      have e5 := rEncode_calls (docV x) (doc_ok (rightA_f hr))
      rw [enc_doc] at e5
      have e5 : PCalls Try.prog 51 [.agg [eI 3, eI 0, .str ⟨#[]⟩, .sl 4 false ((docV x).l.map eV)]] (.tup [eB (enc (docV x)), eI 0]) := e5
      rw [docE] at e5
      have e5 : PCalls Try.prog 51 [.agg [eI 3, eI 0, .str ⟨#[]⟩, .sl 4 false [eWI x.no, eWI x.tm, eWI x.kind, eWI x.val, eWI x.frm, eWI x.til, eW (vN x.par), eW (vN x.rev), eW (vN x.need), eW (.mk 2 0 (strOfNums ((txL x).take 32)) [])]]] (.tup [eB (enc (docV x)), eI 0]) := e5
      repeat' (first | exact cl1 | ((with_reducible show Exists _); first | exact exHM _ | refine exU8 ?_) | ((with_reducible show callX _ _ _ _ _); (first | refine call_p (rint_calls _) (by kernel_rfl) rfl ?_ | refine call_p (e1) (by kernel_rfl) rfl ?_ | refine call_p (e2) (by kernel_rfl) rfl ?_ | refine call_p (e3) (by kernel_rfl) rfl ?_ | refine call_p (rtext1_calls _) (by kernel_rfl) rfl ?_ | (refine call_z (e4) (by kernel_rfl) rfl ?_; (repeat' (first | exact PV.leL_nil | refine PV.leL_cons ?_ ?_ | refine And.intro ?_ ?_ | exact Nat.zero_lt_succ _ | exact Nat.le_of_ble_eq_true rfl | exact PV.le_refl _ | exact PV.le_nil _ _ _ | exact PV.le_clip _ _ _ | refine PV.le_agg ?_ | refine PV.le_tup ?_ | rfl)); fail_if_success (any_goals (refine PV.le_of ?_))) | (refine call_z (e5) (by kernel_rfl) rfl ?_; (repeat' (first | exact PV.leL_nil | refine PV.leL_cons ?_ ?_ | refine And.intro ?_ ?_ | exact Nat.zero_lt_succ _ | exact Nat.le_of_ble_eq_true rfl | exact PV.le_refl _ | exact PV.le_nil _ _ _ | exact PV.le_clip _ _ _ | refine PV.le_agg ?_ | refine PV.le_tup ?_ | rfl)); fail_if_success (any_goals (refine PV.le_of ?_))))) | ((fail_if_success refine stp ?_); (conv => whnf) <;> (first | exact cl2 | refine Br.dec (fun hc => absurd hc hno) (fun hc => ?_) | refine XAlt.l ?_ | refine Sq.pr ?_ | refine Br.dec (fun hc => ?_) (fun hc => ?_) | refine Br.tt ?_ | refine Br.ff ?_ | refine Br.not ?_ | refine Br.mk (fun hc => ?_) (fun hc => ?_) | refine Opt.nn ?_ | refine Opt.ss ?_ | refine AltA.l ?_ | exact PV.leL_nil | refine PV.leL_cons ?_ ?_ | refine And.intro ?_ ?_ | refine ix_map (fun x hx => ?_) | refine exU8 ?_ | refine nilc (fun hn => ?_) ?_ | exact cl3 | refine imp0 (fun hpos => ?_) | refine fits_i64 ?_ ?_ | exact rfl | exact trivial | (first | refine stq ?_ | fail)))) <;> (try exact cl5)
      all_goals trace_state
    · obtain ⟨n, hn⟩ : ∃ n : {i : Nat // i ≤ 32}, n.1 = i + 1 := ⟨⟨i + 1, by have : i ≤ 32 := hi; omega⟩, rfl⟩
      have hi2 : i ≤ 32 := hi
      have hyes : ((i : Nat) : Int) < 32 := by omega
      have hlt : 32 - n.1 < 32 - i := by omega
      rcases (show i = 0 ∨ i = 1 ∨ i = 2 ∨ i = 3 ∨ i = 4 ∨ i = 5 ∨ i = 6 ∨ i = 7 ∨ i = 8 ∨ i = 9 ∨ i = 10 ∨ i = 11 ∨ i = 12 ∨ i = 13 ∨ i = 14 ∨ i = 15 ∨ i = 16 ∨ i = 17 ∨ i = 18 ∨ i = 19 ∨ i = 20 ∨ i = 21 ∨ i = 22 ∨ i = 23 ∨ i = 24 ∨ i = 25 ∨ i = 26 ∨ i = 27 ∨ i = 28 ∨ i = 29 ∨ i = 30 ∨ i = 31 by have : i ≤ 32 := hi; omega) with rfl | rfl | rfl | rfl | rfl | rfl | rfl | rfl | rfl | rfl | rfl | rfl | rfl | rfl | rfl | rfl | rfl | rfl | rfl | rfl | rfl | rfl | rfl | rfl | rfl | rfl | rfl | rfl | rfl | rfl | rfl | rfl
      all_goals
        repeat' (first | exact cl1 | ((with_reducible show Exists _); first | exact exHM _ | refine exU8 ?_) | ((fail_if_success refine stp ?_); (conv => whnf) <;> (first | exact cl2 | refine Br.dec (fun hc => ?_) (fun hc => absurd hyes hc) | refine XAlt.l ?_ | refine Sq.pr ?_ | refine Br.dec (fun hc => ?_) (fun hc => ?_) | refine Br.tt ?_ | refine Br.ff ?_ | refine Br.not ?_ | refine Br.mk (fun hc => ?_) (fun hc => ?_) | refine Opt.nn ?_ | refine Opt.ss ?_ | refine AltA.l ?_ | exact PV.leL_nil | refine PV.leL_cons ?_ ?_ | refine And.intro ?_ ?_ | refine ix_map (fun x hx => ?_) | refine exU8 ?_ | refine nilc (fun hn => ?_) ?_ | exact cl3 | refine imp0 (fun hpos => ?_) | refine fits_i64 ?_ ?_ | exact rfl | exact trivial | (first | refine stq ?_ | fail)))) <;> (try exact cl5)
        refine ⟨_, rfl, ?_⟩
        repeat' (first | exact cl1 | ((with_reducible show Exists _); first | exact exHM _ | refine exU8 ?_) | ((fail_if_success refine stp ?_); (conv => whnf) <;> (first | exact cl2 | refine XAlt.l ?_ | refine Sq.pr ?_ | refine Br.dec (fun hc => ?_) (fun hc => ?_) | refine Br.tt ?_ | refine Br.ff ?_ | refine Br.not ?_ | refine Br.mk (fun hc => ?_) (fun hc => ?_) | refine Opt.nn ?_ | refine Opt.ss ?_ | refine AltA.l ?_ | exact PV.leL_nil | refine PV.leL_cons ?_ ?_ | refine And.intro ?_ ?_ | refine ix_map (fun x hx => ?_) | refine exU8 ?_ | refine nilc (fun hn => ?_) ?_ | exact cl3 | refine imp0 (fun hpos => ?_) | refine fits_i64 ?_ ?_ | exact rfl | exact trivial | (first | refine stq ?_ | fail)))) <;> (try exact cl5)
        refine ⟨n, hlt, ?_⟩
        obtain ⟨n, hn2⟩ := n
        have hn : n = _ := hn
        subst hn
        (first | refine Ent.ofA [] ?_ | refine Ent.ofC [] ?_) <;> (repeat' (first | exact trivial | refine HpLe.dd ?_ | refine HpLe.mk rfl (by simp) rfl (fun h => AObj.noConfusion h) ?_ ?_ | refine And.intro ?_ ?_ | exact cl9 | refine VLe.pe ?_ | refine VLe.agg ?_ | refine VLe.tup ?_ | refine VLe.fn ?_ ?_ | refine VLeL.cons ?_ ?_ | exact VLeL.nil | exact OLe.row _ _ | rfl | refine VLe.rsle rfl ?_ ?_ ?_ | refine OLe.rowe2 ?_ ?_ | refine OLe.mape ?_ ?_ | refine OLe.iter0 ?_ | refine OLe.itere ?_ ?_ | refine OLe.chane ?_ ?_ | refine OLe.mapSe ?_ ?_ ?_ | exact OLe.mapS0 rfl)) <;> try (first | (simp; done) | (congr 1; omega) | (congr 1; (first | (simp; done) | (simp; omega))))
        all_goals (try exact (strOf_app ((txL x).take _) [_]).symm)
        all_goals trace_state
end Go.Proofs.Ytgclicahmbgfiaa

namespace Go.Proofs.Ytgclicahmbgfiaa
open Go Go.Sg
set_option maxRecDepth 100000
set_option maxHeartbeats 20000000
open Cd
theorem fewD_f2 {x : Dc} (h : fewD x = true) : okF x := by
  unfold fewD at h
  simp only [Bool.and_eq_true, decide_eq_true_eq] at h
  exact ⟨h.1.1, h.1.2, h.2⟩
theorem rcheck_lim (L : List PV) (h : (4096 : Int) < (L.length : Int)) : PCalls Try.prog 18 [.sl 41 false L] (eI 2) := by
  refine PCalls.of (N := 57) (res := [.tmp 2]) mixed Try.func18 rfl rfl rfl (by kernel_rfl) (by simp) [0, 2, 3, 6, 10, 56] ?_
  repeat' (first | exact cl1 | ((with_reducible show Exists _); first | exact exHM _ | refine exU8 ?_) | ((fail_if_success refine stp ?_); (conv => whnf) <;> (first | exact cl2 | refine Br.dec (fun hc => ?_) (fun hc => absurd h hc) | refine XAlt.l ?_ | refine Sq.pr ?_ | refine Br.dec (fun hc => ?_) (fun hc => ?_) | refine Br.tt ?_ | refine Br.ff ?_ | refine Br.not ?_ | refine Br.mk (fun hc => ?_) (fun hc => ?_) | refine Opt.nn ?_ | refine Opt.ss ?_ | refine AltA.l ?_ | exact PV.leL_nil | refine PV.leL_cons ?_ ?_ | refine And.intro ?_ ?_ | refine ix_map (fun x hx => ?_) | refine exU8 ?_ | refine nilc (fun hn => ?_) ?_ | exact cl3 | refine imp0 (fun hpos => ?_) | refine fits_i64 ?_ ?_ | exact rfl | exact trivial | (first | refine stq ?_ | fail)))) <;> (try exact cl5)
theorem add_lim (l : List Dc) (x : Dc) (h : (4096 : Int) < (l.length : Int)) : PCalls Try.prog 13 [eL l, eA x] (eR ([], 2)) := by
  have q1 : PCalls Try.prog 17 [eL l] (eI 2) := check_lim (l.map eA) (by rw [List.length_map]; exact h)
  refine PCalls.of (N := 38) (res := [.tmp 4, .tmp 5]) mixed Try.func13 rfl rfl rfl (by kernel_rfl) (by simp) [0, 1, 3, 4, 5, 6, 7, 8, 12, 16, 24, 26] ?_
  repeat' (first | exact cl1 | ((with_reducible show Exists _); first | exact exHM _ | refine exU8 ?_) | ((with_reducible show callX _ _ _ _ _); (first | refine call_p (q1) (by kernel_rfl) rfl ?_)) | ((fail_if_success refine stp ?_); (conv => whnf) <;> (first | exact cl2 | refine XAlt.l ?_ | refine Sq.pr ?_ | refine Br.dec (fun hc => ?_) (fun hc => ?_) | refine Br.tt ?_ | refine Br.ff ?_ | refine Br.not ?_ | refine Br.mk (fun hc => ?_) (fun hc => ?_) | refine Opt.nn ?_ | refine Opt.ss ?_ | refine AltA.l ?_ | exact PV.leL_nil | refine PV.leL_cons ?_ ?_ | refine And.intro ?_ ?_ | refine ix_map (fun x hx => ?_) | refine exU8 ?_ | refine nilc (fun hn => ?_) ?_ | exact cl3 | refine imp0 (fun hpos => ?_) | refine fits_i64 ?_ ?_ | exact rfl | exact trivial | (first | refine stq ?_ | fail)))) <;> (try exact cl5)
  all_goals exact nilR _
theorem radd_lim (l : List Dc) (x : Dc) (h : (4096 : Int) < (l.length : Int)) : PCalls Try.prog 14 [eL l, eA x] (eR ([], 2)) := by
  have q1 : PCalls Try.prog 18 [eL l] (eI 2) := rcheck_lim (l.map eA) (by rw [List.length_map]; exact h)
  refine PCalls.of (N := 61) (res := [.tmp 4, .tmp 5]) mixed Try.func14 rfl rfl rfl (by kernel_rfl) (by simp) [0, 1, 3, 4, 5, 6, 7, 11, 15, 20, 32, 46] ?_
  repeat' (first | exact cl1 | ((with_reducible show Exists _); first | exact exHM _ | refine exU8 ?_) | ((with_reducible show callX _ _ _ _ _); (first | refine call_p (q1) (by kernel_rfl) rfl ?_)) | ((fail_if_success refine stp ?_); (conv => whnf) <;> (first | exact cl2 | refine XAlt.l ?_ | refine Sq.pr ?_ | refine Br.dec (fun hc => ?_) (fun hc => ?_) | refine Br.tt ?_ | refine Br.ff ?_ | refine Br.not ?_ | refine Br.mk (fun hc => ?_) (fun hc => ?_) | refine Opt.nn ?_ | refine Opt.ss ?_ | refine AltA.l ?_ | exact PV.leL_nil | refine PV.leL_cons ?_ ?_ | refine And.intro ?_ ?_ | refine ix_map (fun x hx => ?_) | refine exU8 ?_ | refine nilc (fun hn => ?_) ?_ | exact cl3 | refine imp0 (fun hpos => ?_) | refine fits_i64 ?_ ?_ | exact rfl | exact trivial | (first | refine stq ?_ | fail)))) <;> (try exact cl5)
  all_goals exact nilR _
theorem few_f {l : List Dc} (h : fewA l = true) : (l.length ≤ 20 ∧ ∀ x ∈ l, okF x) ∨ (4096 : Int) < (l.length : Int) := by
  unfold fewA fewN at h
  rw [Bool.and_eq_true] at h
  obtain ⟨h1, h2⟩ := h
  by_cases hl : l.length ≤ 20
  · refine .inl ⟨hl, fun x hx => fewD_f2 (List.all_eq_true.1 h1 x ?_)⟩
    rw [List.take_of_length_le (by omega)]; exact hx
  · refine .inr ?_
    simp only [Bool.or_eq_true, Bool.and_eq_true, decide_eq_true_eq] at h2
    omega
/-- What both sides answer. -/
structure Two (l : List Dc) (x : Dc) (y : List Dc) (e g : Int) (b : List Int) (h : Int) : Prop where
  ca : PCalls Try.prog 17 [eL l] (eI g)
  cb : PCalls Try.prog 18 [eL l] (eI g)
  aa : PCalls Try.prog 13 [eL l, eA x] (eR (y, e))
  ab : PCalls Try.prog 14 [eL l, eA x] (eR (y, e))
  ta : PCalls Try.prog 15 [eA x] (.tup [eB b, eI h])
  tb : PCalls Try.prog 16 [eA x] (.tup [eB b, eI h])
  sm : PCalls Try.prog 19 [eL y, eL y] (.bool true)
theorem two_of (l : List Dc) (x : Dc) (hf : fewA l = true) (hx : fewD x = true) : ∃ y e g b h, Two l x y e g b h := by
  have fx := fewD_f2 hx
  obtain ⟨d1, d2, d3⟩ := id fx
  have ta := text_calls x (by omega) (by omega) (by omega)
  have tb := rtext_calls x (by omega) (by omega) (by omega)
  rcases few_f hf with ⟨hl, hd⟩ | hl
  · have hdE : ∀ y ∈ l, okE y := fun y hy => (hd y hy).e
    have hsm : ∀ y ∈ (addA l x).1, okF y := fun y hy => by
      unfold addA at hy
      split at hy
      · split at hy
        · split at hy
          · cases hy
          · split at hy
            · rcases (mem_insN Dc.no).1 hy with e | e
              · subst e; exact fx
              · exact hd y e
            · cases hy
        · cases hy
      · cases hy
    have hln : (addA l x).1.length < 1000000 := by
      unfold addA
      split
      · split
        · split
          · simp
          · split
            · simp only [length_insN]; omega
            · simp
        · simp
      · simp
    have sm := same_calls (addA l x).1 (addA l x).1 hln (fun y hy => ⟨by have := (hsm y hy).1; omega, by have := (hsm y hy).2.1; omega, by have := (hsm y hy).2.2; omega⟩)
    rw [sameLB_refl] at sm
    exact ⟨(addA l x).1, (addA l x).2, chkA l, (textA x).1, (textA x).2, check_calls l (by omega) hdE, rcheck_calls l (by omega) (fun y hy => (hdE y hy).d), add_calls l x (by omega) hdE fx.e, radd_calls l x (by omega) hdE fx.e, ta, tb, sm⟩
  · have sm := same_calls [] [] (by decide) (fun y hy => by cases hy)
    exact ⟨[], 2, 2, (textA x).1, (textA x).2, check_lim (l.map eA) (by rw [List.length_map]; exact hl), rcheck_lim (l.map eA) (by rw [List.length_map]; exact hl), add_lim l x hl, radd_lim l x hl, ta, tb, sm⟩
theorem spec_calls (l : List Dc) (x : Dc) (hl : l.length < 140737488355328) : PCalls Try.prog 3 [eL l, eA x] (.bool true) := by
  have q0 := sane_calls
  have q1 : PCalls Try.prog 11 [eL l] (.bool (fewA l)) := few_calls l hl
  have q2 : PCalls Try.prog 12 [eA x] (.bool (fewD x)) := fewD_calls x
  cases hfl : fewA l with
  | false =>
    rw [hfl] at q1
    refine PCalls.of (N := 72) (res := [.tmp 4]) mixed Try.func3 rfl rfl rfl (by kernel_rfl) (by simp) [0, 1, 3, 4, 5, 6, 7, 8, 9, 10, 11, 12, 14, 22] ?_
    repeat' (first | exact cl1 | ((with_reducible show Exists _); first | exact exHM _ | refine exU8 ?_) | ((with_reducible show callX _ _ _ _ _); (first | refine call_p (q0) (by kernel_rfl) rfl ?_ | refine call_p (q1) (by kernel_rfl) rfl ?_)) | ((fail_if_success refine stp ?_); (conv => whnf) <;> (first | exact cl2 | refine XAlt.l ?_ | refine Sq.pr ?_ | refine Br.dec (fun hc => ?_) (fun hc => ?_) | refine Br.tt ?_ | refine Br.ff ?_ | refine Br.not ?_ | refine Br.mk (fun hc => ?_) (fun hc => ?_) | refine Opt.nn ?_ | refine Opt.ss ?_ | refine AltA.l ?_ | exact PV.leL_nil | refine PV.leL_cons ?_ ?_ | refine And.intro ?_ ?_ | refine ix_map (fun x hx => ?_) | refine exU8 ?_ | refine nilc (fun hn => ?_) ?_ | exact cl3 | refine imp0 (fun hpos => ?_) | refine fits_i64 ?_ ?_ | exact rfl | exact trivial | (first | refine stq ?_ | fail)))) <;> (try exact cl5)
  | true =>
    rw [hfl] at q1
    cases hfx : fewD x with
    | false =>
      rw [hfx] at q2
      refine PCalls.of (N := 72) (res := [.tmp 4]) mixed Try.func3 rfl rfl rfl (by kernel_rfl) (by simp) [0, 1, 3, 4, 5, 6, 7, 8, 9, 10, 11, 12, 14, 22] ?_
      repeat' (first | exact cl1 | ((with_reducible show Exists _); first | exact exHM _ | refine exU8 ?_) | ((with_reducible show callX _ _ _ _ _); (first | refine call_p (q0) (by kernel_rfl) rfl ?_ | refine call_p (q1) (by kernel_rfl) rfl ?_ | refine call_p (q2) (by kernel_rfl) rfl ?_)) | ((fail_if_success refine stp ?_); (conv => whnf) <;> (first | exact cl2 | refine XAlt.l ?_ | refine Sq.pr ?_ | refine Br.dec (fun hc => ?_) (fun hc => ?_) | refine Br.tt ?_ | refine Br.ff ?_ | refine Br.not ?_ | refine Br.mk (fun hc => ?_) (fun hc => ?_) | refine Opt.nn ?_ | refine Opt.ss ?_ | refine AltA.l ?_ | exact PV.leL_nil | refine PV.leL_cons ?_ ?_ | refine And.intro ?_ ?_ | refine ix_map (fun x hx => ?_) | refine exU8 ?_ | refine nilc (fun hn => ?_) ?_ | exact cl3 | refine imp0 (fun hpos => ?_) | refine fits_i64 ?_ ?_ | exact rfl | exact trivial | (first | refine stq ?_ | fail)))) <;> (try exact cl5)
    | true =>
      rw [hfx] at q2
      obtain ⟨y, e, g, b, h, T⟩ := two_of l x hfl hfx
      have t1 := T.ca
      have t2 := T.cb
      have t3 := T.aa
      have t4 := T.ab
      have t5 := T.ta
      have t6 := T.tb
      have t7 := T.sm
      refine PCalls.of (N := 72) (res := [.tmp 4]) mixed Try.func3 rfl rfl rfl (by kernel_rfl) (by simp) [0, 1, 3, 4, 5, 6, 7, 8, 9, 10, 11, 12, 14, 22] ?_
      repeat' (first | exact cl1 | ((with_reducible show Exists _); first | exact exHM _ | refine exU8 ?_) | ((with_reducible show callX _ _ _ _ _); (first | refine call_p (q0) (by kernel_rfl) rfl ?_ | refine call_p (q1) (by kernel_rfl) rfl ?_ | refine call_p (q2) (by kernel_rfl) rfl ?_ | refine call_p (t1) (by kernel_rfl) rfl ?_ | refine call_p (t2) (by kernel_rfl) rfl ?_ | refine call_p (t3) (by kernel_rfl) rfl ?_ | refine call_p (t4) (by kernel_rfl) rfl ?_ | refine call_p (t5) (by kernel_rfl) rfl ?_ | refine call_p (t6) (by kernel_rfl) rfl ?_ | refine call_p (t7) (by kernel_rfl) rfl ?_)) | ((fail_if_success refine stp ?_); (conv => whnf) <;> (first | exact cl2 | refine XAlt.l ?_ | refine Sq.pr ?_ | refine Br.dec (fun hc => ?_) (fun hc => ?_) | refine Br.tt ?_ | refine Br.ff ?_ | refine Br.not ?_ | refine Br.mk (fun hc => ?_) (fun hc => ?_) | refine Opt.nn ?_ | refine Opt.ss ?_ | refine AltA.l ?_ | exact PV.leL_nil | refine PV.leL_cons ?_ ?_ | refine And.intro ?_ ?_ | refine ix_map (fun x hx => ?_) | refine exU8 ?_ | refine nilc (fun hn => ?_) ?_ | exact cl3 | refine imp0 (fun hpos => ?_) | refine fits_i64 ?_ ?_ | exact rfl | exact trivial | (first | refine stq ?_ | fail)))) <;> (try exact cl5)
      all_goals first
      | (refine LeG.bool ?_; exact decide_eq_true rfl)
      | (exfalso; exact hc rfl)
      | (exfalso; simp at hc)
end Go.Proofs.Ytgclicahmbgfiaa

namespace Go.Proofs.Ytgclicahmbgfiaa
open Go Go.Sg
set_option maxRecDepth 100000
set_option maxHeartbeats 8000000
theorem rI : Rdc Try.prog 3 Int (fun n => [eI n]) (fun n => (Lit.int .i64 n).wf = true) := Rdc.int (by kernel_rfl) (by kernel_rfl)
def okIs (l : List Int) : Prop := l.length ≤ reachBytes ∧ ∀ b ∈ l, (Lit.int .i64 b).wf = true
theorem rIs : Rdc Try.prog 23 (List Int) (fun b => [eIs b]) okIs :=
  Rdc.slice (e := 3) (sz := 1) (by kernel_rfl) (by kernel_rfl) rI (by kernel_rfl) (by decide) (of_decide_eq_true (by kernel_rfl)) (fun _ _ => rfl)
theorem rU8 : Rdc Try.prog 5 Int (fun n => [.int .u8 n]) (fun n => (Lit.int .u8 n).wf = true) := Rdc.int (by kernel_rfl) (by kernel_rfl)
theorem wf_u8 {n : Int} (h : (Lit.int .u8 n).wf = true) : 0 ≤ n ∧ n ≤ 255 := by
  simp [Lit.wf, IntKind.min, IntKind.max, IntKind.signed, IntKind.bits] at h; omega
theorem rTx : Rdc Try.prog 25 (List Int) (fun l => l.flatMap fun n => [.int .u8 n]) (fun l => l.length = 32 ∧ ∀ x ∈ l, (Lit.int .u8 x).wf = true) :=
  Rdc.array (e := 5) (n := 32) (sz := 1) (by kernel_rfl) rU8 (by kernel_rfl) (by kernel_rfl) (by decide)
structure okDc (x : Dc) : Prop where
  par : okIs x.par
  rev : okIs x.rev
  need : okIs x.need
  tx : ∀ i, i < 32 → 0 ≤ x.tx i ∧ x.tx i ≤ 255
abbrev RT := Int × Int × Int × Int × Int × Int × List Int × List Int × List Int × List Int × Unit
def toD (x : RT) : Dc := ⟨x.1, x.2.1, x.2.2.1, x.2.2.2.1, x.2.2.2.2.1, x.2.2.2.2.2.1, x.2.2.2.2.2.2.1, x.2.2.2.2.2.2.2.1, x.2.2.2.2.2.2.2.2.1, fun i => x.2.2.2.2.2.2.2.2.2.1.getD i 0⟩
theorem tx32 (L : List Int) (h : L.length = 32) : (L.flatMap fun n => [PV.int .u8 n]) = [u8 (L.getD 0 0), u8 (L.getD 1 0), u8 (L.getD 2 0), u8 (L.getD 3 0), u8 (L.getD 4 0), u8 (L.getD 5 0), u8 (L.getD 6 0), u8 (L.getD 7 0), u8 (L.getD 8 0), u8 (L.getD 9 0), u8 (L.getD 10 0), u8 (L.getD 11 0), u8 (L.getD 12 0), u8 (L.getD 13 0), u8 (L.getD 14 0), u8 (L.getD 15 0), u8 (L.getD 16 0), u8 (L.getD 17 0), u8 (L.getD 18 0), u8 (L.getD 19 0), u8 (L.getD 20 0), u8 (L.getD 21 0), u8 (L.getD 22 0), u8 (L.getD 23 0), u8 (L.getD 24 0), u8 (L.getD 25 0), u8 (L.getD 26 0), u8 (L.getD 27 0), u8 (L.getD 28 0), u8 (L.getD 29 0), u8 (L.getD 30 0), u8 (L.getD 31 0)] := by
  match L, h with
  | [a0, a1, a2, a3, a4, a5, a6, a7, a8, a9, a10, a11, a12, a13, a14, a15, a16, a17, a18, a19, a20, a21, a22, a23, a24, a25, a26, a27, a28, a29, a30, a31], _ => rfl
theorem okA_one (x : Dc) : ∀ c ∈ (eA x).cells, c.one = true := fun c hc => by
  have h : (eA x).cells.all (fun c => c.one) = true := rfl
  exact List.all_eq_true.1 h c hc
theorem rDc : Rdc Try.prog 27 Dc (fun x => (eA x).cells) okDc := by
  have h := Rdc.struct (P := Try.prog) (t := 27) Try.underlying27 (Rdf.cons rI (Rdf.cons rI (Rdf.cons rI (Rdf.cons rI (Rdf.cons rI (Rdf.cons rI (Rdf.cons rIs (Rdf.cons rIs (Rdf.cons rIs (Rdf.cons rTx Rdf.nil (by kernel_rfl) rfl) (by kernel_rfl) rfl) (by kernel_rfl) rfl) (by kernel_rfl) rfl) (by kernel_rfl) rfl) (by kernel_rfl) rfl) (by kernel_rfl) rfl) (by kernel_rfl) rfl) (by kernel_rfl) rfl) (by kernel_rfl) rfl) (by kernel_rfl)
  exact {
    sz := fun x _ => by
      have e : Try.prog.cellsOf 27 = 41 := by kernel_rfl
      rw [e]; rfl
    one := fun x _ => okA_one x
    rd := by
      intro H enc w n cs y hr hw
      obtain ⟨x, h1, h2, h3⟩ := h.rd hr hw
      obtain ⟨b1, b2, b3, b4, b5, b6, b7, b8, b9, b10, _⟩ := x
      obtain ⟨_, _, _, _, _, _, c7, c8, c9, c10, _⟩ := h1
      refine ⟨toD (b1, b2, b3, b4, b5, b6, b7, b8, b9, b10, ()), ⟨c7, c8, c9, fun i hi => ?_⟩, h2, fun i p hp => h3 i p ?_⟩
      · have hl : i < b10.length := by have := c10.1; simp only at this; omega
        have e : (toD (b1, b2, b3, b4, b5, b6, b7, b8, b9, b10, ())).tx i = b10[i] := by
          show b10.getD i 0 = b10[i]
          simp [List.getD, hl]
        rw [e]
        exact wf_u8 (c10.2 _ (List.getElem_mem hl))
      · show ([eI b1] ++ ([eI b2] ++ ([eI b3] ++ ([eI b4] ++ ([eI b5] ++ ([eI b6] ++ ([eIs b7] ++ ([eIs b8] ++ ([eIs b9] ++ ((b10.flatMap fun n => [PV.int .u8 n]) ++ []))))))))))[i]? = some p
        rw [tx32 b10 c10.1]
        exact hp }
def okL (l : List Dc) : Prop := l.length ≤ reachBytes ∧ ∀ b ∈ l, okDc b
theorem rL : Rdc Try.prog 22 (List Dc) (fun b => [eL b]) okL :=
  Rdc.slice (e := 27) (sz := 41) (ep := eA) (by kernel_rfl) (by kernel_rfl) rDc (by kernel_rfl) (by decide) (of_decide_eq_true (by kernel_rfl)) (fun _ _ => rfl)
theorem aI : Rda Try.prog 3 Int eI (fun n => (Lit.int .i64 n).wf = true) := Rda.one rI (by kernel_rfl)
theorem aDc : Rda Try.prog 27 Dc eA okDc := Rda.agg rDc (by kernel_rfl)
theorem aL : Rda Try.prog 22 (List Dc) eL okL := Rda.one rL (by kernel_rfl)
theorem aIs : Rda Try.prog 23 (List Int) eIs okIs := Rda.one rIs (by kernel_rfl)
theorem okL.len {l : List Dc} (h : okL l) : l.length < 140737488355328 := Nat.lt_of_le_of_lt h.1 reachBytes_lt
theorem okIs.len {l : List Int} (h : okIs l) : l.length < 140737488355328 := Nat.lt_of_le_of_lt h.1 reachBytes_lt
theorem okDc.d {x : Dc} (h : okDc x) : x.par.length < 140737488355328 ∧ x.rev.length < 140737488355328 ∧ x.need.length < 140737488355328 := ⟨h.par.len, h.rev.len, h.need.len⟩
theorem own : ownKnob Try.prog.godebug = none := by kernel_rfl
end Go.Proofs.Ytgclicahmbgfiaa
