/- A part of the proof: contracts of the functions that the statement reaches. -/
import Derived.Test.YtkgjhghbnocnbaaChp0
import Derived.Test.YtkgjhghbnocnbaaRows
set_option linter.unusedSimpArgs false
set_option linter.unusedVariables false
set_option linter.unnecessarySimpa false
namespace Go.Proofs.Ytkgjhghbnocnbaa
open Go Go.Sg
set_option maxRecDepth 100000
set_option maxHeartbeats 40000000
theorem wList : ∀ v, frm v = true → nums v → lens 5000 v → v.kind = 3 → ∀ b : List Int, (b ++ enc v).length ≤ 80000000 →
    ICalls Try.prog 41 3 [(0, .row 1 (b.map (.int .u8))), (1, .cells [.p .nilf, .p (.fn (.func 37) [] []), .p (.fn (.func 40) [] []), .fn (.func 41) [] [.ptr 2 0]]), (2, .cells [.ptr 1 0])] [.rsl 0 1 0 b.length, .p (eW v), .ptr 2 0] (.rsl 3 1 0 (b ++ enc v).length) [(0, .dead), (1, .cells [.p .nilf, .p (.fn (.func 37) [] []), .p (.fn (.func 40) [] []), .fn (.func 41) [] [.ptr 2 0]]), (2, .cells [.ptr 1 0]), (3, .row 1 ((b ++ enc v).map (.int .u8)))] := by
  refine Vl.ind fun v ih hf hn hl hk b hz => ?_
  obtain ⟨k, n, s, l⟩ := v
  have hk : k = 3 := hk
  subst hk
  obtain ⟨hn1, hnl⟩ := hn
  obtain ⟨hll, hls⟩ := hl
  have ih : ∀ x ∈ l, frm x = true → nums x → lens 5000 x → x.kind = 3 → ∀ b : List Int, (b ++ enc x).length ≤ 80000000 →
    ICalls Try.prog 41 3 [(0, .row 1 (b.map (.int .u8))), (1, .cells [.p .nilf, .p (.fn (.func 37) [] []), .p (.fn (.func 40) [] []), .fn (.func 41) [] [.ptr 2 0]]), (2, .cells [.ptr 1 0])] [.rsl 0 1 0 b.length, .p (eW x), .ptr 2 0] (.rsl 3 1 0 (b ++ enc x).length) [(0, .dead), (1, .cells [.p .nilf, .p (.fn (.func 37) [] []), .p (.fn (.func 40) [] []), .fn (.func 41) [] [.ptr 2 0]]), (2, .cells [.ptr 1 0]), (3, .row 1 ((b ++ enc x).map (.int .u8)))] := ih
  have hbl : b.length ≤ 80000000 := by simp at hz; omega
  rw [frm_list] at hf
  simp only [Bool.and_eq_true] at hf
  obtain ⟨_, hfl⟩ := hf
  rw [enc_list] at hz ⊢
  have hz : (b ++ 3 :: (nml l.length ++ encs l)).length ≤ 80000000 := hz
  have hb1 : (b ++ [3] : List Int).length ≤ 100000000 := by simp; omega
  have h10 := nml_len64 (u := l.length) (by omega)
  have hw : IntKind.u64.wrap (((l.map eV).length : Nat) : Int) = (l.length : Int) := by rw [List.length_map]; exact u64len (by omega)
  refine ICalls.of (N := 35) (res := [.tmp 5]) mixed Try.func41 rfl rfl rfl (by kernel_rfl) (by simp) [0, 1, 2, 4, 5, 7, 17, 18, 19, 20] (Nat.le_refl _) ?_
  repeat' (first | exact cl1 | ((with_reducible show Exists _); refine exU8 ?_) | ((with_reducible show callX _ _ _ _ _); (first | refine call_i [259] (numeral3 (b ++ [3]) hb1 l.length (by omega) _ _ _ ?_ ?_ ?_) (by kernel_rfl) rfl rfl (by decide) cl6 (fun i hi => by match i, hi with | 0, _ => rfl) cl7 cl8 (by simp [keys]) ?_)) | ((fail_if_success with_reducible first | show LeG _ _ | show Lp _ _ _ _ | show Exists _ | show callX _ _ _ _ _ | show (_ : Int) ≤ _ | show (_ : Int) < _ | show (_ : Nat) ≤ _ | show (_ : Nat) < _); (conv => whnf) <;> (first | exact cl2 | refine XAlt.l ?_ | refine Sq.pr ?_ | refine Br.dec (fun hc => ?_) (fun hc => ?_) | refine Br.tt ?_ | refine Br.ff ?_ | refine Br.not ?_ | refine Br.mk (fun hc => ?_) (fun hc => ?_) | refine Opt.nn ?_ | refine Opt.ss ?_ | refine AltA.l ?_ | exact PV.leL_nil | refine PV.leL_cons ?_ ?_ | refine And.intro ?_ ?_ | refine ix_map (fun x hx => ?_) | refine exU8 ?_ | refine nilc (fun hn => ?_) ?_ | exact cl3 | refine imp0 (fun hpos => ?_) | refine fits_i64 ?_ ?_ | exact rfl | (with_reducible first | show LeG _ _ | show Lp _ _ _ _ | show Exists _ | show callX _ _ _ _ _)))) <;> (try exact cl5)
  · simp
  · exact hw
  refine Wpc.loopA (α := {i : Nat // i ≤ l.length}) mixed [0, 1, 2, 4, 5, 7, 17, 18, 19, 20] (fun i => [(0, .rsl 579 1 0 (b ++ 3 :: (nml l.length ++ encs (l.take i.1))).length), (19, .p (eI i.1))]) (fun i => [(195, .dead), (579, .row 1 ((b ++ 3 :: (nml l.length ++ encs (l.take i.1))).map (.int .u8)))]) (fun _ => 0) (fun i => l.length - i.1) ⟨0, by omega⟩ ?_ ?_
  · (refine Ent.ofAK [] ?_) <;> (repeat' (first | exact trivial | refine HpLe.dd ?_ | refine HpLe.mk rfl (by simp) rfl (fun h => AObj.noConfusion h) ?_ ?_ | refine And.intro ?_ ?_ | exact cl9 | refine VLe.pe ?_ | refine VLe.agg ?_ | refine VLe.tup ?_ | refine VLe.fn ?_ ?_ | refine VLeL.cons ?_ ?_ | exact VLeL.nil | exact OLe.row _ _ | rfl | refine VLe.rsle rfl ?_ ?_ ?_ | refine OLe.rowe2 ?_ ?_ | refine OLe.mape ?_ ?_ | refine OLe.iter0 ?_ | refine OLe.itere ?_ ?_)) <;> try (first | (simp; done) | (congr 1; omega) | (congr 1; (first | (simp; done) | (simp; omega))))
    all_goals simp [encs]
  rintro ⟨i, hi⟩
  have hi : i ≤ l.length := hi
  cases hxi : l[i]? with
  | none =>
    have hge : l.length ≤ i := List.getElem?_eq_none_iff.1 hxi
    have hno : ¬ ((i : Int) < ((l.map eV).length : Int)) := by rw [List.length_map]; omega
    rw [List.take_of_length_le hge]
    repeat' (first | exact cl1 | ((with_reducible show Exists _); refine exU8 ?_) | ((fail_if_success with_reducible first | show LeG _ _ | show Lp _ _ _ _ | show Exists _ | show callX _ _ _ _ _ | show (_ : Int) ≤ _ | show (_ : Int) < _ | show (_ : Nat) ≤ _ | show (_ : Nat) < _); (conv => whnf) <;> (first | exact cl2 | refine Br.dec (fun hc => absurd hc hno) (fun hc => ?_) | refine XAlt.l ?_ | refine Sq.pr ?_ | refine Br.dec (fun hc => ?_) (fun hc => ?_) | refine Br.tt ?_ | refine Br.ff ?_ | refine Br.not ?_ | refine Br.mk (fun hc => ?_) (fun hc => ?_) | refine Opt.nn ?_ | refine Opt.ss ?_ | refine AltA.l ?_ | exact PV.leL_nil | refine PV.leL_cons ?_ ?_ | refine And.intro ?_ ?_ | refine ix_map (fun x hx => ?_) | refine exU8 ?_ | refine nilc (fun hn => ?_) ?_ | exact cl3 | refine imp0 (fun hpos => ?_) | refine fits_i64 ?_ ?_ | exact rfl | (with_reducible first | show LeG _ _ | show Lp _ _ _ _ | show Exists _ | show callX _ _ _ _ _)))) <;> (try exact cl5)
    refine ⟨[], [(0, 0), (1, 1), (2, 2), (3, 579)], ?_, ?_, by decide, by simp, fun i hi => by match i, hi with | 0, _ => rfl | 1, _ => rfl | 2, _ => rfl⟩ <;> (repeat' (first | exact trivial | refine HpLe.dd ?_ | refine HpLe.mk rfl (by simp) rfl (fun h => AObj.noConfusion h) ?_ ?_ | refine And.intro ?_ ?_ | exact cl9 | refine VLe.pe ?_ | refine VLe.agg ?_ | refine VLe.tup ?_ | refine VLe.fn ?_ ?_ | refine VLeL.cons ?_ ?_ | exact VLeL.nil | exact OLe.row _ _ | rfl | refine VLe.rsle rfl ?_ ?_ ?_ | refine OLe.rowe2 ?_ ?_ | refine OLe.mape ?_ ?_ | refine OLe.iter0 ?_ | refine OLe.itere ?_ ?_))
  | some x =>
    have hlt : i < l.length := (List.getElem?_eq_some_iff.1 hxi).1
    have hyes : ((i : Int) < ((l.map eV).length : Int)) := by rw [List.length_map]; omega
    have hxm := List.mem_of_getElem? hxi
    have htk := encs_take hxi
    have hte := encs_le (l := l) (i := i + 1)
    have hxf := List.all_eq_true.1 hfl x hxm
    have hxn := numsL_mem hnl hxm
    have hxl := lensL_mem hls hxm
    generalize hcur : b ++ 3 :: (nml l.length ++ encs (l.take i)) = cur at *
    have hnext : b ++ 3 :: (nml l.length ++ encs (l.take (i + 1))) = cur ++ enc x := by rw [htk, ← hcur]; simp
    have hcz : (cur ++ enc x).length ≤ 80000000 := by
      rw [← hnext]
      simp only [List.length_cons, List.length_append] at hz ⊢
      omega
    have hcl : cur.length ≤ 80000000 := by simp only [List.length_append] at hcz; omega
    obtain ⟨k', n', s', l'⟩ := x
    have hk' : k' = 1 ∨ k' = 2 ∨ k' = 3 := by
      by_cases h1 : k' = 1
      · exact .inl h1
      · by_cases h2 : k' = 2
        · exact .inr (.inl h2)
        · by_cases h3 : k' = 3
          · exact .inr (.inr h3)
          · rw [frm_other h1 h2 h3] at hxf; cases hxf
    rcases hk' with e | e | e <;> subst e
    · have q3 := wInt cur (by omega) n' hxn.1 s' l'
      repeat' (first | exact cl1 | ((with_reducible show Exists _); refine exU8 ?_) | ((with_reducible show callX _ _ _ _ _); (first | refine call_i [579] (q3) (by kernel_rfl) rfl rfl (by decide) cl6 (fun i hi => by match i, hi with | 0, _ => rfl) cl7 cl8 (by simp [keys]) ?_)) | ((fail_if_success with_reducible first | show LeG _ _ | show Lp _ _ _ _ | show Exists _ | show callX _ _ _ _ _ | show (_ : Int) ≤ _ | show (_ : Int) < _ | show (_ : Nat) ≤ _ | show (_ : Nat) < _); (conv => whnf) <;> (first | exact cl2 | refine Br.dec (fun hc => ?_) (fun hc => absurd hyes hc) | refine ix_v hxi ?_ | refine XAlt.l ?_ | refine Sq.pr ?_ | refine Br.dec (fun hc => ?_) (fun hc => ?_) | refine Br.tt ?_ | refine Br.ff ?_ | refine Br.not ?_ | refine Br.mk (fun hc => ?_) (fun hc => ?_) | refine Opt.nn ?_ | refine Opt.ss ?_ | refine AltA.l ?_ | exact PV.leL_nil | refine PV.leL_cons ?_ ?_ | refine And.intro ?_ ?_ | refine ix_map (fun x hx => ?_) | refine exU8 ?_ | refine nilc (fun hn => ?_) ?_ | exact cl3 | refine imp0 (fun hpos => ?_) | refine fits_i64 ?_ ?_ | exact rfl | (with_reducible first | show LeG _ _ | show Lp _ _ _ _ | show Exists _ | show callX _ _ _ _ _)))) <;> (try exact cl5)
      refine ⟨⟨i + 1, hlt⟩, by show l.length - (i + 1) < l.length - i; omega, ?_⟩
      show Ent _ _ (hdS [0, 1, 2, 4, 5, 7, 17, 18, 19, 20] _ _ _ [(0, .rsl 579 1 0 (b ++ 3 :: (nml l.length ++ encs (l.take (i + 1)))).length), (19, .p (eI ((i + 1 : Nat) : Int)))] [(195, .dead), (579, .row 1 ((b ++ 3 :: (nml l.length ++ encs (l.take (i + 1)))).map (.int .u8)))] _)
      rw [hnext]
      (refine Ent.ofAK [] ?_) <;> (repeat' (first | exact trivial | refine HpLe.dd ?_ | refine HpLe.mk rfl (by simp) rfl (fun h => AObj.noConfusion h) ?_ ?_ | refine And.intro ?_ ?_ | exact cl9 | refine VLe.pe ?_ | refine VLe.agg ?_ | refine VLe.tup ?_ | refine VLe.fn ?_ ?_ | refine VLeL.cons ?_ ?_ | exact VLeL.nil | exact OLe.row _ _ | rfl | refine VLe.rsle rfl ?_ ?_ ?_ | refine OLe.rowe2 ?_ ?_ | refine OLe.mape ?_ ?_ | refine OLe.iter0 ?_ | refine OLe.itere ?_ ?_)) <;> try (first | (simp; done) | (congr 1; omega) | (congr 1; (first | (simp; done) | (simp; omega))))
    · have hs' : s'.size ≤ 90000000 := by
        have := bytes_len s'
        rw [enc_text] at hcz
        simp only [List.length_cons, List.length_append] at hcz; omega
      have q3 := wText cur (by omega) n' s' hs' l' (by omega)
      repeat' (first | exact cl1 | ((with_reducible show Exists _); refine exU8 ?_) | ((with_reducible show callX _ _ _ _ _); (first | refine call_i [579] (q3) (by kernel_rfl) rfl rfl (by decide) cl6 (fun i hi => by match i, hi with | 0, _ => rfl) cl7 cl8 (by simp [keys]) ?_)) | ((fail_if_success with_reducible first | show LeG _ _ | show Lp _ _ _ _ | show Exists _ | show callX _ _ _ _ _ | show (_ : Int) ≤ _ | show (_ : Int) < _ | show (_ : Nat) ≤ _ | show (_ : Nat) < _); (conv => whnf) <;> (first | exact cl2 | refine Br.dec (fun hc => ?_) (fun hc => absurd hyes hc) | refine ix_v hxi ?_ | refine XAlt.l ?_ | refine Sq.pr ?_ | refine Br.dec (fun hc => ?_) (fun hc => ?_) | refine Br.tt ?_ | refine Br.ff ?_ | refine Br.not ?_ | refine Br.mk (fun hc => ?_) (fun hc => ?_) | refine Opt.nn ?_ | refine Opt.ss ?_ | refine AltA.l ?_ | exact PV.leL_nil | refine PV.leL_cons ?_ ?_ | refine And.intro ?_ ?_ | refine ix_map (fun x hx => ?_) | refine exU8 ?_ | refine nilc (fun hn => ?_) ?_ | exact cl3 | refine imp0 (fun hpos => ?_) | refine fits_i64 ?_ ?_ | exact rfl | (with_reducible first | show LeG _ _ | show Lp _ _ _ _ | show Exists _ | show callX _ _ _ _ _)))) <;> (try exact cl5)
      refine ⟨⟨i + 1, hlt⟩, by show l.length - (i + 1) < l.length - i; omega, ?_⟩
      show Ent _ _ (hdS [0, 1, 2, 4, 5, 7, 17, 18, 19, 20] _ _ _ [(0, .rsl 579 1 0 (b ++ 3 :: (nml l.length ++ encs (l.take (i + 1)))).length), (19, .p (eI ((i + 1 : Nat) : Int)))] [(195, .dead), (579, .row 1 ((b ++ 3 :: (nml l.length ++ encs (l.take (i + 1)))).map (.int .u8)))] _)
      rw [hnext]
      (refine Ent.ofAK [] ?_) <;> (repeat' (first | exact trivial | refine HpLe.dd ?_ | refine HpLe.mk rfl (by simp) rfl (fun h => AObj.noConfusion h) ?_ ?_ | refine And.intro ?_ ?_ | exact cl9 | refine VLe.pe ?_ | refine VLe.agg ?_ | refine VLe.tup ?_ | refine VLe.fn ?_ ?_ | refine VLeL.cons ?_ ?_ | exact VLeL.nil | exact OLe.row _ _ | rfl | refine VLe.rsle rfl ?_ ?_ ?_ | refine OLe.rowe2 ?_ ?_ | refine OLe.mape ?_ ?_ | refine OLe.iter0 ?_ | refine OLe.itere ?_ ?_)) <;> try (first | (simp; done) | (congr 1; omega) | (congr 1; (first | (simp; done) | (simp; omega))))
    · have q3 := ih _ hxm hxf hxn hxl rfl cur hcz
      repeat' (first | exact cl1 | ((with_reducible show Exists _); refine exU8 ?_) | ((with_reducible show callX _ _ _ _ _); (first | refine call_i [579, 1, 2] (q3) (by kernel_rfl) rfl rfl (by decide) cl6 (fun i hi => by match i, hi with | 0, _ => rfl | 1, _ => rfl | 2, _ => rfl) cl7 cl8 (by simp [keys]) ?_)) | ((fail_if_success with_reducible first | show LeG _ _ | show Lp _ _ _ _ | show Exists _ | show callX _ _ _ _ _ | show (_ : Int) ≤ _ | show (_ : Int) < _ | show (_ : Nat) ≤ _ | show (_ : Nat) < _); (conv => whnf) <;> (first | exact cl2 | refine Br.dec (fun hc => ?_) (fun hc => absurd hyes hc) | refine ix_v hxi ?_ | refine XAlt.l ?_ | refine Sq.pr ?_ | refine Br.dec (fun hc => ?_) (fun hc => ?_) | refine Br.tt ?_ | refine Br.ff ?_ | refine Br.not ?_ | refine Br.mk (fun hc => ?_) (fun hc => ?_) | refine Opt.nn ?_ | refine Opt.ss ?_ | refine AltA.l ?_ | exact PV.leL_nil | refine PV.leL_cons ?_ ?_ | refine And.intro ?_ ?_ | refine ix_map (fun x hx => ?_) | refine exU8 ?_ | refine nilc (fun hn => ?_) ?_ | exact cl3 | refine imp0 (fun hpos => ?_) | refine fits_i64 ?_ ?_ | exact rfl | (with_reducible first | show LeG _ _ | show Lp _ _ _ _ | show Exists _ | show callX _ _ _ _ _)))) <;> (try exact cl5)
      refine ⟨⟨i + 1, hlt⟩, by show l.length - (i + 1) < l.length - i; omega, ?_⟩
      show Ent _ _ (hdS [0, 1, 2, 4, 5, 7, 17, 18, 19, 20] _ _ _ [(0, .rsl 579 1 0 (b ++ 3 :: (nml l.length ++ encs (l.take (i + 1)))).length), (19, .p (eI ((i + 1 : Nat) : Int)))] [(195, .dead), (579, .row 1 ((b ++ 3 :: (nml l.length ++ encs (l.take (i + 1)))).map (.int .u8)))] _)
      rw [hnext]
      (refine Ent.ofAK [] ?_) <;> (repeat' (first | exact trivial | refine HpLe.dd ?_ | refine HpLe.mk rfl (by simp) rfl (fun h => AObj.noConfusion h) ?_ ?_ | refine And.intro ?_ ?_ | exact cl9 | refine VLe.pe ?_ | refine VLe.agg ?_ | refine VLe.tup ?_ | refine VLe.fn ?_ ?_ | refine VLeL.cons ?_ ?_ | exact VLeL.nil | exact OLe.row _ _ | rfl | refine VLe.rsle rfl ?_ ?_ ?_ | refine OLe.rowe2 ?_ ?_ | refine OLe.mape ?_ ?_ | refine OLe.iter0 ?_ | refine OLe.itere ?_ ?_)) <;> try (first | (simp; done) | (congr 1; omega) | (congr 1; (first | (simp; done) | (simp; omega))))
theorem wList0 (v : Vl) (hf : frm v = true) (hn : nums v) (hl : lens 5000 v) (hk : v.kind = 3) (hz : (enc v).length ≤ 80000000) :
    ICalls Try.prog 41 2 [(0, .cells [.p .nilf, .p (.fn (.func 37) [] []), .p (.fn (.func 40) [] []), .fn (.func 41) [] [.ptr 1 0]]), (1, .cells [.ptr 0 0])] [.p (.sl 0 true []), .p (eW v), .ptr 1 0] (.rsl 2 1 0 (enc v).length) [(0, .cells [.p .nilf, .p (.fn (.func 37) [] []), .p (.fn (.func 40) [] []), .fn (.func 41) [] [.ptr 1 0]]), (1, .cells [.ptr 0 0]), (2, .row 1 ((enc v).map (.int .u8)))] := by
  obtain ⟨k, n, s, l⟩ := v
  have hk : k = 3 := hk
  subst hk
  obtain ⟨hn1, hnl⟩ := hn
  obtain ⟨hll, hls⟩ := hl
  rw [frm_list] at hf
  simp only [Bool.and_eq_true] at hf
  obtain ⟨_, hfl⟩ := hf
  rw [enc_list] at hz ⊢
  have hz : (3 :: (nml l.length ++ encs l)).length ≤ 80000000 := hz
  have hb1 : ([3] : List Int).length ≤ 100000000 := by simp
  have h10 := nml_len64 (u := l.length) (by omega)
  have hw : IntKind.u64.wrap (((l.map eV).length : Nat) : Int) = (l.length : Int) := by rw [List.length_map]; exact u64len (by omega)
  refine ICalls.of (N := 35) (res := [.tmp 5]) mixed Try.func41 rfl rfl rfl (by kernel_rfl) (by simp) [0, 1, 2, 4, 5, 7, 17, 18, 19, 20] (Nat.le_refl _) ?_
  repeat' (first | exact cl1 | ((with_reducible show Exists _); refine exU8 ?_) | ((with_reducible show callX _ _ _ _ _); (first | refine call_i [258] (numeral3 ([3]) hb1 l.length (by omega) _ _ _ ?_ ?_ ?_) (by kernel_rfl) rfl rfl (by decide) cl6 (fun i hi => by match i, hi with | 0, _ => rfl) cl7 cl8 (by simp [keys]) ?_)) | ((fail_if_success with_reducible first | show LeG _ _ | show Lp _ _ _ _ | show Exists _ | show callX _ _ _ _ _ | show (_ : Int) ≤ _ | show (_ : Int) < _ | show (_ : Nat) ≤ _ | show (_ : Nat) < _); (conv => whnf) <;> (first | exact cl2 | refine XAlt.l ?_ | refine Sq.pr ?_ | refine Br.dec (fun hc => ?_) (fun hc => ?_) | refine Br.tt ?_ | refine Br.ff ?_ | refine Br.not ?_ | refine Br.mk (fun hc => ?_) (fun hc => ?_) | refine Opt.nn ?_ | refine Opt.ss ?_ | refine AltA.l ?_ | exact PV.leL_nil | refine PV.leL_cons ?_ ?_ | refine And.intro ?_ ?_ | refine ix_map (fun x hx => ?_) | refine exU8 ?_ | refine nilc (fun hn => ?_) ?_ | exact cl3 | refine imp0 (fun hpos => ?_) | refine fits_i64 ?_ ?_ | exact rfl | (with_reducible first | show LeG _ _ | show Lp _ _ _ _ | show Exists _ | show callX _ _ _ _ _)))) <;> (try exact cl5)
  · exact hw
  refine Wpc.loopA (α := {i : Nat // i ≤ l.length}) mixed [0, 1, 2, 4, 5, 7, 17, 18, 19, 20] (fun i => [(0, .rsl 578 1 0 (3 :: (nml l.length ++ encs (l.take i.1))).length), (19, .p (eI i.1))]) (fun i => [(194, .dead), (578, .row 1 ((3 :: (nml l.length ++ encs (l.take i.1))).map (.int .u8)))]) (fun _ => 0) (fun i => l.length - i.1) ⟨0, by omega⟩ ?_ ?_
  · (refine Ent.ofAK [] ?_) <;> (repeat' (first | exact trivial | refine HpLe.dd ?_ | refine HpLe.mk rfl (by simp) rfl (fun h => AObj.noConfusion h) ?_ ?_ | refine And.intro ?_ ?_ | exact cl9 | refine VLe.pe ?_ | refine VLe.agg ?_ | refine VLe.tup ?_ | refine VLe.fn ?_ ?_ | refine VLeL.cons ?_ ?_ | exact VLeL.nil | exact OLe.row _ _ | rfl | refine VLe.rsle rfl ?_ ?_ ?_ | refine OLe.rowe2 ?_ ?_ | refine OLe.mape ?_ ?_ | refine OLe.iter0 ?_ | refine OLe.itere ?_ ?_)) <;> try (first | (simp; done) | (congr 1; omega) | (congr 1; (first | (simp; done) | (simp; omega))))
    all_goals simp [encs]
  rintro ⟨i, hi⟩
  have hi : i ≤ l.length := hi
  cases hxi : l[i]? with
  | none =>
    have hge : l.length ≤ i := List.getElem?_eq_none_iff.1 hxi
    have hno : ¬ ((i : Int) < ((l.map eV).length : Int)) := by rw [List.length_map]; omega
    rw [List.take_of_length_le hge]
    repeat' (first | exact cl1 | ((with_reducible show Exists _); refine exU8 ?_) | ((fail_if_success with_reducible first | show LeG _ _ | show Lp _ _ _ _ | show Exists _ | show callX _ _ _ _ _ | show (_ : Int) ≤ _ | show (_ : Int) < _ | show (_ : Nat) ≤ _ | show (_ : Nat) < _); (conv => whnf) <;> (first | exact cl2 | refine Br.dec (fun hc => absurd hc hno) (fun hc => ?_) | refine XAlt.l ?_ | refine Sq.pr ?_ | refine Br.dec (fun hc => ?_) (fun hc => ?_) | refine Br.tt ?_ | refine Br.ff ?_ | refine Br.not ?_ | refine Br.mk (fun hc => ?_) (fun hc => ?_) | refine Opt.nn ?_ | refine Opt.ss ?_ | refine AltA.l ?_ | exact PV.leL_nil | refine PV.leL_cons ?_ ?_ | refine And.intro ?_ ?_ | refine ix_map (fun x hx => ?_) | refine exU8 ?_ | refine nilc (fun hn => ?_) ?_ | exact cl3 | refine imp0 (fun hpos => ?_) | refine fits_i64 ?_ ?_ | exact rfl | (with_reducible first | show LeG _ _ | show Lp _ _ _ _ | show Exists _ | show callX _ _ _ _ _)))) <;> (try exact cl5)
    refine ⟨[], [(0, 0), (1, 1), (2, 578)], ?_, ?_, by decide, by simp, fun i hi => by match i, hi with | 0, _ => rfl | 1, _ => rfl⟩ <;> (repeat' (first | exact trivial | refine HpLe.dd ?_ | refine HpLe.mk rfl (by simp) rfl (fun h => AObj.noConfusion h) ?_ ?_ | refine And.intro ?_ ?_ | exact cl9 | refine VLe.pe ?_ | refine VLe.agg ?_ | refine VLe.tup ?_ | refine VLe.fn ?_ ?_ | refine VLeL.cons ?_ ?_ | exact VLeL.nil | exact OLe.row _ _ | rfl | refine VLe.rsle rfl ?_ ?_ ?_ | refine OLe.rowe2 ?_ ?_ | refine OLe.mape ?_ ?_ | refine OLe.iter0 ?_ | refine OLe.itere ?_ ?_))
  | some x =>
    have hlt : i < l.length := (List.getElem?_eq_some_iff.1 hxi).1
    have hyes : ((i : Int) < ((l.map eV).length : Int)) := by rw [List.length_map]; omega
    have hxm := List.mem_of_getElem? hxi
    have htk := encs_take hxi
    have hte := encs_le (l := l) (i := i + 1)
    have hxf := List.all_eq_true.1 hfl x hxm
    have hxn := numsL_mem hnl hxm
    have hxl := lensL_mem hls hxm
    generalize hcur : 3 :: (nml l.length ++ encs (l.take i)) = cur at *
    have hnext : 3 :: (nml l.length ++ encs (l.take (i + 1))) = cur ++ enc x := by rw [htk, ← hcur]; simp
    have hcz : (cur ++ enc x).length ≤ 80000000 := by
      rw [← hnext]
      simp only [List.length_cons, List.length_append] at hz ⊢
      omega
    have hcl : cur.length ≤ 80000000 := by simp only [List.length_append] at hcz; omega
    obtain ⟨k', n', s', l'⟩ := x
    have hk' : k' = 1 ∨ k' = 2 ∨ k' = 3 := by
      by_cases h1 : k' = 1
      · exact .inl h1
      · by_cases h2 : k' = 2
        · exact .inr (.inl h2)
        · by_cases h3 : k' = 3
          · exact .inr (.inr h3)
          · rw [frm_other h1 h2 h3] at hxf; cases hxf
    rcases hk' with e | e | e <;> subst e
    · have q3 := wInt cur (by omega) n' hxn.1 s' l'
      repeat' (first | exact cl1 | ((with_reducible show Exists _); refine exU8 ?_) | ((with_reducible show callX _ _ _ _ _); (first | refine call_i [578] (q3) (by kernel_rfl) rfl rfl (by decide) cl6 (fun i hi => by match i, hi with | 0, _ => rfl) cl7 cl8 (by simp [keys]) ?_)) | ((fail_if_success with_reducible first | show LeG _ _ | show Lp _ _ _ _ | show Exists _ | show callX _ _ _ _ _ | show (_ : Int) ≤ _ | show (_ : Int) < _ | show (_ : Nat) ≤ _ | show (_ : Nat) < _); (conv => whnf) <;> (first | exact cl2 | refine Br.dec (fun hc => ?_) (fun hc => absurd hyes hc) | refine ix_v hxi ?_ | refine XAlt.l ?_ | refine Sq.pr ?_ | refine Br.dec (fun hc => ?_) (fun hc => ?_) | refine Br.tt ?_ | refine Br.ff ?_ | refine Br.not ?_ | refine Br.mk (fun hc => ?_) (fun hc => ?_) | refine Opt.nn ?_ | refine Opt.ss ?_ | refine AltA.l ?_ | exact PV.leL_nil | refine PV.leL_cons ?_ ?_ | refine And.intro ?_ ?_ | refine ix_map (fun x hx => ?_) | refine exU8 ?_ | refine nilc (fun hn => ?_) ?_ | exact cl3 | refine imp0 (fun hpos => ?_) | refine fits_i64 ?_ ?_ | exact rfl | (with_reducible first | show LeG _ _ | show Lp _ _ _ _ | show Exists _ | show callX _ _ _ _ _)))) <;> (try exact cl5)
      refine ⟨⟨i + 1, hlt⟩, by show l.length - (i + 1) < l.length - i; omega, ?_⟩
      show Ent _ _ (hdS [0, 1, 2, 4, 5, 7, 17, 18, 19, 20] _ _ _ [(0, .rsl 578 1 0 (3 :: (nml l.length ++ encs (l.take (i + 1)))).length), (19, .p (eI ((i + 1 : Nat) : Int)))] [(194, .dead), (578, .row 1 ((3 :: (nml l.length ++ encs (l.take (i + 1)))).map (.int .u8)))] _)
      rw [hnext]
      (refine Ent.ofAK [] ?_) <;> (repeat' (first | exact trivial | refine HpLe.dd ?_ | refine HpLe.mk rfl (by simp) rfl (fun h => AObj.noConfusion h) ?_ ?_ | refine And.intro ?_ ?_ | exact cl9 | refine VLe.pe ?_ | refine VLe.agg ?_ | refine VLe.tup ?_ | refine VLe.fn ?_ ?_ | refine VLeL.cons ?_ ?_ | exact VLeL.nil | exact OLe.row _ _ | rfl | refine VLe.rsle rfl ?_ ?_ ?_ | refine OLe.rowe2 ?_ ?_ | refine OLe.mape ?_ ?_ | refine OLe.iter0 ?_ | refine OLe.itere ?_ ?_)) <;> try (first | (simp; done) | (congr 1; omega) | (congr 1; (first | (simp; done) | (simp; omega))))
    · have hs' : s'.size ≤ 90000000 := by
        have := bytes_len s'
        rw [enc_text] at hcz
        simp only [List.length_cons, List.length_append] at hcz; omega
      have q3 := wText cur (by omega) n' s' hs' l' (by omega)
      repeat' (first | exact cl1 | ((with_reducible show Exists _); refine exU8 ?_) | ((with_reducible show callX _ _ _ _ _); (first | refine call_i [578] (q3) (by kernel_rfl) rfl rfl (by decide) cl6 (fun i hi => by match i, hi with | 0, _ => rfl) cl7 cl8 (by simp [keys]) ?_)) | ((fail_if_success with_reducible first | show LeG _ _ | show Lp _ _ _ _ | show Exists _ | show callX _ _ _ _ _ | show (_ : Int) ≤ _ | show (_ : Int) < _ | show (_ : Nat) ≤ _ | show (_ : Nat) < _); (conv => whnf) <;> (first | exact cl2 | refine Br.dec (fun hc => ?_) (fun hc => absurd hyes hc) | refine ix_v hxi ?_ | refine XAlt.l ?_ | refine Sq.pr ?_ | refine Br.dec (fun hc => ?_) (fun hc => ?_) | refine Br.tt ?_ | refine Br.ff ?_ | refine Br.not ?_ | refine Br.mk (fun hc => ?_) (fun hc => ?_) | refine Opt.nn ?_ | refine Opt.ss ?_ | refine AltA.l ?_ | exact PV.leL_nil | refine PV.leL_cons ?_ ?_ | refine And.intro ?_ ?_ | refine ix_map (fun x hx => ?_) | refine exU8 ?_ | refine nilc (fun hn => ?_) ?_ | exact cl3 | refine imp0 (fun hpos => ?_) | refine fits_i64 ?_ ?_ | exact rfl | (with_reducible first | show LeG _ _ | show Lp _ _ _ _ | show Exists _ | show callX _ _ _ _ _)))) <;> (try exact cl5)
      refine ⟨⟨i + 1, hlt⟩, by show l.length - (i + 1) < l.length - i; omega, ?_⟩
      show Ent _ _ (hdS [0, 1, 2, 4, 5, 7, 17, 18, 19, 20] _ _ _ [(0, .rsl 578 1 0 (3 :: (nml l.length ++ encs (l.take (i + 1)))).length), (19, .p (eI ((i + 1 : Nat) : Int)))] [(194, .dead), (578, .row 1 ((3 :: (nml l.length ++ encs (l.take (i + 1)))).map (.int .u8)))] _)
      rw [hnext]
      (refine Ent.ofAK [] ?_) <;> (repeat' (first | exact trivial | refine HpLe.dd ?_ | refine HpLe.mk rfl (by simp) rfl (fun h => AObj.noConfusion h) ?_ ?_ | refine And.intro ?_ ?_ | exact cl9 | refine VLe.pe ?_ | refine VLe.agg ?_ | refine VLe.tup ?_ | refine VLe.fn ?_ ?_ | refine VLeL.cons ?_ ?_ | exact VLeL.nil | exact OLe.row _ _ | rfl | refine VLe.rsle rfl ?_ ?_ ?_ | refine OLe.rowe2 ?_ ?_ | refine OLe.mape ?_ ?_ | refine OLe.iter0 ?_ | refine OLe.itere ?_ ?_)) <;> try (first | (simp; done) | (congr 1; omega) | (congr 1; (first | (simp; done) | (simp; omega))))
    · have q3 := wList _ hxf hxn hxl rfl cur hcz
      repeat' (first | exact cl1 | ((with_reducible show Exists _); refine exU8 ?_) | ((with_reducible show callX _ _ _ _ _); (first | refine call_i [578, 0, 1] (q3) (by kernel_rfl) rfl rfl (by decide) cl6 (fun i hi => by match i, hi with | 0, _ => rfl | 1, _ => rfl | 2, _ => rfl) cl7 cl8 (by simp [keys]) ?_)) | ((fail_if_success with_reducible first | show LeG _ _ | show Lp _ _ _ _ | show Exists _ | show callX _ _ _ _ _ | show (_ : Int) ≤ _ | show (_ : Int) < _ | show (_ : Nat) ≤ _ | show (_ : Nat) < _); (conv => whnf) <;> (first | exact cl2 | refine Br.dec (fun hc => ?_) (fun hc => absurd hyes hc) | refine ix_v hxi ?_ | refine XAlt.l ?_ | refine Sq.pr ?_ | refine Br.dec (fun hc => ?_) (fun hc => ?_) | refine Br.tt ?_ | refine Br.ff ?_ | refine Br.not ?_ | refine Br.mk (fun hc => ?_) (fun hc => ?_) | refine Opt.nn ?_ | refine Opt.ss ?_ | refine AltA.l ?_ | exact PV.leL_nil | refine PV.leL_cons ?_ ?_ | refine And.intro ?_ ?_ | refine ix_map (fun x hx => ?_) | refine exU8 ?_ | refine nilc (fun hn => ?_) ?_ | exact cl3 | refine imp0 (fun hpos => ?_) | refine fits_i64 ?_ ?_ | exact rfl | (with_reducible first | show LeG _ _ | show Lp _ _ _ _ | show Exists _ | show callX _ _ _ _ _)))) <;> (try exact cl5)
      refine ⟨⟨i + 1, hlt⟩, by show l.length - (i + 1) < l.length - i; omega, ?_⟩
      show Ent _ _ (hdS [0, 1, 2, 4, 5, 7, 17, 18, 19, 20] _ _ _ [(0, .rsl 578 1 0 (3 :: (nml l.length ++ encs (l.take (i + 1)))).length), (19, .p (eI ((i + 1 : Nat) : Int)))] [(194, .dead), (578, .row 1 ((3 :: (nml l.length ++ encs (l.take (i + 1)))).map (.int .u8)))] _)
      rw [hnext]
      (refine Ent.ofAK [] ?_) <;> (repeat' (first | exact trivial | refine HpLe.dd ?_ | refine HpLe.mk rfl (by simp) rfl (fun h => AObj.noConfusion h) ?_ ?_ | refine And.intro ?_ ?_ | exact cl9 | refine VLe.pe ?_ | refine VLe.agg ?_ | refine VLe.tup ?_ | refine VLe.fn ?_ ?_ | refine VLeL.cons ?_ ?_ | exact VLeL.nil | exact OLe.row _ _ | rfl | refine VLe.rsle rfl ?_ ?_ ?_ | refine OLe.rowe2 ?_ ?_ | refine OLe.mape ?_ ?_ | refine OLe.iter0 ?_ | refine OLe.itere ?_ ?_)) <;> try (first | (simp; done) | (congr 1; omega) | (congr 1; (first | (simp; done) | (simp; omega))))
end Go.Proofs.Ytkgjhghbnocnbaa

namespace Go.Proofs.Ytkgjhghbnocnbaa
open Go Go.Sg
set_option maxRecDepth 100000
set_option maxHeartbeats 20000000
/-- Small enough for everything. -/
structure Ok (v : Vl) : Prop where
  sm : Sm v
  nm : nums v
  sz : chkV v = 0 → (enc v).length ≤ 80000000
def encA (v : Vl) : List Int × Int := if chkV v = 0 then (enc v, 0) else ([], chkV v)
theorem chk_frm {v : Vl} (h : chkV v = 0) : frm v = true := by
  unfold chkV at h
  cases hf : frm v with
  | true => rfl
  | false => rw [hf] at h; cases h
theorem kind_of {k n : Int} {s : ByteArray} {l : List Vl} (h : frm (.mk k n s l) = true) : k = 1 ∨ k = 2 ∨ k = 3 := by
  by_cases h1 : k = 1
  · exact .inl h1
  · by_cases h2 : k = 2
    · exact .inr (.inl h2)
    · by_cases h3 : k = 3
      · exact .inr (.inr h3)
      · rw [frm_other h1 h2 h3] at h; cases h
theorem leE {z : Nat} {e : PV} : PV.le (.tup [.sl z true [], e]) (.tup [eB [], e]) := PV.le_tup (PV.leL_cons (PV.le_nil _ _ _) (PV.leL_refl _))
theorem leEnc (L : List Int) : LeG (.tup [.sl 1 false (List.take L.length (List.drop 0 (L.map (PV.int .u8)))), eI 0]) (.tup [eB L, eI 0]) :=
  LeG.of (by rw [List.drop_zero, List.take_of_length_le (by simp)]; rfl)
theorem leSz (L : List Int) (e : PV) : LeG (.tup [.int .i64 ((L.map (PV.int .u8)).length : Nat), e]) (.tup [eI L.length, e]) :=
  LeG.of (by rw [List.length_map]; rfl)
theorem encode_calls (v : Vl) (h : Ok v) : PCalls Try.prog 12 [eW v] (.tup [eB (encA v).1, eI (encA v).2]) := by
  have q1 := check_calls v h.sm
  unfold encA
  by_cases hc : chkV v = 0
  · rw [if_pos hc]
    rw [hc] at q1
    have hf := chk_frm hc
    have hz := h.sz hc
    have q2 := newWriter_calls
    have hnm := h.nm
    have hln := h.sm.1
    obtain ⟨k, n, s, l⟩ := v
    rcases kind_of hf with e | e | e <;> subst e
    · have q3 := wInt0 n hnm.1 s l
      refine PCalls.of (N := 19) (res := [.tmp 2, .tmp 3]) mixed Try.func12 rfl rfl rfl (by kernel_rfl) (by simp) [0, 1, 2, 3, 4, 8] ?_
      repeat' (first | exact cl1 | ((with_reducible show Exists _); refine exU8 ?_) | ((with_reducible show callX _ _ _ _ _); (first | refine call_p (q1) (by kernel_rfl) rfl ?_ | refine call_i [] (q2) (by kernel_rfl) rfl rfl (by simp) (by simp) (by simp) (fun _ _ => rfl) (by simp) (by simp [keys]) ?_ | refine call_i [] (q3) (by kernel_rfl) rfl rfl (by simp) (by simp) (by simp) (fun _ _ => rfl) (by simp) (by simp [keys]) ?_)) | ((fail_if_success with_reducible first | show LeG _ _ | show Lp _ _ _ _ | show Exists _ | show callX _ _ _ _ _ | show (_ : Int) ≤ _ | show (_ : Int) < _ | show (_ : Nat) ≤ _ | show (_ : Nat) < _); (conv => whnf) <;> (first | exact cl2 | refine XAlt.l ?_ | refine Sq.pr ?_ | refine Br.dec (fun hc => ?_) (fun hc => ?_) | refine Br.tt ?_ | refine Br.ff ?_ | refine Br.not ?_ | refine Br.mk (fun hc => ?_) (fun hc => ?_) | refine Opt.nn ?_ | refine Opt.ss ?_ | refine AltA.l ?_ | exact PV.leL_nil | refine PV.leL_cons ?_ ?_ | refine And.intro ?_ ?_ | refine ix_map (fun x hx => ?_) | refine exU8 ?_ | refine nilc (fun hn => ?_) ?_ | exact cl3 | refine imp0 (fun hpos => ?_) | refine fits_i64 ?_ ?_ | exact rfl | (with_reducible first | show LeG _ _ | show Lp _ _ _ _ | show Exists _ | show callX _ _ _ _ _)))) <;> (try exact cl5)
      exact leEnc _
    · have hs' : s.size ≤ 90000000 := by
        have := bytes_len s
        rw [enc_text] at hz
        simp only [List.length_cons, List.length_append] at hz; omega
      have q3 := wText0 n s hs' l (by omega)
      refine PCalls.of (N := 19) (res := [.tmp 2, .tmp 3]) mixed Try.func12 rfl rfl rfl (by kernel_rfl) (by simp) [0, 1, 2, 3, 4, 8] ?_
      repeat' (first | exact cl1 | ((with_reducible show Exists _); refine exU8 ?_) | ((with_reducible show callX _ _ _ _ _); (first | refine call_p (q1) (by kernel_rfl) rfl ?_ | refine call_i [] (q2) (by kernel_rfl) rfl rfl (by simp) (by simp) (by simp) (fun _ _ => rfl) (by simp) (by simp [keys]) ?_ | refine call_i [] (q3) (by kernel_rfl) rfl rfl (by simp) (by simp) (by simp) (fun _ _ => rfl) (by simp) (by simp [keys]) ?_)) | ((fail_if_success with_reducible first | show LeG _ _ | show Lp _ _ _ _ | show Exists _ | show callX _ _ _ _ _ | show (_ : Int) ≤ _ | show (_ : Int) < _ | show (_ : Nat) ≤ _ | show (_ : Nat) < _); (conv => whnf) <;> (first | exact cl2 | refine XAlt.l ?_ | refine Sq.pr ?_ | refine Br.dec (fun hc => ?_) (fun hc => ?_) | refine Br.tt ?_ | refine Br.ff ?_ | refine Br.not ?_ | refine Br.mk (fun hc => ?_) (fun hc => ?_) | refine Opt.nn ?_ | refine Opt.ss ?_ | refine AltA.l ?_ | exact PV.leL_nil | refine PV.leL_cons ?_ ?_ | refine And.intro ?_ ?_ | refine ix_map (fun x hx => ?_) | refine exU8 ?_ | refine nilc (fun hn => ?_) ?_ | exact cl3 | refine imp0 (fun hpos => ?_) | refine fits_i64 ?_ ?_ | exact rfl | (with_reducible first | show LeG _ _ | show Lp _ _ _ _ | show Exists _ | show callX _ _ _ _ _)))) <;> (try exact cl5)
      exact leEnc _
    · have q3 := wList0 _ hf hnm hln rfl hz
      refine PCalls.of (N := 19) (res := [.tmp 2, .tmp 3]) mixed Try.func12 rfl rfl rfl (by kernel_rfl) (by simp) [0, 1, 2, 3, 4, 8] ?_
      repeat' (first | exact cl1 | ((with_reducible show Exists _); refine exU8 ?_) | ((with_reducible show callX _ _ _ _ _); (first | refine call_p (q1) (by kernel_rfl) rfl ?_ | refine call_i [] (q2) (by kernel_rfl) rfl rfl (by simp) (by simp) (by simp) (fun _ _ => rfl) (by simp) (by simp [keys]) ?_ | refine call_i [512, 513] (q3) (by kernel_rfl) rfl rfl (by decide) cl6 (fun i hi => by match i, hi with | 0, _ => rfl | 1, _ => rfl) cl7 cl8 (by simp [keys]) ?_)) | ((fail_if_success with_reducible first | show LeG _ _ | show Lp _ _ _ _ | show Exists _ | show callX _ _ _ _ _ | show (_ : Int) ≤ _ | show (_ : Int) < _ | show (_ : Nat) ≤ _ | show (_ : Nat) < _); (conv => whnf) <;> (first | exact cl2 | refine XAlt.l ?_ | refine Sq.pr ?_ | refine Br.dec (fun hc => ?_) (fun hc => ?_) | refine Br.tt ?_ | refine Br.ff ?_ | refine Br.not ?_ | refine Br.mk (fun hc => ?_) (fun hc => ?_) | refine Opt.nn ?_ | refine Opt.ss ?_ | refine AltA.l ?_ | exact PV.leL_nil | refine PV.leL_cons ?_ ?_ | refine And.intro ?_ ?_ | refine ix_map (fun x hx => ?_) | refine exU8 ?_ | refine nilc (fun hn => ?_) ?_ | exact cl3 | refine imp0 (fun hpos => ?_) | refine fits_i64 ?_ ?_ | exact rfl | (with_reducible first | show LeG _ _ | show Lp _ _ _ _ | show Exists _ | show callX _ _ _ _ _)))) <;> (try exact cl5)
      exact leEnc _
  · rw [if_neg hc]
    refine PCalls.of (N := 19) (res := [.tmp 2, .tmp 3]) mixed Try.func12 rfl rfl rfl (by kernel_rfl) (by simp) [0, 1, 2, 3, 4, 8] ?_
    repeat' (first | exact cl1 | ((with_reducible show Exists _); refine exU8 ?_) | ((with_reducible show callX _ _ _ _ _); (first | refine call_p (q1) (by kernel_rfl) rfl ?_)) | ((fail_if_success with_reducible first | show LeG _ _ | show Lp _ _ _ _ | show Exists _ | show callX _ _ _ _ _ | show (_ : Int) ≤ _ | show (_ : Int) < _ | show (_ : Nat) ≤ _ | show (_ : Nat) < _); (conv => whnf) <;> (first | exact cl2 | refine Br.dec (fun hh => ?_) (fun hh => absurd hc hh) | refine XAlt.l ?_ | refine Sq.pr ?_ | refine Br.dec (fun hc => ?_) (fun hc => ?_) | refine Br.tt ?_ | refine Br.ff ?_ | refine Br.not ?_ | refine Br.mk (fun hc => ?_) (fun hc => ?_) | refine Opt.nn ?_ | refine Opt.ss ?_ | refine AltA.l ?_ | exact PV.leL_nil | refine PV.leL_cons ?_ ?_ | refine And.intro ?_ ?_ | refine ix_map (fun x hx => ?_) | refine exU8 ?_ | refine nilc (fun hn => ?_) ?_ | exact cl3 | refine imp0 (fun hpos => ?_) | refine fits_i64 ?_ ?_ | exact rfl | (with_reducible first | show LeG _ _ | show Lp _ _ _ _ | show Exists _ | show callX _ _ _ _ _)))) <;> (try exact cl5)
    all_goals exact LeG.mk leE
theorem size_calls (v : Vl) (h : Ok v) : PCalls Try.prog 14 [eW v] (.tup [eI (encA v).1.length, eI (encA v).2]) := by
  have q1 := encode_calls v h
  refine PCalls.of (N := 13) (res := [.tmp 2, .tmp 3]) mixed Try.func14 rfl rfl rfl (by kernel_rfl) (by simp) [0, 1, 2, 3, 4] ?_
  repeat' (first | exact cl1 | ((with_reducible show Exists _); refine exU8 ?_) | ((with_reducible show callX _ _ _ _ _); (first | refine call_p (q1) (by kernel_rfl) rfl ?_)) | ((fail_if_success with_reducible first | show LeG _ _ | show Lp _ _ _ _ | show Exists _ | show callX _ _ _ _ _ | show (_ : Int) ≤ _ | show (_ : Int) < _ | show (_ : Nat) ≤ _ | show (_ : Nat) < _); (conv => whnf) <;> (first | exact cl2 | refine XAlt.l ?_ | refine Sq.pr ?_ | refine Br.dec (fun hc => ?_) (fun hc => ?_) | refine Br.tt ?_ | refine Br.ff ?_ | refine Br.not ?_ | refine Br.mk (fun hc => ?_) (fun hc => ?_) | refine Opt.nn ?_ | refine Opt.ss ?_ | refine AltA.l ?_ | exact PV.leL_nil | refine PV.leL_cons ?_ ?_ | refine And.intro ?_ ?_ | refine ix_map (fun x hx => ?_) | refine exU8 ?_ | refine nilc (fun hn => ?_) ?_ | exact cl3 | refine imp0 (fun hpos => ?_) | refine fits_i64 ?_ ?_ | exact rfl | (with_reducible first | show LeG _ _ | show Lp _ _ _ _ | show Exists _ | show callX _ _ _ _ _)))) <;> (try exact cl5)
  exact leSz _ _
theorem rEncode_calls (v : Vl) (h : Ok v) : PCalls Try.prog 13 [eW v] (.tup [eB (encA v).1, eI (encA v).2]) := by
  have q1 := rcheck_calls v h.sm
  unfold encA
  by_cases hc : chkV v = 0
  · rw [if_pos hc]
    rw [hc] at q1
    have q2 := rencode_calls v (chk_frm hc) h.nm h.sm.1 (by have := h.sz hc; omega)
    refine PCalls.of (N := 12) (res := [.tmp 2, .tmp 3]) mixed Try.func13 rfl rfl rfl (by kernel_rfl) (by simp) [0, 1, 2, 3, 4, 8] ?_
    repeat' (first | exact cl1 | ((with_reducible show Exists _); refine exU8 ?_) | ((with_reducible show callX _ _ _ _ _); (first | refine call_p (q1) (by kernel_rfl) rfl ?_ | refine call_p (q2) (by kernel_rfl) rfl ?_)) | ((fail_if_success with_reducible first | show LeG _ _ | show Lp _ _ _ _ | show Exists _ | show callX _ _ _ _ _ | show (_ : Int) ≤ _ | show (_ : Int) < _ | show (_ : Nat) ≤ _ | show (_ : Nat) < _); (conv => whnf) <;> (first | exact cl2 | refine XAlt.l ?_ | refine Sq.pr ?_ | refine Br.dec (fun hc => ?_) (fun hc => ?_) | refine Br.tt ?_ | refine Br.ff ?_ | refine Br.not ?_ | refine Br.mk (fun hc => ?_) (fun hc => ?_) | refine Opt.nn ?_ | refine Opt.ss ?_ | refine AltA.l ?_ | exact PV.leL_nil | refine PV.leL_cons ?_ ?_ | refine And.intro ?_ ?_ | refine ix_map (fun x hx => ?_) | refine exU8 ?_ | refine nilc (fun hn => ?_) ?_ | exact cl3 | refine imp0 (fun hpos => ?_) | refine fits_i64 ?_ ?_ | exact rfl | (with_reducible first | show LeG _ _ | show Lp _ _ _ _ | show Exists _ | show callX _ _ _ _ _)))) <;> (try exact cl5)
  · rw [if_neg hc]
    refine PCalls.of (N := 12) (res := [.tmp 2, .tmp 3]) mixed Try.func13 rfl rfl rfl (by kernel_rfl) (by simp) [0, 1, 2, 3, 4, 8] ?_
    repeat' (first | exact cl1 | ((with_reducible show Exists _); refine exU8 ?_) | ((with_reducible show callX _ _ _ _ _); (first | refine call_p (q1) (by kernel_rfl) rfl ?_)) | ((fail_if_success with_reducible first | show LeG _ _ | show Lp _ _ _ _ | show Exists _ | show callX _ _ _ _ _ | show (_ : Int) ≤ _ | show (_ : Int) < _ | show (_ : Nat) ≤ _ | show (_ : Nat) < _); (conv => whnf) <;> (first | exact cl2 | refine Br.dec (fun hh => ?_) (fun hh => absurd hc hh) | refine XAlt.l ?_ | refine Sq.pr ?_ | refine Br.dec (fun hc => ?_) (fun hc => ?_) | refine Br.tt ?_ | refine Br.ff ?_ | refine Br.not ?_ | refine Br.mk (fun hc => ?_) (fun hc => ?_) | refine Opt.nn ?_ | refine Opt.ss ?_ | refine AltA.l ?_ | exact PV.leL_nil | refine PV.leL_cons ?_ ?_ | refine And.intro ?_ ?_ | refine ix_map (fun x hx => ?_) | refine exU8 ?_ | refine nilc (fun hn => ?_) ?_ | exact cl3 | refine imp0 (fun hpos => ?_) | refine fits_i64 ?_ ?_ | exact rfl | (with_reducible first | show LeG _ _ | show Lp _ _ _ _ | show Exists _ | show callX _ _ _ _ _)))) <;> (try exact cl5)
    all_goals exact LeG.mk leE
theorem rSize_calls (v : Vl) (h : Ok v) : PCalls Try.prog 15 [eW v] (.tup [eI (encA v).1.length, eI (encA v).2]) := by
  have q1 := rEncode_calls v h
  refine PCalls.of (N := 14) (res := [.tmp 2, .tmp 3]) mixed Try.func15 rfl rfl rfl (by kernel_rfl) (by simp) [0, 1, 2, 3, 4, 5] ?_
  repeat' (first | exact cl1 | ((with_reducible show Exists _); refine exU8 ?_) | ((with_reducible show callX _ _ _ _ _); (first | refine call_p (q1) (by kernel_rfl) rfl ?_)) | ((fail_if_success with_reducible first | show LeG _ _ | show Lp _ _ _ _ | show Exists _ | show callX _ _ _ _ _ | show (_ : Int) ≤ _ | show (_ : Int) < _ | show (_ : Nat) ≤ _ | show (_ : Nat) < _); (conv => whnf) <;> (first | exact cl2 | refine XAlt.l ?_ | refine Sq.pr ?_ | refine Br.dec (fun hc => ?_) (fun hc => ?_) | refine Br.tt ?_ | refine Br.ff ?_ | refine Br.not ?_ | refine Br.mk (fun hc => ?_) (fun hc => ?_) | refine Opt.nn ?_ | refine Opt.ss ?_ | refine AltA.l ?_ | exact PV.leL_nil | refine PV.leL_cons ?_ ?_ | refine And.intro ?_ ?_ | refine ix_map (fun x hx => ?_) | refine exU8 ?_ | refine nilc (fun hn => ?_) ?_ | exact cl3 | refine imp0 (fun hpos => ?_) | refine fits_i64 ?_ ?_ | exact rfl | (with_reducible first | show LeG _ _ | show Lp _ _ _ _ | show Exists _ | show callX _ _ _ _ _)))) <;> (try exact cl5)
  exact leSz _ _
end Go.Proofs.Ytkgjhghbnocnbaa

namespace Go.Proofs.Ytkgjhghbnocnbaa
open Go Go.Sg
set_option maxRecDepth 100000
set_option maxHeartbeats 20000000
noncomputable def eqV (a b : Vl) : Bool := @decide (a = b) (Classical.propDecidable _)
theorem eqV_t {a b : Vl} (h : a = b) : eqV a b = true := by unfold eqV; exact @decide_eq_true _ (Classical.propDecidable _) h
theorem eqV_f {a b : Vl} (h : ¬ a = b) : eqV a b = false := by unfold eqV; exact @decide_eq_false _ (Classical.propDecidable _) h
theorem eqV_iff {a b : Vl} : eqV a b = true ↔ a = b := by
  constructor
  · intro h
    exact Classical.byContradiction fun hn => by rw [eqV_f hn] at h; cases h
  · exact eqV_t
theorem ne_at {l m : List Vl} {i : Nat} {x y : Vl} (hx : l[i]? = some x) (hy : m[i]? = some y) (h : ¬ x = y) : ¬ l = m := fun e => by
  subst e; rw [hx] at hy; injection hy with hy; exact h hy
theorem eq_take {l m : List Vl} {i : Nat} {x y : Vl} (hx : l[i]? = some x) (hy : m[i]? = some y) (h : x = y) (ht : l.take i = m.take i) : l.take (i + 1) = m.take (i + 1) := by
  rw [List.take_add_one, List.take_add_one, hx, hy, ht, h]
theorem rsame_calls : ∀ a, lens 5000 a → ∀ b, lens 5000 b → PCalls Try.prog 20 [eW a, eW b] (.bool (eqV a b)) := by
  refine Vl.ind fun a ih hla b hlb => ?_
  obtain ⟨k, n, s, l⟩ := a
  obtain ⟨k2, n2, s2, m⟩ := b
  obtain ⟨hll, hls⟩ := hla
  obtain ⟨hml, hms⟩ := hlb
  have ih : ∀ x ∈ l, lens 5000 x → ∀ b, lens 5000 b → PCalls Try.prog 20 [eW x, eW b] (.bool (eqV x b)) := ih
  show PCalls Try.prog 20 [.agg [eI k, eI n, .str s, .sl 4 false (l.map eV)], .agg [eI k2, eI n2, .str s2, .sl 4 false (m.map eV)]] _
  by_cases hk : k = k2
  · subst hk
    by_cases hn : n = n2
    · subst hn
      by_cases hs : s = s2
      · subst hs
        by_cases hl : ((l.map eV).length : Int) = ((m.map eV).length : Int)
        · have hlm : l.length = m.length := by rw [List.length_map, List.length_map] at hl; omega
          refine PCalls.of (N := 53) (res := [.tmp 4]) mixed Try.func20 rfl rfl rfl (by kernel_rfl) (by simp) [0, 1, 2, 3, 4, 5, 33, 38, 52] ?_
          repeat' (first | exact cl1 | ((with_reducible show Exists _); refine exU8 ?_) | ((fail_if_success with_reducible first | show LeG _ _ | show Lp _ _ _ _ | show Exists _ | show callX _ _ _ _ _ | show (_ : Int) ≤ _ | show (_ : Int) < _ | show (_ : Nat) ≤ _ | show (_ : Nat) < _); (conv => whnf) <;> (first | exact cl2 | refine Br.dec (fun hc => absurd rfl hc) (fun hc => ?_) | refine Br.dec (fun hc => absurd hl hc) (fun hc => ?_) | refine XAlt.l ?_ | refine Sq.pr ?_ | refine Br.dec (fun hc => ?_) (fun hc => ?_) | refine Br.tt ?_ | refine Br.ff ?_ | refine Br.not ?_ | refine Br.mk (fun hc => ?_) (fun hc => ?_) | refine Opt.nn ?_ | refine Opt.ss ?_ | refine AltA.l ?_ | exact PV.leL_nil | refine PV.leL_cons ?_ ?_ | refine And.intro ?_ ?_ | refine ix_map (fun x hx => ?_) | refine exU8 ?_ | refine nilc (fun hn => ?_) ?_ | exact cl3 | refine imp0 (fun hpos => ?_) | refine fits_i64 ?_ ?_ | exact rfl | (with_reducible first | show LeG _ _ | show Lp _ _ _ _ | show Exists _ | show callX _ _ _ _ _)))) <;> (try exact cl5)
          refine Wpc.loopB (α := {i : Nat // i ≤ l.length ∧ l.take i = m.take i}) mixed [0, 1, 2, 3, 4, 5, 33, 38, 52] (fun i => [(5, .p (eI i.1))]) (fun i => l.length - i.1) ⟨0, by omega, by simp⟩ ?_ ?_
          · (first | refine Ent.ofA [] ?_ | refine Ent.ofC [] ?_) <;> (repeat' (first | exact trivial | refine HpLe.dd ?_ | refine HpLe.mk rfl (by simp) rfl (fun h => AObj.noConfusion h) ?_ ?_ | refine And.intro ?_ ?_ | exact cl9 | refine VLe.pe ?_ | refine VLe.agg ?_ | refine VLe.tup ?_ | refine VLe.fn ?_ ?_ | refine VLeL.cons ?_ ?_ | exact VLeL.nil | exact OLe.row _ _ | rfl | refine VLe.rsle rfl ?_ ?_ ?_ | refine OLe.rowe2 ?_ ?_ | refine OLe.mape ?_ ?_ | refine OLe.iter0 ?_ | refine OLe.itere ?_ ?_)) <;> try (first | (simp; done) | (congr 1; omega) | (congr 1; (first | (simp; done) | (simp; omega))))
          rintro ⟨i, hi, hq⟩
          have hi : i ≤ l.length := hi
          have hq : l.take i = m.take i := hq
          cases hxi : l[i]? with
          | none =>
            have hge : l.length ≤ i := List.getElem?_eq_none_iff.1 hxi
            have hno : ¬ ((i : Int) < ((l.map eV).length : Int)) := by rw [List.length_map]; omega
            have he : l = m := by rw [List.take_of_length_le hge, List.take_of_length_le (by omega)] at hq; exact hq
            rw [eqV_t (by rw [he])]
            repeat' (first | exact cl1 | ((with_reducible show Exists _); refine exU8 ?_) | ((fail_if_success with_reducible first | show LeG _ _ | show Lp _ _ _ _ | show Exists _ | show callX _ _ _ _ _ | show (_ : Int) ≤ _ | show (_ : Int) < _ | show (_ : Nat) ≤ _ | show (_ : Nat) < _); (conv => whnf) <;> (first | exact cl2 | refine Br.dec (fun hc => absurd hc hno) (fun hc => ?_) | refine XAlt.l ?_ | refine Sq.pr ?_ | refine Br.dec (fun hc => ?_) (fun hc => ?_) | refine Br.tt ?_ | refine Br.ff ?_ | refine Br.not ?_ | refine Br.mk (fun hc => ?_) (fun hc => ?_) | refine Opt.nn ?_ | refine Opt.ss ?_ | refine AltA.l ?_ | exact PV.leL_nil | refine PV.leL_cons ?_ ?_ | refine And.intro ?_ ?_ | refine ix_map (fun x hx => ?_) | refine exU8 ?_ | refine nilc (fun hn => ?_) ?_ | exact cl3 | refine imp0 (fun hpos => ?_) | refine fits_i64 ?_ ?_ | exact rfl | (with_reducible first | show LeG _ _ | show Lp _ _ _ _ | show Exists _ | show callX _ _ _ _ _)))) <;> (try exact cl5)
          | some x =>
            have hlt : i < l.length := (List.getElem?_eq_some_iff.1 hxi).1
            have hyes : ((i : Int) < ((l.map eV).length : Int)) := by rw [List.length_map]; omega
            have hyi : m[i]? = some (m[i]'(by omega)) := List.getElem?_eq_getElem _
            generalize m[i]'(by omega) = y at hyi
            have q1 := ih x (List.mem_of_getElem? hxi) (lensL_mem hls (List.mem_of_getElem? hxi)) y (lensL_mem hms (List.mem_of_getElem? hyi))
            by_cases hxy : x = y
            · rw [eqV_t hxy] at q1
              repeat' (first | exact cl1 | ((with_reducible show Exists _); refine exU8 ?_) | ((with_reducible show callX _ _ _ _ _); (first | refine call_p (q1) (by kernel_rfl) rfl ?_)) | ((fail_if_success with_reducible first | show LeG _ _ | show Lp _ _ _ _ | show Exists _ | show callX _ _ _ _ _ | show (_ : Int) ≤ _ | show (_ : Int) < _ | show (_ : Nat) ≤ _ | show (_ : Nat) < _); (conv => whnf) <;> (first | exact cl2 | refine Br.dec (fun hc => ?_) (fun hc => absurd hyes hc) | refine ix_v hxi ?_ | refine ix_v hyi ?_ | refine XAlt.l ?_ | refine Sq.pr ?_ | refine Br.dec (fun hc => ?_) (fun hc => ?_) | refine Br.tt ?_ | refine Br.ff ?_ | refine Br.not ?_ | refine Br.mk (fun hc => ?_) (fun hc => ?_) | refine Opt.nn ?_ | refine Opt.ss ?_ | refine AltA.l ?_ | exact PV.leL_nil | refine PV.leL_cons ?_ ?_ | refine And.intro ?_ ?_ | refine ix_map (fun x hx => ?_) | refine exU8 ?_ | refine nilc (fun hn => ?_) ?_ | exact cl3 | refine imp0 (fun hpos => ?_) | refine fits_i64 ?_ ?_ | exact rfl | (with_reducible first | show LeG _ _ | show Lp _ _ _ _ | show Exists _ | show callX _ _ _ _ _)))) <;> (try exact cl5)
              refine ⟨⟨i + 1, hlt, eq_take hxi hyi hxy hq⟩, by show l.length - (i + 1) < l.length - i; omega, ?_⟩
              (first | refine Ent.ofA [] ?_ | refine Ent.ofC [] ?_) <;> (repeat' (first | exact trivial | refine HpLe.dd ?_ | refine HpLe.mk rfl (by simp) rfl (fun h => AObj.noConfusion h) ?_ ?_ | refine And.intro ?_ ?_ | exact cl9 | refine VLe.pe ?_ | refine VLe.agg ?_ | refine VLe.tup ?_ | refine VLe.fn ?_ ?_ | refine VLeL.cons ?_ ?_ | exact VLeL.nil | exact OLe.row _ _ | rfl | refine VLe.rsle rfl ?_ ?_ ?_ | refine OLe.rowe2 ?_ ?_ | refine OLe.mape ?_ ?_ | refine OLe.iter0 ?_ | refine OLe.itere ?_ ?_)) <;> try (first | (simp; done) | (congr 1; omega) | (congr 1; (first | (simp; done) | (simp; omega))))
            · rw [eqV_f hxy] at q1
              rw [eqV_f (fun e => ne_at hxi hyi hxy (by injection e))]
              repeat' (first | exact cl1 | ((with_reducible show Exists _); refine exU8 ?_) | ((with_reducible show callX _ _ _ _ _); (first | refine call_p (q1) (by kernel_rfl) rfl ?_)) | ((fail_if_success with_reducible first | show LeG _ _ | show Lp _ _ _ _ | show Exists _ | show callX _ _ _ _ _ | show (_ : Int) ≤ _ | show (_ : Int) < _ | show (_ : Nat) ≤ _ | show (_ : Nat) < _); (conv => whnf) <;> (first | exact cl2 | refine Br.dec (fun hc => ?_) (fun hc => absurd hyes hc) | refine ix_v hxi ?_ | refine ix_v hyi ?_ | refine XAlt.l ?_ | refine Sq.pr ?_ | refine Br.dec (fun hc => ?_) (fun hc => ?_) | refine Br.tt ?_ | refine Br.ff ?_ | refine Br.not ?_ | refine Br.mk (fun hc => ?_) (fun hc => ?_) | refine Opt.nn ?_ | refine Opt.ss ?_ | refine AltA.l ?_ | exact PV.leL_nil | refine PV.leL_cons ?_ ?_ | refine And.intro ?_ ?_ | refine ix_map (fun x hx => ?_) | refine exU8 ?_ | refine nilc (fun hn => ?_) ?_ | exact cl3 | refine imp0 (fun hpos => ?_) | refine fits_i64 ?_ ?_ | exact rfl | (with_reducible first | show LeG _ _ | show Lp _ _ _ _ | show Exists _ | show callX _ _ _ _ _)))) <;> (try exact cl5)
        · rw [eqV_f (fun e => hl (by injection e with _ _ _ e; rw [e]))]
          refine PCalls.of (N := 53) (res := [.tmp 4]) mixed Try.func20 rfl rfl rfl (by kernel_rfl) (by simp) [0, 1, 2, 3, 4, 5, 33, 38, 52] ?_
          repeat' (first | exact cl1 | ((with_reducible show Exists _); refine exU8 ?_) | ((fail_if_success with_reducible first | show LeG _ _ | show Lp _ _ _ _ | show Exists _ | show callX _ _ _ _ _ | show (_ : Int) ≤ _ | show (_ : Int) < _ | show (_ : Nat) ≤ _ | show (_ : Nat) < _); (conv => whnf) <;> (first | exact cl2 | refine Br.dec (fun hc => absurd rfl hc) (fun hc => ?_) | refine Br.dec (fun hc => ?_) (fun hc => absurd hl hc) | refine XAlt.l ?_ | refine Sq.pr ?_ | refine Br.dec (fun hc => ?_) (fun hc => ?_) | refine Br.tt ?_ | refine Br.ff ?_ | refine Br.not ?_ | refine Br.mk (fun hc => ?_) (fun hc => ?_) | refine Opt.nn ?_ | refine Opt.ss ?_ | refine AltA.l ?_ | exact PV.leL_nil | refine PV.leL_cons ?_ ?_ | refine And.intro ?_ ?_ | refine ix_map (fun x hx => ?_) | refine exU8 ?_ | refine nilc (fun hn => ?_) ?_ | exact cl3 | refine imp0 (fun hpos => ?_) | refine fits_i64 ?_ ?_ | exact rfl | (with_reducible first | show LeG _ _ | show Lp _ _ _ _ | show Exists _ | show callX _ _ _ _ _)))) <;> (try exact cl5)
      · rw [eqV_f (fun e => hs (by injection e))]
        refine PCalls.of (N := 53) (res := [.tmp 4]) mixed Try.func20 rfl rfl rfl (by kernel_rfl) (by simp) [0, 1, 2, 3, 4, 5, 33, 38, 52] ?_
        repeat' (first | exact cl1 | ((with_reducible show Exists _); refine exU8 ?_) | ((fail_if_success with_reducible first | show LeG _ _ | show Lp _ _ _ _ | show Exists _ | show callX _ _ _ _ _ | show (_ : Int) ≤ _ | show (_ : Int) < _ | show (_ : Nat) ≤ _ | show (_ : Nat) < _); (conv => whnf) <;> (first | exact cl2 | refine Br.dec (fun hc => absurd rfl hc) (fun hc => ?_) | refine Br.dec (fun hc => ?_) (fun hc => absurd hs hc) | refine XAlt.l ?_ | refine Sq.pr ?_ | refine Br.dec (fun hc => ?_) (fun hc => ?_) | refine Br.tt ?_ | refine Br.ff ?_ | refine Br.not ?_ | refine Br.mk (fun hc => ?_) (fun hc => ?_) | refine Opt.nn ?_ | refine Opt.ss ?_ | refine AltA.l ?_ | exact PV.leL_nil | refine PV.leL_cons ?_ ?_ | refine And.intro ?_ ?_ | refine ix_map (fun x hx => ?_) | refine exU8 ?_ | refine nilc (fun hn => ?_) ?_ | exact cl3 | refine imp0 (fun hpos => ?_) | refine fits_i64 ?_ ?_ | exact rfl | (with_reducible first | show LeG _ _ | show Lp _ _ _ _ | show Exists _ | show callX _ _ _ _ _)))) <;> (try exact cl5)
    · rw [eqV_f (fun e => hn (by injection e))]
      refine PCalls.of (N := 53) (res := [.tmp 4]) mixed Try.func20 rfl rfl rfl (by kernel_rfl) (by simp) [0, 1, 2, 3, 4, 5, 33, 38, 52] ?_
      repeat' (first | exact cl1 | ((with_reducible show Exists _); refine exU8 ?_) | ((fail_if_success with_reducible first | show LeG _ _ | show Lp _ _ _ _ | show Exists _ | show callX _ _ _ _ _ | show (_ : Int) ≤ _ | show (_ : Int) < _ | show (_ : Nat) ≤ _ | show (_ : Nat) < _); (conv => whnf) <;> (first | exact cl2 | refine Br.dec (fun hc => absurd rfl hc) (fun hc => ?_) | refine Br.dec (fun hc => ?_) (fun hc => absurd hn hc) | refine XAlt.l ?_ | refine Sq.pr ?_ | refine Br.dec (fun hc => ?_) (fun hc => ?_) | refine Br.tt ?_ | refine Br.ff ?_ | refine Br.not ?_ | refine Br.mk (fun hc => ?_) (fun hc => ?_) | refine Opt.nn ?_ | refine Opt.ss ?_ | refine AltA.l ?_ | exact PV.leL_nil | refine PV.leL_cons ?_ ?_ | refine And.intro ?_ ?_ | refine ix_map (fun x hx => ?_) | refine exU8 ?_ | refine nilc (fun hn => ?_) ?_ | exact cl3 | refine imp0 (fun hpos => ?_) | refine fits_i64 ?_ ?_ | exact rfl | (with_reducible first | show LeG _ _ | show Lp _ _ _ _ | show Exists _ | show callX _ _ _ _ _)))) <;> (try exact cl5)
  · rw [eqV_f (fun e => hk (by injection e))]
    refine PCalls.of (N := 53) (res := [.tmp 4]) mixed Try.func20 rfl rfl rfl (by kernel_rfl) (by simp) [0, 1, 2, 3, 4, 5, 33, 38, 52] ?_
    repeat' (first | exact cl1 | ((with_reducible show Exists _); refine exU8 ?_) | ((fail_if_success with_reducible first | show LeG _ _ | show Lp _ _ _ _ | show Exists _ | show callX _ _ _ _ _ | show (_ : Int) ≤ _ | show (_ : Int) < _ | show (_ : Nat) ≤ _ | show (_ : Nat) < _); (conv => whnf) <;> (first | exact cl2 | refine Br.dec (fun hc => ?_) (fun hc => absurd hk hc) | refine XAlt.l ?_ | refine Sq.pr ?_ | refine Br.dec (fun hc => ?_) (fun hc => ?_) | refine Br.tt ?_ | refine Br.ff ?_ | refine Br.not ?_ | refine Br.mk (fun hc => ?_) (fun hc => ?_) | refine Opt.nn ?_ | refine Opt.ss ?_ | refine AltA.l ?_ | exact PV.leL_nil | refine PV.leL_cons ?_ ?_ | refine And.intro ?_ ?_ | refine ix_map (fun x hx => ?_) | refine exU8 ?_ | refine nilc (fun hn => ?_) ?_ | exact cl3 | refine imp0 (fun hpos => ?_) | refine fits_i64 ?_ ?_ | exact rfl | (with_reducible first | show LeG _ _ | show Lp _ _ _ _ | show Exists _ | show callX _ _ _ _ _)))) <;> (try exact cl5)
noncomputable def eqL (a b : List Vl) : Bool := @decide (a = b) (Classical.propDecidable _)
theorem eqL_t {a b : List Vl} (h : a = b) : eqL a b = true := by unfold eqL; exact @decide_eq_true _ (Classical.propDecidable _) h
theorem eqL_f {a b : List Vl} (h : ¬ a = b) : eqL a b = false := by unfold eqL; exact @decide_eq_false _ (Classical.propDecidable _) h
theorem equalF (l m : List Vl) (hll : l.length ≤ 5000) (ih : ∀ x ∈ l, ∀ y ∈ m, PCalls Try.prog 21 [eW x, eW y] (.bool (eqV x y))) : PCalls Try.prog 35 [eVL l, eVL m, .fn (.func 21) [] []] (.bool (eqL l m)) := by
  by_cases hl : ((l.map eV).length : Int) = ((m.map eV).length : Int)
  · have hlm : l.length = m.length := by rw [List.length_map, List.length_map] at hl; omega
    refine PCalls.of (N := 32) (res := [.tmp 6]) mixed Try.func35 rfl rfl rfl (by kernel_rfl) (by simp) [0, 1, 2, 6, 7, 8, 9, 14, 15, 16, 17, 18, 30] ?_
    repeat' (first | exact cl1 | ((with_reducible show Exists _); refine exU8 ?_) | ((fail_if_success with_reducible first | show LeG _ _ | show Lp _ _ _ _ | show Exists _ | show callX _ _ _ _ _ | show (_ : Int) ≤ _ | show (_ : Int) < _ | show (_ : Nat) ≤ _ | show (_ : Nat) < _); (conv => whnf) <;> (first | exact cl2 | refine Br.dec (fun hc => absurd hl hc) (fun hc => ?_) | refine XAlt.l ?_ | refine Sq.pr ?_ | refine Br.dec (fun hc => ?_) (fun hc => ?_) | refine Br.tt ?_ | refine Br.ff ?_ | refine Br.not ?_ | refine Br.mk (fun hc => ?_) (fun hc => ?_) | refine Opt.nn ?_ | refine Opt.ss ?_ | refine AltA.l ?_ | exact PV.leL_nil | refine PV.leL_cons ?_ ?_ | refine And.intro ?_ ?_ | refine ix_map (fun x hx => ?_) | refine exU8 ?_ | refine nilc (fun hn => ?_) ?_ | exact cl3 | refine imp0 (fun hpos => ?_) | refine fits_i64 ?_ ?_ | exact rfl | (with_reducible first | show LeG _ _ | show Lp _ _ _ _ | show Exists _ | show callX _ _ _ _ _)))) <;> (try exact cl5)
    refine Wpc.loopB (α := {i : Nat // i ≤ l.length ∧ l.take i = m.take i}) mixed [0, 1, 2, 6, 7, 8, 9, 14, 15, 16, 17, 18, 30] (fun i => [(17, .p (eI i.1))]) (fun i => l.length - i.1) ⟨0, by omega, by simp⟩ ?_ ?_
    · (first | refine Ent.ofA [] ?_ | refine Ent.ofC [] ?_) <;> (repeat' (first | exact trivial | refine HpLe.dd ?_ | refine HpLe.mk rfl (by simp) rfl (fun h => AObj.noConfusion h) ?_ ?_ | refine And.intro ?_ ?_ | exact cl9 | refine VLe.pe ?_ | refine VLe.agg ?_ | refine VLe.tup ?_ | refine VLe.fn ?_ ?_ | refine VLeL.cons ?_ ?_ | exact VLeL.nil | exact OLe.row _ _ | rfl | refine VLe.rsle rfl ?_ ?_ ?_ | refine OLe.rowe2 ?_ ?_ | refine OLe.mape ?_ ?_ | refine OLe.iter0 ?_ | refine OLe.itere ?_ ?_)) <;> try (first | (simp; done) | (congr 1; omega) | (congr 1; (first | (simp; done) | (simp; omega))))
    rintro ⟨i, hi, hq⟩
    have hi : i ≤ l.length := hi
    have hq : l.take i = m.take i := hq
    cases hxi : l[i]? with
    | none =>
      have hge : l.length ≤ i := List.getElem?_eq_none_iff.1 hxi
      have hno : ¬ ((i : Int) < ((l.map eV).length : Int)) := by rw [List.length_map]; omega
      have he : l = m := by rw [List.take_of_length_le hge, List.take_of_length_le (by omega)] at hq; exact hq
      rw [eqL_t he]
      repeat' (first | exact cl1 | ((with_reducible show Exists _); refine exU8 ?_) | ((fail_if_success with_reducible first | show LeG _ _ | show Lp _ _ _ _ | show Exists _ | show callX _ _ _ _ _ | show (_ : Int) ≤ _ | show (_ : Int) < _ | show (_ : Nat) ≤ _ | show (_ : Nat) < _); (conv => whnf) <;> (first | exact cl2 | refine Br.dec (fun hc => absurd hc hno) (fun hc => ?_) | refine XAlt.l ?_ | refine Sq.pr ?_ | refine Br.dec (fun hc => ?_) (fun hc => ?_) | refine Br.tt ?_ | refine Br.ff ?_ | refine Br.not ?_ | refine Br.mk (fun hc => ?_) (fun hc => ?_) | refine Opt.nn ?_ | refine Opt.ss ?_ | refine AltA.l ?_ | exact PV.leL_nil | refine PV.leL_cons ?_ ?_ | refine And.intro ?_ ?_ | refine ix_map (fun x hx => ?_) | refine exU8 ?_ | refine nilc (fun hn => ?_) ?_ | exact cl3 | refine imp0 (fun hpos => ?_) | refine fits_i64 ?_ ?_ | exact rfl | (with_reducible first | show LeG _ _ | show Lp _ _ _ _ | show Exists _ | show callX _ _ _ _ _)))) <;> (try exact cl5)
    | some x =>
      have hlt : i < l.length := (List.getElem?_eq_some_iff.1 hxi).1
      have hyes : ((i : Int) < ((l.map eV).length : Int)) := by rw [List.length_map]; omega
      have hyi : m[i]? = some (m[i]'(by omega)) := List.getElem?_eq_getElem _
      generalize m[i]'(by omega) = y at hyi
      have q1 := ih x (List.mem_of_getElem? hxi) y (List.mem_of_getElem? hyi)
      by_cases hxy : x = y
      · rw [eqV_t hxy] at q1
        repeat' (first | exact cl1 | ((with_reducible show Exists _); refine exU8 ?_) | ((with_reducible show callX _ _ _ _ _); (first | refine call_p (q1) (by kernel_rfl) rfl ?_)) | ((fail_if_success with_reducible first | show LeG _ _ | show Lp _ _ _ _ | show Exists _ | show callX _ _ _ _ _ | show (_ : Int) ≤ _ | show (_ : Int) < _ | show (_ : Nat) ≤ _ | show (_ : Nat) < _); (conv => whnf) <;> (first | exact cl2 | refine Br.dec (fun hc => ?_) (fun hc => absurd hyes hc) | refine ix_v hxi ?_ | refine ix_v hyi ?_ | refine XAlt.l ?_ | refine Sq.pr ?_ | refine Br.dec (fun hc => ?_) (fun hc => ?_) | refine Br.tt ?_ | refine Br.ff ?_ | refine Br.not ?_ | refine Br.mk (fun hc => ?_) (fun hc => ?_) | refine Opt.nn ?_ | refine Opt.ss ?_ | refine AltA.l ?_ | exact PV.leL_nil | refine PV.leL_cons ?_ ?_ | refine And.intro ?_ ?_ | refine ix_map (fun x hx => ?_) | refine exU8 ?_ | refine nilc (fun hn => ?_) ?_ | exact cl3 | refine imp0 (fun hpos => ?_) | refine fits_i64 ?_ ?_ | exact rfl | (with_reducible first | show LeG _ _ | show Lp _ _ _ _ | show Exists _ | show callX _ _ _ _ _)))) <;> (try exact cl5)
        refine ⟨⟨i + 1, hlt, eq_take hxi hyi hxy hq⟩, by show l.length - (i + 1) < l.length - i; omega, ?_⟩
        (first | refine Ent.ofA [] ?_ | refine Ent.ofC [] ?_) <;> (repeat' (first | exact trivial | refine HpLe.dd ?_ | refine HpLe.mk rfl (by simp) rfl (fun h => AObj.noConfusion h) ?_ ?_ | refine And.intro ?_ ?_ | exact cl9 | refine VLe.pe ?_ | refine VLe.agg ?_ | refine VLe.tup ?_ | refine VLe.fn ?_ ?_ | refine VLeL.cons ?_ ?_ | exact VLeL.nil | exact OLe.row _ _ | rfl | refine VLe.rsle rfl ?_ ?_ ?_ | refine OLe.rowe2 ?_ ?_ | refine OLe.mape ?_ ?_ | refine OLe.iter0 ?_ | refine OLe.itere ?_ ?_)) <;> try (first | (simp; done) | (congr 1; omega) | (congr 1; (first | (simp; done) | (simp; omega))))
      · rw [eqV_f hxy] at q1
        rw [eqL_f (ne_at hxi hyi hxy)]
        repeat' (first | exact cl1 | ((with_reducible show Exists _); refine exU8 ?_) | ((with_reducible show callX _ _ _ _ _); (first | refine call_p (q1) (by kernel_rfl) rfl ?_)) | ((fail_if_success with_reducible first | show LeG _ _ | show Lp _ _ _ _ | show Exists _ | show callX _ _ _ _ _ | show (_ : Int) ≤ _ | show (_ : Int) < _ | show (_ : Nat) ≤ _ | show (_ : Nat) < _); (conv => whnf) <;> (first | exact cl2 | refine Br.dec (fun hc => ?_) (fun hc => absurd hyes hc) | refine ix_v hxi ?_ | refine ix_v hyi ?_ | refine XAlt.l ?_ | refine Sq.pr ?_ | refine Br.dec (fun hc => ?_) (fun hc => ?_) | refine Br.tt ?_ | refine Br.ff ?_ | refine Br.not ?_ | refine Br.mk (fun hc => ?_) (fun hc => ?_) | refine Opt.nn ?_ | refine Opt.ss ?_ | refine AltA.l ?_ | exact PV.leL_nil | refine PV.leL_cons ?_ ?_ | refine And.intro ?_ ?_ | refine ix_map (fun x hx => ?_) | refine exU8 ?_ | refine nilc (fun hn => ?_) ?_ | exact cl3 | refine imp0 (fun hpos => ?_) | refine fits_i64 ?_ ?_ | exact rfl | (with_reducible first | show LeG _ _ | show Lp _ _ _ _ | show Exists _ | show callX _ _ _ _ _)))) <;> (try exact cl5)
  · rw [eqL_f (fun e => hl (by rw [e]))]
    refine PCalls.of (N := 32) (res := [.tmp 6]) mixed Try.func35 rfl rfl rfl (by kernel_rfl) (by simp) [0, 1, 2, 6, 7, 8, 9, 14, 15, 16, 17, 18, 30] ?_
    repeat' (first | exact cl1 | ((with_reducible show Exists _); refine exU8 ?_) | ((fail_if_success with_reducible first | show LeG _ _ | show Lp _ _ _ _ | show Exists _ | show callX _ _ _ _ _ | show (_ : Int) ≤ _ | show (_ : Int) < _ | show (_ : Nat) ≤ _ | show (_ : Nat) < _); (conv => whnf) <;> (first | exact cl2 | refine Br.dec (fun hc => ?_) (fun hc => absurd hl hc) | refine XAlt.l ?_ | refine Sq.pr ?_ | refine Br.dec (fun hc => ?_) (fun hc => ?_) | refine Br.tt ?_ | refine Br.ff ?_ | refine Br.not ?_ | refine Br.mk (fun hc => ?_) (fun hc => ?_) | refine Opt.nn ?_ | refine Opt.ss ?_ | refine AltA.l ?_ | exact PV.leL_nil | refine PV.leL_cons ?_ ?_ | refine And.intro ?_ ?_ | refine ix_map (fun x hx => ?_) | refine exU8 ?_ | refine nilc (fun hn => ?_) ?_ | exact cl3 | refine imp0 (fun hpos => ?_) | refine fits_i64 ?_ ?_ | exact rfl | (with_reducible first | show LeG _ _ | show Lp _ _ _ _ | show Exists _ | show callX _ _ _ _ _)))) <;> (try exact cl5)
theorem same_calls : ∀ a, lens 5000 a → ∀ b, lens 5000 b → PCalls Try.prog 21 [eW a, eW b] (.bool (eqV a b)) := by
  refine Vl.ind fun a ih hla b hlb => ?_
  obtain ⟨k, n, s, l⟩ := a
  obtain ⟨k2, n2, s2, m⟩ := b
  obtain ⟨hll, hls⟩ := hla
  obtain ⟨hml, hms⟩ := hlb
  have ih : ∀ x ∈ l, lens 5000 x → ∀ b, lens 5000 b → PCalls Try.prog 21 [eW x, eW b] (.bool (eqV x b)) := ih
  show PCalls Try.prog 21 [.agg [eI k, eI n, .str s, .sl 4 false (l.map eV)], .agg [eI k2, eI n2, .str s2, .sl 4 false (m.map eV)]] _
  by_cases hk : k = k2
  · subst hk
    by_cases hn : n = n2
    · subst hn
      by_cases hs : s = s2
      · subst hs
        have q1 := equalF l m hll fun x hx y hy => ih x hx (lensL_mem hls hx) y (lensL_mem hms hy)
        have he : eqV (.mk k n s l) (.mk k n s m) = eqL l m := by
          by_cases h : l = m
          · rw [eqL_t h, eqV_t (by rw [h])]
          · rw [eqL_f h, eqV_f (fun e => h (by injection e))]
        rw [he]
        refine PCalls.of (N := 31) (res := [.tmp 4]) mixed Try.func21 rfl rfl rfl (by kernel_rfl) (by simp) [0, 1, 2, 3, 4] ?_
        repeat' (first | exact cl1 | ((with_reducible show Exists _); refine exU8 ?_) | ((with_reducible show callX _ _ _ _ _); (first | refine call_p (q1) (by kernel_rfl) rfl ?_)) | ((fail_if_success with_reducible first | show LeG _ _ | show Lp _ _ _ _ | show Exists _ | show callX _ _ _ _ _ | show (_ : Int) ≤ _ | show (_ : Int) < _ | show (_ : Nat) ≤ _ | show (_ : Nat) < _); (conv => whnf) <;> (first | exact cl2 | refine Br.dec (fun hc => ?_) (fun hc => absurd rfl hc) | refine XAlt.l ?_ | refine Sq.pr ?_ | refine Br.dec (fun hc => ?_) (fun hc => ?_) | refine Br.tt ?_ | refine Br.ff ?_ | refine Br.not ?_ | refine Br.mk (fun hc => ?_) (fun hc => ?_) | refine Opt.nn ?_ | refine Opt.ss ?_ | refine AltA.l ?_ | exact PV.leL_nil | refine PV.leL_cons ?_ ?_ | refine And.intro ?_ ?_ | refine ix_map (fun x hx => ?_) | refine exU8 ?_ | refine nilc (fun hn => ?_) ?_ | exact cl3 | refine imp0 (fun hpos => ?_) | refine fits_i64 ?_ ?_ | exact rfl | (with_reducible first | show LeG _ _ | show Lp _ _ _ _ | show Exists _ | show callX _ _ _ _ _)))) <;> (try exact cl5)
      · rw [eqV_f (fun e => hs (by injection e))]
        refine PCalls.of (N := 31) (res := [.tmp 4]) mixed Try.func21 rfl rfl rfl (by kernel_rfl) (by simp) [0, 1, 2, 3, 4] ?_
        repeat' (first | exact cl1 | ((with_reducible show Exists _); refine exU8 ?_) | ((fail_if_success with_reducible first | show LeG _ _ | show Lp _ _ _ _ | show Exists _ | show callX _ _ _ _ _ | show (_ : Int) ≤ _ | show (_ : Int) < _ | show (_ : Nat) ≤ _ | show (_ : Nat) < _); (conv => whnf) <;> (first | exact cl2 | refine Br.dec (fun hc => ?_) (fun hc => absurd rfl hc) | refine Br.dec (fun hc => absurd hc hs) (fun hc => ?_) | refine XAlt.l ?_ | refine Sq.pr ?_ | refine Br.dec (fun hc => ?_) (fun hc => ?_) | refine Br.tt ?_ | refine Br.ff ?_ | refine Br.not ?_ | refine Br.mk (fun hc => ?_) (fun hc => ?_) | refine Opt.nn ?_ | refine Opt.ss ?_ | refine AltA.l ?_ | exact PV.leL_nil | refine PV.leL_cons ?_ ?_ | refine And.intro ?_ ?_ | refine ix_map (fun x hx => ?_) | refine exU8 ?_ | refine nilc (fun hn => ?_) ?_ | exact cl3 | refine imp0 (fun hpos => ?_) | refine fits_i64 ?_ ?_ | exact rfl | (with_reducible first | show LeG _ _ | show Lp _ _ _ _ | show Exists _ | show callX _ _ _ _ _)))) <;> (try exact cl5)
    · rw [eqV_f (fun e => hn (by injection e))]
      refine PCalls.of (N := 31) (res := [.tmp 4]) mixed Try.func21 rfl rfl rfl (by kernel_rfl) (by simp) [0, 1, 2, 3, 4] ?_
      repeat' (first | exact cl1 | ((with_reducible show Exists _); refine exU8 ?_) | ((fail_if_success with_reducible first | show LeG _ _ | show Lp _ _ _ _ | show Exists _ | show callX _ _ _ _ _ | show (_ : Int) ≤ _ | show (_ : Int) < _ | show (_ : Nat) ≤ _ | show (_ : Nat) < _); (conv => whnf) <;> (first | exact cl2 | refine Br.dec (fun hc => ?_) (fun hc => absurd rfl hc) | refine Br.dec (fun hc => absurd hc hn) (fun hc => ?_) | refine XAlt.l ?_ | refine Sq.pr ?_ | refine Br.dec (fun hc => ?_) (fun hc => ?_) | refine Br.tt ?_ | refine Br.ff ?_ | refine Br.not ?_ | refine Br.mk (fun hc => ?_) (fun hc => ?_) | refine Opt.nn ?_ | refine Opt.ss ?_ | refine AltA.l ?_ | exact PV.leL_nil | refine PV.leL_cons ?_ ?_ | refine And.intro ?_ ?_ | refine ix_map (fun x hx => ?_) | refine exU8 ?_ | refine nilc (fun hn => ?_) ?_ | exact cl3 | refine imp0 (fun hpos => ?_) | refine fits_i64 ?_ ?_ | exact rfl | (with_reducible first | show LeG _ _ | show Lp _ _ _ _ | show Exists _ | show callX _ _ _ _ _)))) <;> (try exact cl5)
  · rw [eqV_f (fun e => hk (by injection e))]
    refine PCalls.of (N := 31) (res := [.tmp 4]) mixed Try.func21 rfl rfl rfl (by kernel_rfl) (by simp) [0, 1, 2, 3, 4] ?_
    repeat' (first | exact cl1 | ((with_reducible show Exists _); refine exU8 ?_) | ((fail_if_success with_reducible first | show LeG _ _ | show Lp _ _ _ _ | show Exists _ | show callX _ _ _ _ _ | show (_ : Int) ≤ _ | show (_ : Int) < _ | show (_ : Nat) ≤ _ | show (_ : Nat) < _); (conv => whnf) <;> (first | exact cl2 | refine Br.dec (fun hc => absurd hc hk) (fun hc => ?_) | refine XAlt.l ?_ | refine Sq.pr ?_ | refine Br.dec (fun hc => ?_) (fun hc => ?_) | refine Br.tt ?_ | refine Br.ff ?_ | refine Br.not ?_ | refine Br.mk (fun hc => ?_) (fun hc => ?_) | refine Opt.nn ?_ | refine Opt.ss ?_ | refine AltA.l ?_ | exact PV.leL_nil | refine PV.leL_cons ?_ ?_ | refine And.intro ?_ ?_ | refine ix_map (fun x hx => ?_) | refine exU8 ?_ | refine nilc (fun hn => ?_) ?_ | exact cl3 | refine imp0 (fun hpos => ?_) | refine fits_i64 ?_ ?_ | exact rfl | (with_reducible first | show LeG _ _ | show Lp _ _ _ _ | show Exists _ | show callX _ _ _ _ _)))) <;> (try exact cl5)
theorem int_calls (n : Int) : PCalls Try.prog 23 [eI n] (eW (.mk 1 n ByteArray.empty [])) := by
  refine PCalls.of (N := 5) (res := [.cell 2 24]) mixed Try.func23 rfl rfl rfl (by kernel_rfl) (by simp) [0, 2] ?_
  repeat' (first | exact cl1 | ((with_reducible show Exists _); refine exU8 ?_) | ((fail_if_success with_reducible first | show LeG _ _ | show Lp _ _ _ _ | show Exists _ | show callX _ _ _ _ _ | show (_ : Int) ≤ _ | show (_ : Int) < _ | show (_ : Nat) ≤ _ | show (_ : Nat) < _); (conv => whnf) <;> (first | exact cl2 | refine XAlt.l ?_ | refine Sq.pr ?_ | refine Br.dec (fun hc => ?_) (fun hc => ?_) | refine Br.tt ?_ | refine Br.ff ?_ | refine Br.not ?_ | refine Br.mk (fun hc => ?_) (fun hc => ?_) | refine Opt.nn ?_ | refine Opt.ss ?_ | refine AltA.l ?_ | exact PV.leL_nil | refine PV.leL_cons ?_ ?_ | refine And.intro ?_ ?_ | refine ix_map (fun x hx => ?_) | refine exU8 ?_ | refine nilc (fun hn => ?_) ?_ | exact cl3 | refine imp0 (fun hpos => ?_) | refine fits_i64 ?_ ?_ | exact rfl | (with_reducible first | show LeG _ _ | show Lp _ _ _ _ | show Exists _ | show callX _ _ _ _ _)))) <;> (try exact cl5)
  exact LeG.mk le_val
theorem text_calls (s : ByteArray) : PCalls Try.prog 24 [.str s] (eW (.mk 2 0 s [])) := by
  refine PCalls.of (N := 5) (res := [.cell 2 24]) mixed Try.func24 rfl rfl rfl (by kernel_rfl) (by simp) [0, 2] ?_
  repeat' (first | exact cl1 | ((with_reducible show Exists _); refine exU8 ?_) | ((fail_if_success with_reducible first | show LeG _ _ | show Lp _ _ _ _ | show Exists _ | show callX _ _ _ _ _ | show (_ : Int) ≤ _ | show (_ : Int) < _ | show (_ : Nat) ≤ _ | show (_ : Nat) < _); (conv => whnf) <;> (first | exact cl2 | refine XAlt.l ?_ | refine Sq.pr ?_ | refine Br.dec (fun hc => ?_) (fun hc => ?_) | refine Br.tt ?_ | refine Br.ff ?_ | refine Br.not ?_ | refine Br.mk (fun hc => ?_) (fun hc => ?_) | refine Opt.nn ?_ | refine Opt.ss ?_ | refine AltA.l ?_ | exact PV.leL_nil | refine PV.leL_cons ?_ ?_ | refine And.intro ?_ ?_ | refine ix_map (fun x hx => ?_) | refine exU8 ?_ | refine nilc (fun hn => ?_) ?_ | exact cl3 | refine imp0 (fun hpos => ?_) | refine fits_i64 ?_ ?_ | exact rfl | (with_reducible first | show LeG _ _ | show Lp _ _ _ _ | show Exists _ | show callX _ _ _ _ _)))) <;> (try exact cl5)
  exact LeG.mk le_val
theorem list_calls (l : List Vl) : PCalls Try.prog 22 [eVL l] (eW (.mk 3 0 ByteArray.empty l)) := by
  refine PCalls.of (N := 5) (res := [.cell 2 24]) mixed Try.func22 rfl rfl rfl (by kernel_rfl) (by simp) [0, 2] ?_
  repeat' (first | exact cl1 | ((with_reducible show Exists _); refine exU8 ?_) | ((fail_if_success with_reducible first | show LeG _ _ | show Lp _ _ _ _ | show Exists _ | show callX _ _ _ _ _ | show (_ : Int) ≤ _ | show (_ : Int) < _ | show (_ : Nat) ≤ _ | show (_ : Nat) < _); (conv => whnf) <;> (first | exact cl2 | refine XAlt.l ?_ | refine Sq.pr ?_ | refine Br.dec (fun hc => ?_) (fun hc => ?_) | refine Br.tt ?_ | refine Br.ff ?_ | refine Br.not ?_ | refine Br.mk (fun hc => ?_) (fun hc => ?_) | refine Opt.nn ?_ | refine Opt.ss ?_ | refine AltA.l ?_ | exact PV.leL_nil | refine PV.leL_cons ?_ ?_ | refine And.intro ?_ ?_ | refine ix_map (fun x hx => ?_) | refine exU8 ?_ | refine nilc (fun hn => ?_) ?_ | exact cl3 | refine imp0 (fun hpos => ?_) | refine fits_i64 ?_ ?_ | exact rfl | (with_reducible first | show LeG _ _ | show Lp _ _ _ _ | show Exists _ | show callX _ _ _ _ _)))) <;> (try exact cl5)
end Go.Proofs.Ytkgjhghbnocnbaa

namespace Go.Proofs.Ytkgjhghbnocnbaa
open Go Go.Sg
set_option maxRecDepth 100000
set_option maxHeartbeats 20000000
theorem next_some (b : List Int) (hb : b.length < 1000000) (i : Nat) (c : Int) (hc : b[i]? = some c) (bad : Bool) :
    ICalls Try.prog 48 1 [(0, .cells [.p (eR b), .p (eI i), .p (.bool bad)])] [.ptr 0 0] (.p (.int .u8 c)) [(0, .cells [.p (eR b), .p (eI ((i + 1 : Nat) : Int)), .p (.bool bad)])] := by
  have hlt : i < b.length := (List.getElem?_eq_some_iff.1 hc).1
  have hno : ¬ (((b.map (PV.int .u8)).length : Int) ≤ (i : Int)) := by rw [List.length_map]; omega
  have hix : b[(((i : Int) + 1) - 1).toNat]? = some c := by rw [show (((i : Int) + 1) - 1).toNat = i by omega]; exact hc
  refine ICalls.of (N := 34) (res := [.tmp 2]) mixed Try.func48 rfl rfl rfl (by kernel_rfl) (by simp) [0, 2, 12] (Nat.le_refl _) ?_
  repeat' (first | exact cl1 | ((with_reducible show Exists _); refine exU8 ?_) | ((fail_if_success with_reducible first | show LeG _ _ | show Lp _ _ _ _ | show Exists _ | show callX _ _ _ _ _ | show (_ : Int) ≤ _ | show (_ : Int) < _ | show (_ : Nat) ≤ _ | show (_ : Nat) < _); (conv => whnf) <;> (first | exact cl2 | refine Br.dec (fun hh => absurd hh hno) (fun hh => ?_) | refine ix_at hix ?_ | refine XAlt.l ?_ | refine Sq.pr ?_ | refine Br.dec (fun hc => ?_) (fun hc => ?_) | refine Br.tt ?_ | refine Br.ff ?_ | refine Br.not ?_ | refine Br.mk (fun hc => ?_) (fun hc => ?_) | refine Opt.nn ?_ | refine Opt.ss ?_ | refine AltA.l ?_ | exact PV.leL_nil | refine PV.leL_cons ?_ ?_ | refine And.intro ?_ ?_ | refine ix_map (fun x hx => ?_) | refine exU8 ?_ | refine nilc (fun hn => ?_) ?_ | exact cl3 | refine imp0 (fun hpos => ?_) | refine fits_i64 ?_ ?_ | exact rfl | (with_reducible first | show LeG _ _ | show Lp _ _ _ _ | show Exists _ | show callX _ _ _ _ _)))) <;> (try exact cl5)
  refine ⟨[], [(0, 0)], ?_, ?_, by decide, by simp, fun i hi => by match i, hi with | 0, _ => rfl⟩ <;> (repeat' (first | exact trivial | refine HpLe.dd ?_ | refine HpLe.mk rfl (by simp) rfl (fun h => AObj.noConfusion h) ?_ ?_ | refine And.intro ?_ ?_ | exact cl9 | refine VLe.pe ?_ | refine VLe.agg ?_ | refine VLe.tup ?_ | refine VLe.fn ?_ ?_ | refine VLeL.cons ?_ ?_ | exact VLeL.nil | exact OLe.row _ _ | rfl | refine VLe.rsle rfl ?_ ?_ ?_ | refine OLe.rowe2 ?_ ?_ | refine OLe.mape ?_ ?_ | refine OLe.iter0 ?_ | refine OLe.itere ?_ ?_))
theorem next_none (b : List Int) (hb : b.length < 1000000) (i : Nat) (hi : b.length ≤ i) (hi2 : i < 1000000) (bad : Bool) :
    ICalls Try.prog 48 1 [(0, .cells [.p (eR b), .p (eI i), .p (.bool bad)])] [.ptr 0 0] (.p (.int .u8 0)) [(0, .cells [.p (eR b), .p (eI i), .p (.bool true)])] := by
  have hyes : (((b.map (PV.int .u8)).length : Int) ≤ (i : Int)) := by rw [List.length_map]; omega
  refine ICalls.of (N := 34) (res := [.tmp 2]) mixed Try.func48 rfl rfl rfl (by kernel_rfl) (by simp) [0, 2, 12] (Nat.le_refl _) ?_
  repeat' (first | exact cl1 | ((with_reducible show Exists _); refine exU8 ?_) | ((fail_if_success with_reducible first | show LeG _ _ | show Lp _ _ _ _ | show Exists _ | show callX _ _ _ _ _ | show (_ : Int) ≤ _ | show (_ : Int) < _ | show (_ : Nat) ≤ _ | show (_ : Nat) < _); (conv => whnf) <;> (first | exact cl2 | refine Br.dec (fun hh => ?_) (fun hh => absurd hyes hh) | refine XAlt.l ?_ | refine Sq.pr ?_ | refine Br.dec (fun hc => ?_) (fun hc => ?_) | refine Br.tt ?_ | refine Br.ff ?_ | refine Br.not ?_ | refine Br.mk (fun hc => ?_) (fun hc => ?_) | refine Opt.nn ?_ | refine Opt.ss ?_ | refine AltA.l ?_ | exact PV.leL_nil | refine PV.leL_cons ?_ ?_ | refine And.intro ?_ ?_ | refine ix_map (fun x hx => ?_) | refine exU8 ?_ | refine nilc (fun hn => ?_) ?_ | exact cl3 | refine imp0 (fun hpos => ?_) | refine fits_i64 ?_ ?_ | exact rfl | (with_reducible first | show LeG _ _ | show Lp _ _ _ _ | show Exists _ | show callX _ _ _ _ _)))) <;> (try exact cl5)
  refine ⟨[], [(0, 0)], ?_, ?_, by decide, by simp, fun i hi => by match i, hi with | 0, _ => rfl⟩ <;> (repeat' (first | exact trivial | refine HpLe.dd ?_ | refine HpLe.mk rfl (by simp) rfl (fun h => AObj.noConfusion h) ?_ ?_ | refine And.intro ?_ ?_ | exact cl9 | refine VLe.pe ?_ | refine VLe.agg ?_ | refine VLe.tup ?_ | refine VLe.fn ?_ ?_ | refine VLeL.cons ?_ ?_ | exact VLeL.nil | exact OLe.row _ _ | rfl | refine VLe.rsle rfl ?_ ?_ ?_ | refine OLe.rowe2 ?_ ?_ | refine OLe.mape ?_ ?_ | refine OLe.iter0 ?_ | refine OLe.itere ?_ ?_))
/-- The reference's reader: the number, where it stands, whether it is bad. -/
def numR : List Int → Nat → Nat → Nat → Nat × Nat × Bool
  | [], _, _, a => (0, a, true)
  | c :: r, i, u, a => if nOk i c then (if c < 128 then (nAdd i u c, a + 1, false) else numR r (i + 1) (nAdd i u c) (a + 1)) else (0, a + 1, true)
theorem drop_cons {b : List Int} {a : Nat} {c : Int} {r : List Int} (h : b.drop a = c :: r) : b[a]? = some c ∧ b.drop (a + 1) = r := by
  refine ⟨?_, ?_⟩
  · have := congrArg (fun l => l[0]?) h
    simpa using this
  · have := congrArg (List.drop 1) h
    simpa [List.drop_drop, Nat.add_comm] using this
theorem nAdd_sum {i u : Nat} {c : Int} (hi : i ≤ 9) (hu : u < 2 ^ (7 * i)) (h0 : 0 ≤ c) (hc : c ≤ 255) (h1 : i < 9 ∨ c ≤ 1) :
    (u : Int) + IntKind.u64.wrap (IntKind.u64.wrap (c.tmod 128) * 2 ^ min (7 * (i : Int)).toNat IntKind.u64.bits) = ((nAdd i u c : Nat) : Int) := by
  have h2 := nAdd_64 hi hu h0 h1
  obtain ⟨n, rfl⟩ : ∃ n : Nat, c = n := ⟨c.toNat, by omega⟩
  have e1 : (n : Int).tmod 128 = ((n % 128 : Nat) : Int) := by rw [Int.tmod_eq_emod_of_nonneg (by omega)]; omega
  have e2 : ((n : Int) % 128).toNat = n % 128 := by omega
  unfold nAdd at h2 ⊢
  rw [e2] at h2 ⊢
  have e3 : IntKind.u64.wrap ((n % 128 : Nat) : Int) = ((n % 128 : Nat) : Int) := wrap_nat rfl (by show n % 128 < 18446744073709551616; omega)
  have e4 : min (7 * (i : Int)).toNat IntKind.u64.bits = 7 * i := by
    show min (7 * (i : Int)).toNat 64 = 7 * i
    omega
  rw [e1, e3, e4]
  have e5 : ((n % 128 : Nat) : Int) * 2 ^ (7 * i) = ((n % 128 * 2 ^ (7 * i) : Nat) : Int) := by push_cast; rfl
  have e6 : n % 128 * 2 ^ (7 * i) < 2 ^ IntKind.u64.bits := by show _ < 18446744073709551616; omega
  rw [e5, wrap_nat rfl e6]
  push_cast; rfl
theorem rnumber_calls (b : List Int) (hb : b.length < 1000000) (hB : B8 b) (a0 : Nat) (ha0 : a0 ≤ b.length) :
    ICalls Try.prog 49 1 [(0, .cells [.p (eR b), .p (eI a0), .p (.bool false)])] [.ptr 0 0] (.p (eU (numR (b.drop a0) 0 0 a0).1)) [(0, .cells [.p (eR b), .p (eI (numR (b.drop a0) 0 0 a0).2.1), .p (.bool (numR (b.drop a0) 0 0 a0).2.2)])] := by
  generalize hR : numR (b.drop a0) 0 0 a0 = R
  obtain ⟨rn, ra, rb⟩ := R
  refine ICalls.of (N := 43) (res := [.tmp 2]) mixed Try.func49 rfl rfl rfl (by kernel_rfl) (by simp) [0, 2, 3, 4, 5, 10, 28, 41] (Nat.le_refl _) ?_
  repeat' (first | exact cl1 | ((with_reducible show Exists _); refine exU8 ?_) | ((fail_if_success with_reducible first | show LeG _ _ | show Lp _ _ _ _ | show Exists _ | show callX _ _ _ _ _ | show (_ : Int) ≤ _ | show (_ : Int) < _ | show (_ : Nat) ≤ _ | show (_ : Nat) < _); (conv => whnf) <;> (first | exact cl2 | refine XAlt.l ?_ | refine Sq.pr ?_ | refine Br.dec (fun hc => ?_) (fun hc => ?_) | refine Br.tt ?_ | refine Br.ff ?_ | refine Br.not ?_ | refine Br.mk (fun hc => ?_) (fun hc => ?_) | refine Opt.nn ?_ | refine Opt.ss ?_ | refine AltA.l ?_ | exact PV.leL_nil | refine PV.leL_cons ?_ ?_ | refine And.intro ?_ ?_ | refine ix_map (fun x hx => ?_) | refine exU8 ?_ | refine nilc (fun hn => ?_) ?_ | exact cl3 | refine imp0 (fun hpos => ?_) | refine fits_i64 ?_ ?_ | exact rfl | (with_reducible first | show LeG _ _ | show Lp _ _ _ _ | show Exists _ | show callX _ _ _ _ _)))) <;> (try exact cl5)
  refine Wpc.loopA (α := {s : Nat × Nat × Nat // s.1 ≤ 9 ∧ s.2.1 < 2 ^ (7 * s.1) ∧ s.2.2 ≤ b.length ∧ numR (b.drop s.2.2) s.1 s.2.1 s.2.2 = (rn, ra, rb)}) mixed [0, 2, 3, 4, 5, 10, 28, 41] (fun s => [(3, .p (eU s.1.2.1)), (4, .p (eI s.1.1))]) (fun s => [(0, .cells [.p (eR b), .p (eI s.1.2.2), .p (.bool false)])]) (fun _ => 0) (fun s => b.length - s.1.2.2) ⟨(0, 0, a0), Nat.zero_le 9, Nat.one_pos, ha0, hR⟩ ?_ ?_
  · (first | refine Ent.ofA [] ?_ | refine Ent.ofC [] ?_) <;> (repeat' (first | exact trivial | refine HpLe.dd ?_ | refine HpLe.mk rfl (by simp) rfl (fun h => AObj.noConfusion h) ?_ ?_ | refine And.intro ?_ ?_ | exact cl9 | refine VLe.pe ?_ | refine VLe.agg ?_ | refine VLe.tup ?_ | refine VLe.fn ?_ ?_ | refine VLeL.cons ?_ ?_ | exact VLeL.nil | exact OLe.row _ _ | rfl | refine VLe.rsle rfl ?_ ?_ ?_ | refine OLe.rowe2 ?_ ?_ | refine OLe.mape ?_ ?_ | refine OLe.iter0 ?_ | refine OLe.itere ?_ ?_)) <;> try (first | (simp; done) | (congr 1; omega) | (congr 1; (first | (simp; done) | (simp; omega))))
  rintro ⟨⟨i, u, a⟩, hi, hu, ha, hq⟩
  have hi : i ≤ 9 := hi
  have hu : u < 2 ^ (7 * i) := hu
  have ha : a ≤ b.length := ha
  have hq : numR (b.drop a) i u a = (rn, ra, rb) := hq
  obtain ⟨d, hd⟩ : ∃ d, b.drop a = d := ⟨_, rfl⟩
  cases d with
  | nil =>
    rw [hd] at hq
    injection hq with e1 e2; injection e2 with e2 e3
    subst e1; subst e2; subst e3
    have hge : b.length ≤ a := by have := congrArg List.length hd; simp at this; omega
    have q1 := next_none b hb a hge (by omega) false
    by_cases h0 : i = 0
    · subst h0
      have hu0 : u = 0 := by simpa using hu
      subst hu0
      repeat' (first | exact cl1 | ((with_reducible show Exists _); refine exU8 ?_) | ((with_reducible show callX _ _ _ _ _); (first | refine call_i [0] (q1) (by kernel_rfl) rfl rfl (by decide) cl6 (fun i hi => by match i, hi with | 0, _ => rfl) cl7 cl8 (by simp [keys]) ?_)) | ((fail_if_success with_reducible first | show LeG _ _ | show Lp _ _ _ _ | show Exists _ | show callX _ _ _ _ _ | show (_ : Int) ≤ _ | show (_ : Int) < _ | show (_ : Nat) ≤ _ | show (_ : Nat) < _); (conv => whnf) <;> (first | exact cl2 | refine XAlt.l ?_ | refine Sq.pr ?_ | refine Br.dec (fun hc => ?_) (fun hc => ?_) | refine Br.tt ?_ | refine Br.ff ?_ | refine Br.not ?_ | refine Br.mk (fun hc => ?_) (fun hc => ?_) | refine Opt.nn ?_ | refine Opt.ss ?_ | refine AltA.l ?_ | exact PV.leL_nil | refine PV.leL_cons ?_ ?_ | refine And.intro ?_ ?_ | refine ix_map (fun x hx => ?_) | refine exU8 ?_ | refine nilc (fun hn => ?_) ?_ | exact cl3 | refine imp0 (fun hpos => ?_) | refine fits_i64 ?_ ?_ | exact rfl | (with_reducible first | show LeG _ _ | show Lp _ _ _ _ | show Exists _ | show callX _ _ _ _ _)))) <;> (try exact cl5)
      all_goals first
      | (exfalso; dsimp only at *; omega)
      | (refine ⟨[], [(0, 0)], ?_, ?_, by decide, by simp, fun i hi => by match i, hi with | 0, _ => rfl⟩ <;> (repeat' (first | exact trivial | refine HpLe.dd ?_ | refine HpLe.mk rfl (by simp) rfl (fun h => AObj.noConfusion h) ?_ ?_ | refine And.intro ?_ ?_ | exact cl9 | refine VLe.pe ?_ | refine VLe.agg ?_ | refine VLe.tup ?_ | refine VLe.fn ?_ ?_ | refine VLeL.cons ?_ ?_ | exact VLeL.nil | exact OLe.row _ _ | rfl | refine VLe.rsle rfl ?_ ?_ ?_ | refine OLe.rowe2 ?_ ?_ | refine OLe.mape ?_ ?_ | refine OLe.iter0 ?_ | refine OLe.itere ?_ ?_)))
    · have hi0 : (0 : Int) < (i : Int) := by omega
      have h01 : ¬ (1 : Int) < 0 := by decide
      repeat' (first | exact cl1 | ((with_reducible show Exists _); refine exU8 ?_) | ((with_reducible show callX _ _ _ _ _); (first | refine call_i [0] (q1) (by kernel_rfl) rfl rfl (by decide) cl6 (fun i hi => by match i, hi with | 0, _ => rfl) cl7 cl8 (by simp [keys]) ?_)) | ((fail_if_success with_reducible first | show LeG _ _ | show Lp _ _ _ _ | show Exists _ | show callX _ _ _ _ _ | show (_ : Int) ≤ _ | show (_ : Int) < _ | show (_ : Nat) ≤ _ | show (_ : Nat) < _); (conv => whnf) <;> (first | exact cl2 | refine Br.dec (fun hc => ?_) (fun hc => absurd hi0 hc) | refine Br.dec (fun hc => absurd hc h01) (fun hc => ?_) | refine XAlt.l ?_ | refine Sq.pr ?_ | refine Br.dec (fun hc => ?_) (fun hc => ?_) | refine Br.tt ?_ | refine Br.ff ?_ | refine Br.not ?_ | refine Br.mk (fun hc => ?_) (fun hc => ?_) | refine Opt.nn ?_ | refine Opt.ss ?_ | refine AltA.l ?_ | exact PV.leL_nil | refine PV.leL_cons ?_ ?_ | refine And.intro ?_ ?_ | refine ix_map (fun x hx => ?_) | refine exU8 ?_ | refine nilc (fun hn => ?_) ?_ | exact cl3 | refine imp0 (fun hpos => ?_) | refine fits_i64 ?_ ?_ | exact rfl | (with_reducible first | show LeG _ _ | show Lp _ _ _ _ | show Exists _ | show callX _ _ _ _ _)))) <;> (try exact cl5)
      all_goals first
      | (exfalso; dsimp only at *; omega)
      | (refine ⟨[], [(0, 0)], ?_, ?_, by decide, by simp, fun i hi => by match i, hi with | 0, _ => rfl⟩ <;> (repeat' (first | exact trivial | refine HpLe.dd ?_ | refine HpLe.mk rfl (by simp) rfl (fun h => AObj.noConfusion h) ?_ ?_ | refine And.intro ?_ ?_ | exact cl9 | refine VLe.pe ?_ | refine VLe.agg ?_ | refine VLe.tup ?_ | refine VLe.fn ?_ ?_ | refine VLeL.cons ?_ ?_ | exact VLeL.nil | exact OLe.row _ _ | rfl | refine VLe.rsle rfl ?_ ?_ ?_ | refine OLe.rowe2 ?_ ?_ | refine OLe.mape ?_ ?_ | refine OLe.iter0 ?_ | refine OLe.itere ?_ ?_)))
  | cons c r =>
    obtain ⟨hc, hdr⟩ := drop_cons hd
    obtain ⟨hc0, hc1⟩ := hB c (List.mem_of_getElem? hc)
    have hlt : a < b.length := (List.getElem?_eq_some_iff.1 hc).1
    have q1 := next_some b hb a c hc false
    rw [hd] at hq
    unfold numR at hq
    by_cases hok : nOk i c = true
    · rw [if_pos hok] at hq
      have hk : (i < 9 ∨ c ≤ 1) := by unfold nOk at hok; simp at hok; omega
      have hk2 : (i = 0 ∨ ¬ c = 0) := by unfold nOk at hok; simp at hok; omega
      have hbits := nAdd_sum hi hu hc0 hc1 hk
      have h64 := nAdd_64 hi hu hc0 hk
      by_cases h128 : c < 128
      · rw [if_pos h128] at hq
        injection hq with e1 e2; injection e2 with e2 e3
        subst e2; subst e3
        have hbits2 : _ = ((rn : Nat) : Int) := hbits.trans (congrArg (fun n : Nat => (n : Int)) e1)
        repeat' (first | exact cl1 | ((with_reducible show Exists _); refine exU8 ?_) | ((with_reducible show callX _ _ _ _ _); (first | refine call_i [0] (q1) (by kernel_rfl) rfl rfl (by decide) cl6 (fun i hi => by match i, hi with | 0, _ => rfl) cl7 cl8 (by simp [keys]) ?_)) | ((fail_if_success with_reducible first | show LeG _ _ | show Lp _ _ _ _ | show Exists _ | show callX _ _ _ _ _ | show (_ : Int) ≤ _ | show (_ : Int) < _ | show (_ : Nat) ≤ _ | show (_ : Nat) < _); (conv => whnf) <;> (first | exact cl2 | refine Br.dec (fun hc => ?_) (fun hc => absurd h128 hc) | refine XAlt.l ?_ | refine Sq.pr ?_ | refine Br.dec (fun hc => ?_) (fun hc => ?_) | refine Br.tt ?_ | refine Br.ff ?_ | refine Br.not ?_ | refine Br.mk (fun hc => ?_) (fun hc => ?_) | refine Opt.nn ?_ | refine Opt.ss ?_ | refine AltA.l ?_ | exact PV.leL_nil | refine PV.leL_cons ?_ ?_ | refine And.intro ?_ ?_ | refine ix_map (fun x hx => ?_) | refine exU8 ?_ | refine nilc (fun hn => ?_) ?_ | exact cl3 | refine imp0 (fun hpos => ?_) | refine fits_i64 ?_ ?_ | exact rfl | (with_reducible first | show LeG _ _ | show Lp _ _ _ _ | show Exists _ | show callX _ _ _ _ _)))) <;> (try exact cl5)
        all_goals first
        | (exfalso; dsimp only at *; omega)
        | exact fits_u64 (by rw [hbits]; omega) (by rw [hbits]; omega)
        | (refine ⟨[], [(0, 0)], ?_, ?_, by decide, by simp, fun i hi => by match i, hi with | 0, _ => rfl⟩ <;> (repeat' (first | exact trivial | refine HpLe.dd ?_ | refine HpLe.mk rfl (by simp) rfl (fun h => AObj.noConfusion h) ?_ ?_ | refine And.intro ?_ ?_ | exact cl9 | refine VLe.pe ?_ | refine VLe.agg ?_ | refine VLe.tup ?_ | refine VLe.fn ?_ ?_ | refine VLeL.cons ?_ ?_ | exact VLeL.nil | exact OLe.row _ _ | rfl | refine VLe.rsle rfl ?_ ?_ ?_ | refine OLe.rowe2 ?_ ?_ | refine OLe.mape ?_ ?_ | refine OLe.iter0 ?_ | refine OLe.itere ?_ ?_)); exact congrArg (PV.int .u64) hbits2)
      · rw [if_neg h128] at hq
        have hi9 : i < 9 := by omega
        have hlt2 := nAdd_lt hi9 hu hc0
        repeat' (first | exact cl1 | ((with_reducible show Exists _); refine exU8 ?_) | ((with_reducible show callX _ _ _ _ _); (first | refine call_i [0] (q1) (by kernel_rfl) rfl rfl (by decide) cl6 (fun i hi => by match i, hi with | 0, _ => rfl) cl7 cl8 (by simp [keys]) ?_)) | ((fail_if_success with_reducible first | show LeG _ _ | show Lp _ _ _ _ | show Exists _ | show callX _ _ _ _ _ | show (_ : Int) ≤ _ | show (_ : Int) < _ | show (_ : Nat) ≤ _ | show (_ : Nat) < _); (conv => whnf) <;> (first | exact cl2 | refine Br.dec (fun hc => absurd hc h128) (fun hc => ?_) | refine XAlt.l ?_ | refine Sq.pr ?_ | refine Br.dec (fun hc => ?_) (fun hc => ?_) | refine Br.tt ?_ | refine Br.ff ?_ | refine Br.not ?_ | refine Br.mk (fun hc => ?_) (fun hc => ?_) | refine Opt.nn ?_ | refine Opt.ss ?_ | refine AltA.l ?_ | exact PV.leL_nil | refine PV.leL_cons ?_ ?_ | refine And.intro ?_ ?_ | refine ix_map (fun x hx => ?_) | refine exU8 ?_ | refine nilc (fun hn => ?_) ?_ | exact cl3 | refine imp0 (fun hpos => ?_) | refine fits_i64 ?_ ?_ | exact rfl | (with_reducible first | show LeG _ _ | show Lp _ _ _ _ | show Exists _ | show callX _ _ _ _ _)))) <;> (try exact cl5)
        all_goals first
        | (exfalso; dsimp only at *; omega)
        | exact fits_u64 (by rw [hbits]; omega) (by rw [hbits]; omega)
        | (refine ⟨⟨(i + 1, nAdd i u c, a + 1), hi9, hlt2, hlt, by show numR (b.drop (a + 1)) _ _ _ = _; rw [hdr]; exact hq⟩, by show b.length - (a + 1) < b.length - a; omega, ?_⟩
           (first | refine Ent.ofA [] ?_ | refine Ent.ofC [] ?_) <;> (repeat' (first | exact trivial | refine HpLe.dd ?_ | refine HpLe.mk rfl (by simp) rfl (fun h => AObj.noConfusion h) ?_ ?_ | refine And.intro ?_ ?_ | exact cl9 | refine VLe.pe ?_ | refine VLe.agg ?_ | refine VLe.tup ?_ | refine VLe.fn ?_ ?_ | refine VLeL.cons ?_ ?_ | exact VLeL.nil | exact OLe.row _ _ | rfl | refine VLe.rsle rfl ?_ ?_ ?_ | refine OLe.rowe2 ?_ ?_ | refine OLe.mape ?_ ?_ | refine OLe.iter0 ?_ | refine OLe.itere ?_ ?_)) <;> try (first | (simp; done) | (congr 1; omega) | (congr 1; (first | (simp; done) | (simp; omega))))
           all_goals exact congrArg (PV.int .u64) hbits)
    · have hk : ¬ ((i < 9 ∨ c ≤ 1) ∧ (i = 0 ∨ ¬ c = 0)) := by unfold nOk at hok; simp at hok; omega
      rw [if_neg hok] at hq
      injection hq with e1 e2; injection e2 with e2 e3
      subst e1; subst e2; subst e3
      repeat' (first | exact cl1 | ((with_reducible show Exists _); refine exU8 ?_) | ((with_reducible show callX _ _ _ _ _); (first | refine call_i [0] (q1) (by kernel_rfl) rfl rfl (by decide) cl6 (fun i hi => by match i, hi with | 0, _ => rfl) cl7 cl8 (by simp [keys]) ?_)) | ((fail_if_success with_reducible first | show LeG _ _ | show Lp _ _ _ _ | show Exists _ | show callX _ _ _ _ _ | show (_ : Int) ≤ _ | show (_ : Int) < _ | show (_ : Nat) ≤ _ | show (_ : Nat) < _); (conv => whnf) <;> (first | exact cl2 | refine XAlt.l ?_ | refine Sq.pr ?_ | refine Br.dec (fun hc => ?_) (fun hc => ?_) | refine Br.tt ?_ | refine Br.ff ?_ | refine Br.not ?_ | refine Br.mk (fun hc => ?_) (fun hc => ?_) | refine Opt.nn ?_ | refine Opt.ss ?_ | refine AltA.l ?_ | exact PV.leL_nil | refine PV.leL_cons ?_ ?_ | refine And.intro ?_ ?_ | refine ix_map (fun x hx => ?_) | refine exU8 ?_ | refine nilc (fun hn => ?_) ?_ | exact cl3 | refine imp0 (fun hpos => ?_) | refine fits_i64 ?_ ?_ | exact rfl | (with_reducible first | show LeG _ _ | show Lp _ _ _ _ | show Exists _ | show callX _ _ _ _ _)))) <;> (try exact cl5)
      all_goals first
      | (exfalso; dsimp only at *; omega)
      | (refine ⟨[], [(0, 0)], ?_, ?_, by decide, by simp, fun i hi => by match i, hi with | 0, _ => rfl⟩ <;> (repeat' (first | exact trivial | refine HpLe.dd ?_ | refine HpLe.mk rfl (by simp) rfl (fun h => AObj.noConfusion h) ?_ ?_ | refine And.intro ?_ ?_ | exact cl9 | refine VLe.pe ?_ | refine VLe.agg ?_ | refine VLe.tup ?_ | refine VLe.fn ?_ ?_ | refine VLeL.cons ?_ ?_ | exact VLeL.nil | exact OLe.row _ _ | rfl | refine VLe.rsle rfl ?_ ?_ ?_ | refine OLe.rowe2 ?_ ?_ | refine OLe.mape ?_ ?_ | refine OLe.iter0 ?_ | refine OLe.itere ?_ ?_)))
end Go.Proofs.Ytkgjhghbnocnbaa

namespace Go.Proofs.Ytkgjhghbnocnbaa
open Go Go.Sg
set_option maxRecDepth 100000
set_option maxHeartbeats 40000000
def repR (f : Nat → Vl × Nat × Bool) : Nat → Nat → List Vl × Nat × Bool
  | 0, a => ([], a, false)
  | n + 1, a => if (f a).2.2 then ([(f a).1], (f a).2.1, true) else ((f a).1 :: (repR f n (f a).2.1).1, (repR f n (f a).2.1).2)
def numAt (b : List Int) (a : Nat) : Nat × Nat × Bool := numR (b.drop a) 0 0 a
def badN (b : List Int) (R : Nat × Nat × Bool) : Bool := R.2.2 || decide (b.length - R.2.1 < R.1)
/-- The reference's reader: a value. -/
def rv (b : List Int) : Nat → Nat → Vl × Nat × Bool
  | k, a => match b[a]? with
    | none => (vZ, a, true)
    | some c => if c = 1 then (.mk 1 (nz (numAt b (a + 1)).1) ByteArray.empty [], (numAt b (a + 1)).2)
      else if c = 2 then (if badN b (numAt b (a + 1)) then (vZ, (numAt b (a + 1)).2.1, true) else (.mk 2 0 (strOfNums ((b.drop (numAt b (a + 1)).2.1).take (numAt b (a + 1)).1)) [], (numAt b (a + 1)).2.1 + (numAt b (a + 1)).1, false))
      else if c = 3 then (match k with
        | 0 => (vZ, (numAt b (a + 1)).2.1, true)
        | k + 1 => if badN b (numAt b (a + 1)) then (vZ, (numAt b (a + 1)).2.1, true) else (.mk 3 0 ByteArray.empty (repR (rv b k) (numAt b (a + 1)).1 (numAt b (a + 1)).2.1).1, (repR (rv b k) (numAt b (a + 1)).1 (numAt b (a + 1)).2.1).2))
      else (vZ, a + 1, true)
theorem numR_facts : ∀ (r : List Int) (i u a : Nat), B8 r → i ≤ 9 → u < 2 ^ (7 * i) → (numR r i u a).1 < 18446744073709551616 ∧ a ≤ (numR r i u a).2.1 ∧ (numR r i u a).2.1 ≤ a + r.length
  | [], i, u, a, _, _, _ => ⟨by show 0 < _; decide, Nat.le_refl _, Nat.le_refl _⟩
  | c :: r, i, u, a, hB, hi, hu => by
    unfold numR
    obtain ⟨h0, h1⟩ := hB c (by simp)
    have hB' : B8 r := fun x hx => hB x (by simp [hx])
    by_cases hok : nOk i c = true
    · rw [if_pos hok]
      have hk : (i < 9 ∨ c ≤ 1) := by unfold nOk at hok; simp at hok; omega
      by_cases h128 : c < 128
      · rw [if_pos h128]
        exact ⟨nAdd_64 hi hu h0 hk, by show a ≤ a + 1; omega, by show a + 1 ≤ a + (c :: r).length; simp⟩
      · rw [if_neg h128]
        have hi9 : i < 9 := by omega
        obtain ⟨a1, a2, a3⟩ := numR_facts r (i + 1) (nAdd i u c) (a + 1) hB' hi9 (nAdd_lt hi9 hu h0)
        exact ⟨a1, by omega, by simp only [List.length_cons]; omega⟩
    · rw [if_neg hok]
      exact ⟨by show 0 < _; decide, by show a ≤ a + 1; omega, by show a + 1 ≤ a + (c :: r).length; simp⟩
theorem B8.drop {b : List Int} (h : B8 b) (a : Nat) : B8 (b.drop a) := fun x hx => h x (List.mem_of_mem_drop hx)
theorem numAt_facts {b : List Int} (hB : B8 b) {a : Nat} (ha : a ≤ b.length) : (numAt b a).1 < 18446744073709551616 ∧ a ≤ (numAt b a).2.1 ∧ (numAt b a).2.1 ≤ b.length := by
  obtain ⟨a1, a2, a3⟩ := numR_facts (b.drop a) 0 0 a (hB.drop a) (by decide) (by decide)
  refine ⟨a1, a2, ?_⟩
  rw [List.length_drop] at a3
  show (numR (b.drop a) 0 0 a).2.1 ≤ _
  omega
theorem numAt_calls (b : List Int) (hb : b.length < 1000000) (hB : B8 b) (a : Nat) (ha : a ≤ b.length) :
    ICalls Try.prog 49 1 [(0, .cells [.p (eR b), .p (eI a), .p (.bool false)])] [.ptr 0 0] (.p (eU (numAt b a).1)) [(0, .cells [.p (eR b), .p (eI (numAt b a).2.1), .p (.bool (numAt b a).2.2)])] := rnumber_calls b hb hB a ha
theorem repR_facts {f : Nat → Vl × Nat × Bool} {N : Nat} (hf : ∀ a, a ≤ N → a ≤ (f a).2.1 ∧ (f a).2.1 ≤ N) : ∀ n a, a ≤ N → a ≤ (repR f n a).2.1 ∧ (repR f n a).2.1 ≤ N
  | 0, a, h => ⟨Nat.le_refl _, h⟩
  | n + 1, a, h => by
    obtain ⟨h1, h2⟩ := hf a h
    unfold repR
    split
    · exact ⟨h1, h2⟩
    · obtain ⟨h3, h4⟩ := repR_facts hf n _ h2
      exact ⟨by show a ≤ (repR f n (f a).2.1).2.1; omega, h4⟩
theorem rv_facts {b : List Int} (hB : B8 b) : ∀ k a, a ≤ b.length → a ≤ (rv b k a).2.1 ∧ (rv b k a).2.1 ≤ b.length := by
  intro k
  induction k with
  | zero =>
    intro a ha
    unfold rv
    cases hc : b[a]? with
    | none => exact ⟨Nat.le_refl _, ha⟩
    | some c =>
      have hlt : a < b.length := (List.getElem?_eq_some_iff.1 hc).1
      obtain ⟨n1, n2, n3⟩ := numAt_facts hB (a := a + 1) hlt
      simp only
      repeat' split
      · exact ⟨by show a ≤ (numAt b (a + 1)).2.1; omega, n3⟩
      · exact ⟨by show a ≤ (numAt b (a + 1)).2.1; omega, n3⟩
      · rename_i hbad
        unfold badN at hbad
        simp at hbad
        exact ⟨by show a ≤ (numAt b (a + 1)).2.1 + _; omega, by show (numAt b (a + 1)).2.1 + (numAt b (a + 1)).1 ≤ _; omega⟩
      · exact ⟨by show a ≤ (numAt b (a + 1)).2.1; omega, n3⟩
      · exact ⟨by show a ≤ a + 1; omega, by show a + 1 ≤ _; omega⟩
  | succ k ih =>
    intro a ha
    unfold rv
    cases hc : b[a]? with
    | none => exact ⟨Nat.le_refl _, ha⟩
    | some c =>
      have hlt : a < b.length := (List.getElem?_eq_some_iff.1 hc).1
      obtain ⟨n1, n2, n3⟩ := numAt_facts hB (a := a + 1) hlt
      simp only
      repeat' split
      · exact ⟨by show a ≤ (numAt b (a + 1)).2.1; omega, n3⟩
      · exact ⟨by show a ≤ (numAt b (a + 1)).2.1; omega, n3⟩
      · rename_i hbad
        unfold badN at hbad
        simp at hbad
        exact ⟨by show a ≤ (numAt b (a + 1)).2.1 + _; omega, by show (numAt b (a + 1)).2.1 + (numAt b (a + 1)).1 ≤ _; omega⟩
      · exact ⟨by show a ≤ (numAt b (a + 1)).2.1; omega, n3⟩
      · obtain ⟨h3, h4⟩ := repR_facts ih (numAt b (a + 1)).1 (numAt b (a + 1)).2.1 n3
        exact ⟨by show a ≤ (repR (rv b k) (numAt b (a + 1)).1 (numAt b (a + 1)).2.1).2.1; omega, h4⟩
      · exact ⟨by show a ≤ a + 1; omega, by show a + 1 ≤ _; omega⟩
theorem exU8e {L : List PV} {q : List Int} {K : List Int → Prop} (h : L = q.map (PV.int .u8)) (k : K q) : ∃ q', u8s L = some q' ∧ K q' := ⟨q, by rw [h, u8s_map], k⟩
theorem leZ0 {z : Nat} {k n s : PV} : LeG (.agg [k, n, s, .sl z true []]) (.agg [k, n, s, .sl 4 false []]) := LeG.mk le_val
theorem rvalue_nolist (b : List Int) (hb : b.length < 1000000) (hB : B8 b) (k : Nat) (a : Nat) (ha : a ≤ b.length) (h3 : b[a]? ≠ some 3) :
    ICalls Try.prog 34 1 [(0, .cells [.p (eR b), .p (eI a), .p (.bool false)])] [.ptr 0 0, .p (eI (16 - (k : Int)))] (.p (eW (rv b k a).1)) [(0, .cells [.p (eR b), .p (eI (rv b k a).2.1), .p (.bool (rv b k a).2.2)])] := by
  unfold rv
  cases hc : b[a]? with
  | none =>
    have q1 := next_none b hb a (List.getElem?_eq_none_iff.1 hc) (by omega) false
    refine ICalls.of (N := 142) (res := [.cell 4 24]) mixed Try.func34 rfl rfl rfl (by kernel_rfl) (by simp) [0, 1, 4, 5, 6, 7, 8, 9, 11, 12, 18, 29, 51, 84, 110, 125] (Nat.le_refl _) ?_
    repeat' (first | exact cl1 | ((with_reducible show Exists _); refine exU8 ?_) | ((with_reducible show callX _ _ _ _ _); (first | refine call_i [0] (q1) (by kernel_rfl) rfl rfl (by decide) cl6 (fun i hi => by match i, hi with | 0, _ => rfl) cl7 cl8 (by simp [keys]) ?_)) | ((fail_if_success with_reducible first | show LeG _ _ | show Lp _ _ _ _ | show Exists _ | show callX _ _ _ _ _ | show (_ : Int) ≤ _ | show (_ : Int) < _ | show (_ : Nat) ≤ _ | show (_ : Nat) < _); (conv => whnf) <;> (first | exact cl2 | refine XAlt.l ?_ | refine Sq.pr ?_ | refine Br.dec (fun hc => ?_) (fun hc => ?_) | refine Br.tt ?_ | refine Br.ff ?_ | refine Br.not ?_ | refine Br.mk (fun hc => ?_) (fun hc => ?_) | refine Opt.nn ?_ | refine Opt.ss ?_ | refine AltA.l ?_ | exact PV.leL_nil | refine PV.leL_cons ?_ ?_ | refine And.intro ?_ ?_ | refine ix_map (fun x hx => ?_) | refine exU8 ?_ | refine nilc (fun hn => ?_) ?_ | exact cl3 | refine imp0 (fun hpos => ?_) | refine fits_i64 ?_ ?_ | exact rfl | (with_reducible first | show LeG _ _ | show Lp _ _ _ _ | show Exists _ | show callX _ _ _ _ _)))) <;> (try exact cl5)
    refine ⟨[], [(0, 0)], VLe.p le_val, ?_, by decide, by simp, fun i hi => by match i, hi with | 0, _ => rfl⟩
    (repeat' (first | exact trivial | refine HpLe.dd ?_ | refine HpLe.mk rfl (by simp) rfl (fun h => AObj.noConfusion h) ?_ ?_ | refine And.intro ?_ ?_ | exact cl9 | refine VLe.pe ?_ | refine VLe.agg ?_ | refine VLe.tup ?_ | refine VLe.fn ?_ ?_ | refine VLeL.cons ?_ ?_ | exact VLeL.nil | exact OLe.row _ _ | rfl | refine VLe.rsle rfl ?_ ?_ ?_ | refine OLe.rowe2 ?_ ?_ | refine OLe.mape ?_ ?_ | refine OLe.iter0 ?_ | refine OLe.itere ?_ ?_))
  | some c =>
    have hlt : a < b.length := (List.getElem?_eq_some_iff.1 hc).1
    have q1 := next_some b hb a c hc false
    have q2 := numAt_calls b hb hB (a + 1) hlt
    obtain ⟨n1, n2, n3⟩ := numAt_facts hB (a := a + 1) hlt
    simp only
    by_cases k1 : c = 1
    · subst k1
      rw [if_pos rfl]
      generalize numAt b (a + 1) = R at *
      obtain ⟨u, a', bad⟩ := R
      have n1 : u < 18446744073709551616 := n1
      have e1 : (u : Int).tmod 2 = ((u % 2 : Nat) : Int) := by rw [Int.tmod_eq_emod_of_nonneg (by omega)]; omega
      have e2 : (u : Int).tdiv 2 = ((u / 2 : Nat) : Int) := by rw [Int.tdiv_eq_ediv_of_nonneg (by omega)]; omega
      have e3 : IntKind.i64.wrap ((u / 2 : Nat) : Int) = ((u / 2 : Nat) : Int) := wrap_i64 (by omega) (by omega)
      by_cases hu : (u : Int).tmod 2 = 1
      · have hz : nz u = 0 - IntKind.i64.wrap ((u : Int).tdiv 2) - 1 := by unfold nz; rw [if_neg (by omega), e2, e3]; omega
        refine ICalls.of (N := 142) (res := [.cell 4 24]) mixed Try.func34 rfl rfl rfl (by kernel_rfl) (by simp) [0, 1, 4, 5, 6, 7, 8, 9, 11, 12, 18, 29, 51, 84, 110, 125] (Nat.le_refl _) ?_
        repeat' (first | exact cl1 | ((with_reducible show Exists _); refine exU8 ?_) | ((with_reducible show callX _ _ _ _ _); (first | refine call_i [0] (q1) (by kernel_rfl) rfl rfl (by decide) cl6 (fun i hi => by match i, hi with | 0, _ => rfl) cl7 cl8 (by simp [keys]) ?_ | refine call_i [0] (q2) (by kernel_rfl) rfl rfl (by decide) cl6 (fun i hi => by match i, hi with | 0, _ => rfl) cl7 cl8 (by simp [keys]) ?_)) | ((fail_if_success with_reducible first | show LeG _ _ | show Lp _ _ _ _ | show Exists _ | show callX _ _ _ _ _ | show (_ : Int) ≤ _ | show (_ : Int) < _ | show (_ : Nat) ≤ _ | show (_ : Nat) < _); (conv => whnf) <;> (first | exact cl2 | refine Br.dec (fun hc => ?_) (fun hc => absurd hu hc) | refine XAlt.l ?_ | refine Sq.pr ?_ | refine Br.dec (fun hc => ?_) (fun hc => ?_) | refine Br.tt ?_ | refine Br.ff ?_ | refine Br.not ?_ | refine Br.mk (fun hc => ?_) (fun hc => ?_) | refine Opt.nn ?_ | refine Opt.ss ?_ | refine AltA.l ?_ | exact PV.leL_nil | refine PV.leL_cons ?_ ?_ | refine And.intro ?_ ?_ | refine ix_map (fun x hx => ?_) | refine exU8 ?_ | refine nilc (fun hn => ?_) ?_ | exact cl3 | refine imp0 (fun hpos => ?_) | refine fits_i64 ?_ ?_ | exact rfl | (with_reducible first | show LeG _ _ | show Lp _ _ _ _ | show Exists _ | show callX _ _ _ _ _)))) <;> (try exact cl5)
        all_goals first
        | (dsimp only; rw [e2]; exact fits_u64 (by omega) (by omega))
        | (dsimp only; rw [e2, e3]; omega)
        | (refine ⟨[], [(0, 0)], VLe.p (by show PV.le _ (eW (.mk 1 (nz u) ByteArray.empty [])); rw [hz]; exact le_val), ?_, by decide, by simp, fun i hi => by match i, hi with | 0, _ => rfl⟩; (repeat' (first | exact trivial | refine HpLe.dd ?_ | refine HpLe.mk rfl (by simp) rfl (fun h => AObj.noConfusion h) ?_ ?_ | refine And.intro ?_ ?_ | exact cl9 | refine VLe.pe ?_ | refine VLe.agg ?_ | refine VLe.tup ?_ | refine VLe.fn ?_ ?_ | refine VLeL.cons ?_ ?_ | exact VLeL.nil | exact OLe.row _ _ | rfl | refine VLe.rsle rfl ?_ ?_ ?_ | refine OLe.rowe2 ?_ ?_ | refine OLe.mape ?_ ?_ | refine OLe.iter0 ?_ | refine OLe.itere ?_ ?_)))
      · have hz : nz u = IntKind.i64.wrap ((u : Int).tdiv 2) := by unfold nz; rw [if_pos (by omega), e2, e3]
        refine ICalls.of (N := 142) (res := [.cell 4 24]) mixed Try.func34 rfl rfl rfl (by kernel_rfl) (by simp) [0, 1, 4, 5, 6, 7, 8, 9, 11, 12, 18, 29, 51, 84, 110, 125] (Nat.le_refl _) ?_
        repeat' (first | exact cl1 | ((with_reducible show Exists _); refine exU8 ?_) | ((with_reducible show callX _ _ _ _ _); (first | refine call_i [0] (q1) (by kernel_rfl) rfl rfl (by decide) cl6 (fun i hi => by match i, hi with | 0, _ => rfl) cl7 cl8 (by simp [keys]) ?_ | refine call_i [0] (q2) (by kernel_rfl) rfl rfl (by decide) cl6 (fun i hi => by match i, hi with | 0, _ => rfl) cl7 cl8 (by simp [keys]) ?_)) | ((fail_if_success with_reducible first | show LeG _ _ | show Lp _ _ _ _ | show Exists _ | show callX _ _ _ _ _ | show (_ : Int) ≤ _ | show (_ : Int) < _ | show (_ : Nat) ≤ _ | show (_ : Nat) < _); (conv => whnf) <;> (first | exact cl2 | refine Br.dec (fun hc => absurd hc hu) (fun hc => ?_) | refine XAlt.l ?_ | refine Sq.pr ?_ | refine Br.dec (fun hc => ?_) (fun hc => ?_) | refine Br.tt ?_ | refine Br.ff ?_ | refine Br.not ?_ | refine Br.mk (fun hc => ?_) (fun hc => ?_) | refine Opt.nn ?_ | refine Opt.ss ?_ | refine AltA.l ?_ | exact PV.leL_nil | refine PV.leL_cons ?_ ?_ | refine And.intro ?_ ?_ | refine ix_map (fun x hx => ?_) | refine exU8 ?_ | refine nilc (fun hn => ?_) ?_ | exact cl3 | refine imp0 (fun hpos => ?_) | refine fits_i64 ?_ ?_ | exact rfl | (with_reducible first | show LeG _ _ | show Lp _ _ _ _ | show Exists _ | show callX _ _ _ _ _)))) <;> (try exact cl5)
        all_goals first
        | (dsimp only; rw [e2]; exact fits_u64 (by omega) (by omega))
        | (dsimp only; rw [e2, e3]; omega)
        | (refine ⟨[], [(0, 0)], VLe.p (by show PV.le _ (eW (.mk 1 (nz u) ByteArray.empty [])); rw [hz]; exact le_val), ?_, by decide, by simp, fun i hi => by match i, hi with | 0, _ => rfl⟩; (repeat' (first | exact trivial | refine HpLe.dd ?_ | refine HpLe.mk rfl (by simp) rfl (fun h => AObj.noConfusion h) ?_ ?_ | refine And.intro ?_ ?_ | exact cl9 | refine VLe.pe ?_ | refine VLe.agg ?_ | refine VLe.tup ?_ | refine VLe.fn ?_ ?_ | refine VLeL.cons ?_ ?_ | exact VLeL.nil | exact OLe.row _ _ | rfl | refine VLe.rsle rfl ?_ ?_ ?_ | refine OLe.rowe2 ?_ ?_ | refine OLe.mape ?_ ?_ | refine OLe.iter0 ?_ | refine OLe.itere ?_ ?_)))
    · rw [if_neg k1]
      by_cases k2 : c = 2
      · subst k2
        rw [if_pos rfl]
        generalize numAt b (a + 1) = R at *
        obtain ⟨u, a', bad⟩ := R
        have n1 : u < 18446744073709551616 := n1
        have n3 : a' ≤ b.length := n3
        have hw : IntKind.u64.wrap (((b.map (PV.int .u8)).length : Int) - (a' : Int)) = ((b.length - a' : Nat) : Int) := by rw [List.length_map, wrap_u64]; omega
        cases bad with
        | true =>
          rw [if_pos (show badN b (u, a', true) = true from rfl)]
          refine ICalls.of (N := 142) (res := [.cell 4 24]) mixed Try.func34 rfl rfl rfl (by kernel_rfl) (by simp) [0, 1, 4, 5, 6, 7, 8, 9, 11, 12, 18, 29, 51, 84, 110, 125] (Nat.le_refl _) ?_
          repeat' (first | exact cl1 | ((with_reducible show Exists _); refine exU8 ?_) | ((with_reducible show callX _ _ _ _ _); (first | refine call_i [0] (q1) (by kernel_rfl) rfl rfl (by decide) cl6 (fun i hi => by match i, hi with | 0, _ => rfl) cl7 cl8 (by simp [keys]) ?_ | refine call_i [0] (q2) (by kernel_rfl) rfl rfl (by decide) cl6 (fun i hi => by match i, hi with | 0, _ => rfl) cl7 cl8 (by simp [keys]) ?_)) | ((fail_if_success with_reducible first | show LeG _ _ | show Lp _ _ _ _ | show Exists _ | show callX _ _ _ _ _ | show (_ : Int) ≤ _ | show (_ : Int) < _ | show (_ : Nat) ≤ _ | show (_ : Nat) < _); (conv => whnf) <;> (first | exact cl2 | refine XAlt.l ?_ | refine Sq.pr ?_ | refine Br.dec (fun hc => ?_) (fun hc => ?_) | refine Br.tt ?_ | refine Br.ff ?_ | refine Br.not ?_ | refine Br.mk (fun hc => ?_) (fun hc => ?_) | refine Opt.nn ?_ | refine Opt.ss ?_ | refine AltA.l ?_ | exact PV.leL_nil | refine PV.leL_cons ?_ ?_ | refine And.intro ?_ ?_ | refine ix_map (fun x hx => ?_) | refine exU8 ?_ | refine nilc (fun hn => ?_) ?_ | exact cl3 | refine imp0 (fun hpos => ?_) | refine fits_i64 ?_ ?_ | exact rfl | (with_reducible first | show LeG _ _ | show Lp _ _ _ _ | show Exists _ | show callX _ _ _ _ _)))) <;> (try exact cl5)
          refine ⟨[], [(0, 0)], VLe.p le_val, ?_, by decide, by simp, fun i hi => by match i, hi with | 0, _ => rfl⟩
          (repeat' (first | exact trivial | refine HpLe.dd ?_ | refine HpLe.mk rfl (by simp) rfl (fun h => AObj.noConfusion h) ?_ ?_ | refine And.intro ?_ ?_ | exact cl9 | refine VLe.pe ?_ | refine VLe.agg ?_ | refine VLe.tup ?_ | refine VLe.fn ?_ ?_ | refine VLeL.cons ?_ ?_ | exact VLeL.nil | exact OLe.row _ _ | rfl | refine VLe.rsle rfl ?_ ?_ ?_ | refine OLe.rowe2 ?_ ?_ | refine OLe.mape ?_ ?_ | refine OLe.iter0 ?_ | refine OLe.itere ?_ ?_))
        | false =>
          by_cases hgt : (u : Int) > IntKind.u64.wrap (((b.map (PV.int .u8)).length : Int) - (a' : Int))
          · have hbd : badN b (u, a', false) = true := by unfold badN; rw [hw] at hgt; simp; omega
            rw [if_pos hbd]
            refine ICalls.of (N := 142) (res := [.cell 4 24]) mixed Try.func34 rfl rfl rfl (by kernel_rfl) (by simp) [0, 1, 4, 5, 6, 7, 8, 9, 11, 12, 18, 29, 51, 84, 110, 125] (Nat.le_refl _) ?_
            repeat' (first | exact cl1 | ((with_reducible show Exists _); refine exU8 ?_) | ((with_reducible show callX _ _ _ _ _); (first | refine call_i [0] (q1) (by kernel_rfl) rfl rfl (by decide) cl6 (fun i hi => by match i, hi with | 0, _ => rfl) cl7 cl8 (by simp [keys]) ?_ | refine call_i [0] (q2) (by kernel_rfl) rfl rfl (by decide) cl6 (fun i hi => by match i, hi with | 0, _ => rfl) cl7 cl8 (by simp [keys]) ?_)) | ((fail_if_success with_reducible first | show LeG _ _ | show Lp _ _ _ _ | show Exists _ | show callX _ _ _ _ _ | show (_ : Int) ≤ _ | show (_ : Int) < _ | show (_ : Nat) ≤ _ | show (_ : Nat) < _); (conv => whnf) <;> (first | exact cl2 | refine Br.dec (fun hc => ?_) (fun hc => absurd hgt hc) | refine XAlt.l ?_ | refine Sq.pr ?_ | refine Br.dec (fun hc => ?_) (fun hc => ?_) | refine Br.tt ?_ | refine Br.ff ?_ | refine Br.not ?_ | refine Br.mk (fun hc => ?_) (fun hc => ?_) | refine Opt.nn ?_ | refine Opt.ss ?_ | refine AltA.l ?_ | exact PV.leL_nil | refine PV.leL_cons ?_ ?_ | refine And.intro ?_ ?_ | refine ix_map (fun x hx => ?_) | refine exU8 ?_ | refine nilc (fun hn => ?_) ?_ | exact cl3 | refine imp0 (fun hpos => ?_) | refine fits_i64 ?_ ?_ | exact rfl | (with_reducible first | show LeG _ _ | show Lp _ _ _ _ | show Exists _ | show callX _ _ _ _ _)))) <;> (try exact cl5)
            refine ⟨[], [(0, 0)], VLe.p le_val, ?_, by decide, by simp, fun i hi => by match i, hi with | 0, _ => rfl⟩
            (repeat' (first | exact trivial | refine HpLe.dd ?_ | refine HpLe.mk rfl (by simp) rfl (fun h => AObj.noConfusion h) ?_ ?_ | refine And.intro ?_ ?_ | exact cl9 | refine VLe.pe ?_ | refine VLe.agg ?_ | refine VLe.tup ?_ | refine VLe.fn ?_ ?_ | refine VLeL.cons ?_ ?_ | exact VLeL.nil | exact OLe.row _ _ | rfl | refine VLe.rsle rfl ?_ ?_ ?_ | refine OLe.rowe2 ?_ ?_ | refine OLe.mape ?_ ?_ | refine OLe.iter0 ?_ | refine OLe.itere ?_ ?_))
          · have hbd : ¬ badN b (u, a', false) = true := by unfold badN; rw [hw] at hgt; simp; omega
            rw [if_neg hbd]
            have hle : u ≤ b.length - a' := by rw [hw] at hgt; omega
            have hwu : IntKind.i64.wrap (u : Int) = (u : Int) := wrap_i64 (by omega) (by omega)
            refine ICalls.of (N := 142) (res := [.cell 4 24]) mixed Try.func34 rfl rfl rfl (by kernel_rfl) (by simp) [0, 1, 4, 5, 6, 7, 8, 9, 11, 12, 18, 29, 51, 84, 110, 125] (Nat.le_refl _) ?_
            have hsub : List.drop (((a' : Int) + IntKind.i64.wrap (u : Int)) - IntKind.i64.wrap (u : Int)).toNat (List.take ((a' : Int) + IntKind.i64.wrap (u : Int)).toNat (b.map (PV.int .u8))) = ((b.drop a').take u).map (PV.int .u8) := by
              rw [hwu, show (((a' : Int) + (u : Int)) - (u : Int)).toNat = a' by omega, show ((a' : Int) + (u : Int)).toNat = a' + u by omega, List.drop_take, show a' + u - a' = u by omega, List.map_take, List.map_drop]
            repeat' (first | exact cl1 | ((with_reducible show Exists _); refine exU8 ?_) | ((with_reducible show callX _ _ _ _ _); (first | refine call_i [0] (q1) (by kernel_rfl) rfl rfl (by decide) cl6 (fun i hi => by match i, hi with | 0, _ => rfl) cl7 cl8 (by simp [keys]) ?_ | refine call_i [0] (q2) (by kernel_rfl) rfl rfl (by decide) cl6 (fun i hi => by match i, hi with | 0, _ => rfl) cl7 cl8 (by simp [keys]) ?_)) | ((fail_if_success with_reducible first | show LeG _ _ | show Lp _ _ _ _ | show Exists _ | show callX _ _ _ _ _ | show (_ : Int) ≤ _ | show (_ : Int) < _ | show (_ : Nat) ≤ _ | show (_ : Nat) < _); (conv => whnf) <;> (first | exact cl2 | refine Br.dec (fun hc => absurd hc hgt) (fun hc => ?_) | refine XAlt.l ?_ | refine Sq.pr ?_ | refine Br.dec (fun hc => ?_) (fun hc => ?_) | refine Br.tt ?_ | refine Br.ff ?_ | refine Br.not ?_ | refine Br.mk (fun hc => ?_) (fun hc => ?_) | refine Opt.nn ?_ | refine Opt.ss ?_ | refine AltA.l ?_ | exact PV.leL_nil | refine PV.leL_cons ?_ ?_ | refine And.intro ?_ ?_ | refine ix_map (fun x hx => ?_) | refine exU8 ?_ | refine nilc (fun hn => ?_) ?_ | exact cl3 | refine imp0 (fun hpos => ?_) | refine fits_i64 ?_ ?_ | exact rfl | (with_reducible first | show LeG _ _ | show Lp _ _ _ _ | show Exists _ | show callX _ _ _ _ _)))) <;> (try exact cl5)
            refine exU8e hsub ?_
            repeat' (first | exact cl1 | ((with_reducible show Exists _); refine exU8 ?_) | ((fail_if_success with_reducible first | show LeG _ _ | show Lp _ _ _ _ | show Exists _ | show callX _ _ _ _ _ | show (_ : Int) ≤ _ | show (_ : Int) < _ | show (_ : Nat) ≤ _ | show (_ : Nat) < _); (conv => whnf) <;> (first | exact cl2 | refine XAlt.l ?_ | refine Sq.pr ?_ | refine Br.dec (fun hc => ?_) (fun hc => ?_) | refine Br.tt ?_ | refine Br.ff ?_ | refine Br.not ?_ | refine Br.mk (fun hc => ?_) (fun hc => ?_) | refine Opt.nn ?_ | refine Opt.ss ?_ | refine AltA.l ?_ | exact PV.leL_nil | refine PV.leL_cons ?_ ?_ | refine And.intro ?_ ?_ | refine ix_map (fun x hx => ?_) | refine exU8 ?_ | refine nilc (fun hn => ?_) ?_ | exact cl3 | refine imp0 (fun hpos => ?_) | refine fits_i64 ?_ ?_ | exact rfl | (with_reducible first | show LeG _ _ | show Lp _ _ _ _ | show Exists _ | show callX _ _ _ _ _)))) <;> (try exact cl5)
            refine ⟨[], [(0, 0)], VLe.p le_val, ?_, by decide, by simp, fun i hi => by match i, hi with | 0, _ => rfl⟩
            (repeat' (first | exact trivial | refine HpLe.dd ?_ | refine HpLe.mk rfl (by simp) rfl (fun h => AObj.noConfusion h) ?_ ?_ | refine And.intro ?_ ?_ | exact cl9 | refine VLe.pe ?_ | refine VLe.agg ?_ | refine VLe.tup ?_ | refine VLe.fn ?_ ?_ | refine VLeL.cons ?_ ?_ | exact VLeL.nil | exact OLe.row _ _ | rfl | refine VLe.rsle rfl ?_ ?_ ?_ | refine OLe.rowe2 ?_ ?_ | refine OLe.mape ?_ ?_ | refine OLe.iter0 ?_ | refine OLe.itere ?_ ?_))
            all_goals (dsimp only; rw [hwu]; rfl)
      · rw [if_neg k2, if_neg (fun e => h3 (by rw [hc, e]))]
        have k3 : ¬ c = 3 := fun e => h3 (by rw [hc, e])
        refine ICalls.of (N := 142) (res := [.cell 4 24]) mixed Try.func34 rfl rfl rfl (by kernel_rfl) (by simp) [0, 1, 4, 5, 6, 7, 8, 9, 11, 12, 18, 29, 51, 84, 110, 125] (Nat.le_refl _) ?_
        repeat' (first | exact cl1 | ((with_reducible show Exists _); refine exU8 ?_) | ((with_reducible show callX _ _ _ _ _); (first | refine call_i [0] (q1) (by kernel_rfl) rfl rfl (by decide) cl6 (fun i hi => by match i, hi with | 0, _ => rfl) cl7 cl8 (by simp [keys]) ?_)) | ((fail_if_success with_reducible first | show LeG _ _ | show Lp _ _ _ _ | show Exists _ | show callX _ _ _ _ _ | show (_ : Int) ≤ _ | show (_ : Int) < _ | show (_ : Nat) ≤ _ | show (_ : Nat) < _); (conv => whnf) <;> (first | exact cl2 | refine Br.dec (fun hc => absurd hc k1) (fun hc => ?_) | refine Br.dec (fun hc => absurd hc k2) (fun hc => ?_) | refine Br.dec (fun hc => absurd hc k3) (fun hc => ?_) | refine XAlt.l ?_ | refine Sq.pr ?_ | refine Br.dec (fun hc => ?_) (fun hc => ?_) | refine Br.tt ?_ | refine Br.ff ?_ | refine Br.not ?_ | refine Br.mk (fun hc => ?_) (fun hc => ?_) | refine Opt.nn ?_ | refine Opt.ss ?_ | refine AltA.l ?_ | exact PV.leL_nil | refine PV.leL_cons ?_ ?_ | refine And.intro ?_ ?_ | refine ix_map (fun x hx => ?_) | refine exU8 ?_ | refine nilc (fun hn => ?_) ?_ | exact cl3 | refine imp0 (fun hpos => ?_) | refine fits_i64 ?_ ?_ | exact rfl | (with_reducible first | show LeG _ _ | show Lp _ _ _ _ | show Exists _ | show callX _ _ _ _ _)))) <;> (try exact cl5)
        refine ⟨[], [(0, 0)], VLe.p le_val, ?_, by decide, by simp, fun i hi => by match i, hi with | 0, _ => rfl⟩
        (repeat' (first | exact trivial | refine HpLe.dd ?_ | refine HpLe.mk rfl (by simp) rfl (fun h => AObj.noConfusion h) ?_ ?_ | refine And.intro ?_ ?_ | exact cl9 | refine VLe.pe ?_ | refine VLe.agg ?_ | refine VLe.tup ?_ | refine VLe.fn ?_ ?_ | refine VLeL.cons ?_ ?_ | exact VLeL.nil | exact OLe.row _ _ | rfl | refine VLe.rsle rfl ?_ ?_ ?_ | refine OLe.rowe2 ?_ ?_ | refine OLe.mape ?_ ?_ | refine OLe.iter0 ?_ | refine OLe.itere ?_ ?_))
end Go.Proofs.Ytkgjhghbnocnbaa

namespace Go.Proofs.Ytkgjhghbnocnbaa
open Go Go.Sg
set_option maxRecDepth 100000
set_option maxHeartbeats 40000000
theorem rvalue_deep (b : List Int) (hb : b.length < 1000000) (hB : B8 b) (a : Nat) (ha : a ≤ b.length) (hc : b[a]? = some 3) :
    ICalls Try.prog 34 1 [(0, .cells [.p (eR b), .p (eI a), .p (.bool false)])] [.ptr 0 0, .p (eI 16)] (.p (eW vZ)) [(0, .cells [.p (eR b), .p (eI (numAt b (a + 1)).2.1), .p (.bool true)])] := by
  have hlt : a < b.length := (List.getElem?_eq_some_iff.1 hc).1
  have q1 := next_some b hb a 3 hc false
  have q2 := numAt_calls b hb hB (a + 1) hlt
  obtain ⟨n1, n2, n3⟩ := numAt_facts hB (a := a + 1) hlt
  have k1 : ¬ (3 : Int) = 1 := by decide
  have k2 : ¬ (3 : Int) = 2 := by decide
  generalize numAt b (a + 1) = R at *
  obtain ⟨u, a', bad⟩ := R
  have n3 : a' ≤ b.length := n3
  refine ICalls.of (N := 142) (res := [.cell 4 24]) mixed Try.func34 rfl rfl rfl (by kernel_rfl) (by simp) [0, 1, 4, 5, 6, 7, 8, 9, 11, 12, 18, 29, 51, 84, 110, 125] (Nat.le_refl _) ?_
  repeat' (first | exact cl1 | ((with_reducible show Exists _); refine exU8 ?_) | ((with_reducible show callX _ _ _ _ _); (first | refine call_i [0] (q1) (by kernel_rfl) rfl rfl (by decide) cl6 (fun i hi => by match i, hi with | 0, _ => rfl) cl7 cl8 (by simp [keys]) ?_ | refine call_i [0] (q2) (by kernel_rfl) rfl rfl (by decide) cl6 (fun i hi => by match i, hi with | 0, _ => rfl) cl7 cl8 (by simp [keys]) ?_)) | ((fail_if_success with_reducible first | show LeG _ _ | show Lp _ _ _ _ | show Exists _ | show callX _ _ _ _ _ | show (_ : Int) ≤ _ | show (_ : Int) < _ | show (_ : Nat) ≤ _ | show (_ : Nat) < _); (conv => whnf) <;> (first | exact cl2 | refine Br.dec (fun hc => absurd hc k1) (fun hc => ?_) | refine Br.dec (fun hc => absurd hc k2) (fun hc => ?_) | refine XAlt.l ?_ | refine Sq.pr ?_ | refine Br.dec (fun hc => ?_) (fun hc => ?_) | refine Br.tt ?_ | refine Br.ff ?_ | refine Br.not ?_ | refine Br.mk (fun hc => ?_) (fun hc => ?_) | refine Opt.nn ?_ | refine Opt.ss ?_ | refine AltA.l ?_ | exact PV.leL_nil | refine PV.leL_cons ?_ ?_ | refine And.intro ?_ ?_ | refine ix_map (fun x hx => ?_) | refine exU8 ?_ | refine nilc (fun hn => ?_) ?_ | exact cl3 | refine imp0 (fun hpos => ?_) | refine fits_i64 ?_ ?_ | exact rfl | (with_reducible first | show LeG _ _ | show Lp _ _ _ _ | show Exists _ | show callX _ _ _ _ _)))) <;> (try exact cl5)
  all_goals first
  | (exfalso; dsimp only at *; omega)
  | (refine ⟨[], [(0, 0)], VLe.p le_val, ?_, by decide, by simp, fun i hi => by match i, hi with | 0, _ => rfl⟩; (repeat' (first | exact trivial | refine HpLe.dd ?_ | refine HpLe.mk rfl (by simp) rfl (fun h => AObj.noConfusion h) ?_ ?_ | refine And.intro ?_ ?_ | exact cl9 | refine VLe.pe ?_ | refine VLe.agg ?_ | refine VLe.tup ?_ | refine VLe.fn ?_ ?_ | refine VLeL.cons ?_ ?_ | exact VLeL.nil | exact OLe.row _ _ | rfl | refine VLe.rsle rfl ?_ ?_ ?_ | refine OLe.rowe2 ?_ ?_ | refine OLe.mape ?_ ?_ | refine OLe.iter0 ?_ | refine OLe.itere ?_ ?_)))
theorem rvalue_badlist (b : List Int) (hb : b.length < 1000000) (hB : B8 b) (k : Nat) (hk : k < 16) (a : Nat) (ha : a ≤ b.length) (hc : b[a]? = some 3) (hbd : badN b (numAt b (a + 1)) = true) :
    ICalls Try.prog 34 1 [(0, .cells [.p (eR b), .p (eI a), .p (.bool false)])] [.ptr 0 0, .p (eI (16 - ((k + 1 : Nat) : Int)))] (.p (eW vZ)) [(0, .cells [.p (eR b), .p (eI (numAt b (a + 1)).2.1), .p (.bool true)])] := by
  have hlt : a < b.length := (List.getElem?_eq_some_iff.1 hc).1
  have q1 := next_some b hb a 3 hc false
  have q2 := numAt_calls b hb hB (a + 1) hlt
  obtain ⟨n1, n2, n3⟩ := numAt_facts hB (a := a + 1) hlt
  have k1 : ¬ (3 : Int) = 1 := by decide
  have k2 : ¬ (3 : Int) = 2 := by decide
  generalize numAt b (a + 1) = R at *
  obtain ⟨u, a', bad⟩ := R
  have n1 : u < 18446744073709551616 := n1
  have n3 : a' ≤ b.length := n3
  have hw : IntKind.u64.wrap (((b.map (PV.int .u8)).length : Int) - (a' : Int)) = ((b.length - a' : Nat) : Int) := by rw [List.length_map, wrap_u64]; omega
  cases bad with
  | true =>
    refine ICalls.of (N := 142) (res := [.cell 4 24]) mixed Try.func34 rfl rfl rfl (by kernel_rfl) (by simp) [0, 1, 4, 5, 6, 7, 8, 9, 11, 12, 18, 29, 51, 84, 110, 125] (Nat.le_refl _) ?_
    repeat' (first | exact cl1 | ((with_reducible show Exists _); refine exU8 ?_) | ((with_reducible show callX _ _ _ _ _); (first | refine call_i [0] (q1) (by kernel_rfl) rfl rfl (by decide) cl6 (fun i hi => by match i, hi with | 0, _ => rfl) cl7 cl8 (by simp [keys]) ?_ | refine call_i [0] (q2) (by kernel_rfl) rfl rfl (by decide) cl6 (fun i hi => by match i, hi with | 0, _ => rfl) cl7 cl8 (by simp [keys]) ?_)) | ((fail_if_success with_reducible first | show LeG _ _ | show Lp _ _ _ _ | show Exists _ | show callX _ _ _ _ _ | show (_ : Int) ≤ _ | show (_ : Int) < _ | show (_ : Nat) ≤ _ | show (_ : Nat) < _); (conv => whnf) <;> (first | exact cl2 | refine Br.dec (fun hc => absurd hc k1) (fun hc => ?_) | refine Br.dec (fun hc => absurd hc k2) (fun hc => ?_) | refine XAlt.l ?_ | refine Sq.pr ?_ | refine Br.dec (fun hc => ?_) (fun hc => ?_) | refine Br.tt ?_ | refine Br.ff ?_ | refine Br.not ?_ | refine Br.mk (fun hc => ?_) (fun hc => ?_) | refine Opt.nn ?_ | refine Opt.ss ?_ | refine AltA.l ?_ | exact PV.leL_nil | refine PV.leL_cons ?_ ?_ | refine And.intro ?_ ?_ | refine ix_map (fun x hx => ?_) | refine exU8 ?_ | refine nilc (fun hn => ?_) ?_ | exact cl3 | refine imp0 (fun hpos => ?_) | refine fits_i64 ?_ ?_ | exact rfl | (with_reducible first | show LeG _ _ | show Lp _ _ _ _ | show Exists _ | show callX _ _ _ _ _)))) <;> (try exact cl5)
    all_goals (refine ⟨[], [(0, 0)], VLe.p le_val, ?_, by decide, by simp, fun i hi => by match i, hi with | 0, _ => rfl⟩; (repeat' (first | exact trivial | refine HpLe.dd ?_ | refine HpLe.mk rfl (by simp) rfl (fun h => AObj.noConfusion h) ?_ ?_ | refine And.intro ?_ ?_ | exact cl9 | refine VLe.pe ?_ | refine VLe.agg ?_ | refine VLe.tup ?_ | refine VLe.fn ?_ ?_ | refine VLeL.cons ?_ ?_ | exact VLeL.nil | exact OLe.row _ _ | rfl | refine VLe.rsle rfl ?_ ?_ ?_ | refine OLe.rowe2 ?_ ?_ | refine OLe.mape ?_ ?_ | refine OLe.iter0 ?_ | refine OLe.itere ?_ ?_)))
  | false =>
    have hgt : (u : Int) > IntKind.u64.wrap (((b.map (PV.int .u8)).length : Int) - (a' : Int)) := by rw [hw]; unfold badN at hbd; simp at hbd; omega
    refine ICalls.of (N := 142) (res := [.cell 4 24]) mixed Try.func34 rfl rfl rfl (by kernel_rfl) (by simp) [0, 1, 4, 5, 6, 7, 8, 9, 11, 12, 18, 29, 51, 84, 110, 125] (Nat.le_refl _) ?_
    repeat' (first | exact cl1 | ((with_reducible show Exists _); refine exU8 ?_) | ((with_reducible show callX _ _ _ _ _); (first | refine call_i [0] (q1) (by kernel_rfl) rfl rfl (by decide) cl6 (fun i hi => by match i, hi with | 0, _ => rfl) cl7 cl8 (by simp [keys]) ?_ | refine call_i [0] (q2) (by kernel_rfl) rfl rfl (by decide) cl6 (fun i hi => by match i, hi with | 0, _ => rfl) cl7 cl8 (by simp [keys]) ?_)) | ((fail_if_success with_reducible first | show LeG _ _ | show Lp _ _ _ _ | show Exists _ | show callX _ _ _ _ _ | show (_ : Int) ≤ _ | show (_ : Int) < _ | show (_ : Nat) ≤ _ | show (_ : Nat) < _); (conv => whnf) <;> (first | exact cl2 | refine Br.dec (fun hc => absurd hc k1) (fun hc => ?_) | refine Br.dec (fun hc => absurd hc k2) (fun hc => ?_) | refine Br.dec (fun hc => ?_) (fun hc => absurd hgt hc) | refine XAlt.l ?_ | refine Sq.pr ?_ | refine Br.dec (fun hc => ?_) (fun hc => ?_) | refine Br.tt ?_ | refine Br.ff ?_ | refine Br.not ?_ | refine Br.mk (fun hc => ?_) (fun hc => ?_) | refine Opt.nn ?_ | refine Opt.ss ?_ | refine AltA.l ?_ | exact PV.leL_nil | refine PV.leL_cons ?_ ?_ | refine And.intro ?_ ?_ | refine ix_map (fun x hx => ?_) | refine exU8 ?_ | refine nilc (fun hn => ?_) ?_ | exact cl3 | refine imp0 (fun hpos => ?_) | refine fits_i64 ?_ ?_ | exact rfl | (with_reducible first | show LeG _ _ | show Lp _ _ _ _ | show Exists _ | show callX _ _ _ _ _)))) <;> (try exact cl5)
    all_goals (refine ⟨[], [(0, 0)], VLe.p le_val, ?_, by decide, by simp, fun i hi => by match i, hi with | 0, _ => rfl⟩; (repeat' (first | exact trivial | refine HpLe.dd ?_ | refine HpLe.mk rfl (by simp) rfl (fun h => AObj.noConfusion h) ?_ ?_ | refine And.intro ?_ ?_ | exact cl9 | refine VLe.pe ?_ | refine VLe.agg ?_ | refine VLe.tup ?_ | refine VLe.fn ?_ ?_ | refine VLeL.cons ?_ ?_ | exact VLeL.nil | exact OLe.row _ _ | rfl | refine VLe.rsle rfl ?_ ?_ ?_ | refine OLe.rowe2 ?_ ?_ | refine OLe.mape ?_ ?_ | refine OLe.iter0 ?_ | refine OLe.itere ?_ ?_)))
theorem repR_bad {f : Nat → Vl × Nat × Bool} {n a : Nat} (h : (f a).2.2 = true) : repR f (n + 1) a = ([(f a).1], (f a).2.1, true) := by
  show (if (f a).2.2 then _ else _) = _
  rw [if_pos h]
theorem repR_good {f : Nat → Vl × Nat × Bool} {n a : Nat} (h : (f a).2.2 = false) : repR f (n + 1) a = ((f a).1 :: (repR f n (f a).2.1).1, (repR f n (f a).2.1).2) := by
  show (if (f a).2.2 then _ else _) = _
  rw [if_neg (by rw [h]; simp)]
theorem rvalue_list (b : List Int) (hb : b.length < 1000000) (hB : B8 b) (k : Nat) (hk : k < 16) (a : Nat) (ha : a ≤ b.length) (hc : b[a]? = some 3) (hbd : badN b (numAt b (a + 1)) = false)
    (ih : ∀ a, a ≤ b.length → ICalls Try.prog 34 1 [(0, .cells [.p (eR b), .p (eI a), .p (.bool false)])] [.ptr 0 0, .p (eI (16 - (k : Int)))] (.p (eW (rv b k a).1)) [(0, .cells [.p (eR b), .p (eI (rv b k a).2.1), .p (.bool (rv b k a).2.2)])])
    (l : List Vl) (ae : Nat) (be : Bool) (hrep : repR (rv b k) (numAt b (a + 1)).1 (numAt b (a + 1)).2.1 = (l, ae, be)) :
    ICalls Try.prog 34 1 [(0, .cells [.p (eR b), .p (eI a), .p (.bool false)])] [.ptr 0 0, .p (eI (16 - ((k + 1 : Nat) : Int)))] (.p (eW (.mk 3 0 ByteArray.empty l))) [(0, .cells [.p (eR b), .p (eI ae), .p (.bool be)])] := by
  have hlt : a < b.length := (List.getElem?_eq_some_iff.1 hc).1
  have q1 := next_some b hb a 3 hc false
  have q2 := numAt_calls b hb hB (a + 1) hlt
  obtain ⟨n1, n2, n3⟩ := numAt_facts hB (a := a + 1) hlt
  have k1 : ¬ (3 : Int) = 1 := by decide
  have k2 : ¬ (3 : Int) = 2 := by decide
  generalize numAt b (a + 1) = R at *
  obtain ⟨n, a', bad⟩ := R
  have n1 : n < 18446744073709551616 := n1
  have n3 : a' ≤ b.length := n3
  have hrep : repR (rv b k) n a' = (l, ae, be) := hrep
  have hw : IntKind.u64.wrap (((b.map (PV.int .u8)).length : Int) - (a' : Int)) = ((b.length - a' : Nat) : Int) := by rw [List.length_map, wrap_u64]; omega
  have hbf : bad = false := by unfold badN at hbd; simp at hbd; exact hbd.1
  subst hbf
  have hle : n ≤ b.length - a' := by unfold badN at hbd; simp at hbd; exact hbd
  have hgt : ¬ (n : Int) > IntKind.u64.wrap (((b.map (PV.int .u8)).length : Int) - (a' : Int)) := by rw [hw]; omega
  have hk16 : ¬ (16 - ((k + 1 : Nat) : Int)) = 16 := by omega
  refine ICalls.of (N := 142) (res := [.cell 4 24]) mixed Try.func34 rfl rfl rfl (by kernel_rfl) (by simp) [0, 1, 4, 5, 6, 7, 8, 9, 11, 12, 18, 29, 51, 84, 110, 125] (Nat.le_refl _) ?_
  repeat' (first | exact cl1 | ((with_reducible show Exists _); refine exU8 ?_) | ((with_reducible show callX _ _ _ _ _); (first | refine call_i [0] (q1) (by kernel_rfl) rfl rfl (by decide) cl6 (fun i hi => by match i, hi with | 0, _ => rfl) cl7 cl8 (by simp [keys]) ?_ | refine call_i [0] (q2) (by kernel_rfl) rfl rfl (by decide) cl6 (fun i hi => by match i, hi with | 0, _ => rfl) cl7 cl8 (by simp [keys]) ?_)) | ((fail_if_success with_reducible first | show LeG _ _ | show Lp _ _ _ _ | show Exists _ | show callX _ _ _ _ _ | show (_ : Int) ≤ _ | show (_ : Int) < _ | show (_ : Nat) ≤ _ | show (_ : Nat) < _); (conv => whnf) <;> (first | exact cl2 | refine Br.dec (fun hc => absurd hc k1) (fun hc => ?_) | refine Br.dec (fun hc => absurd hc k2) (fun hc => ?_) | refine Br.dec (fun hc => absurd hc hgt) (fun hc => ?_) | refine Br.dec (fun hc => absurd hc hk16) (fun hc => ?_) | refine XAlt.l ?_ | refine Sq.pr ?_ | refine Br.dec (fun hc => ?_) (fun hc => ?_) | refine Br.tt ?_ | refine Br.ff ?_ | refine Br.not ?_ | refine Br.mk (fun hc => ?_) (fun hc => ?_) | refine Opt.nn ?_ | refine Opt.ss ?_ | refine AltA.l ?_ | exact PV.leL_nil | refine PV.leL_cons ?_ ?_ | refine And.intro ?_ ?_ | refine ix_map (fun x hx => ?_) | refine exU8 ?_ | refine nilc (fun hn => ?_) ?_ | exact cl3 | refine imp0 (fun hpos => ?_) | refine fits_i64 ?_ ?_ | exact rfl | (with_reducible first | show LeG _ _ | show Lp _ _ _ _ | show Exists _ | show callX _ _ _ _ _)))) <;> (try exact cl5)
  refine Wpc.loopA (α := {x : List Vl × Nat × Bool // x.1.length ≤ n ∧ x.2.1 ≤ b.length ∧ ((x.2.2 = true ∧ x = (l, ae, be)) ∨ (x.2.2 = false ∧ (l, ae, be) = (x.1 ++ (repR (rv b k) (n - x.1.length) x.2.1).1, (repR (rv b k) (n - x.1.length) x.2.1).2)))}) mixed [0, 1, 4, 5, 6, 7, 8, 9, 11, 12, 18, 29, 51, 84, 110, 125]
    (fun x => [(9, .p (eU x.1.1.length))]) (fun x => [(0, .cells [.p (eR b), .p (eI x.1.2.1), .p (.bool x.1.2.2)]), (2305, .cells [.p (eI 3), .p (eI 0), .p (.str ByteArray.empty), accV x.1.1])] ++ accH x.1.1) (fun _ => 0) (fun x => n - x.1.1.length) ⟨([], a', false), Nat.zero_le _, n3, .inr ⟨rfl, by rw [show n - ([] : List Vl).length = n from rfl, hrep]; rfl⟩⟩ ?_ ?_
  · show Ent _ _ (hdS [0, 1, 4, 5, 6, 7, 8, 9, 11, 12, 18, 29, 51, 84, 110, 125] _ _ _ [(9, .p (eU 0))] [(0, .cells [.p (eR b), .p (eI a'), .p (.bool false)]), (2305, .cells [.p (eI 3), .p (eI 0), .p (.str ByteArray.empty), .p (.sl 0 true [])])] _)
    (first | refine Ent.ofA [] ?_ | refine Ent.ofC [] ?_) <;> (repeat' (first | exact trivial | refine HpLe.dd ?_ | refine HpLe.mk rfl (by simp) rfl (fun h => AObj.noConfusion h) ?_ ?_ | refine And.intro ?_ ?_ | exact cl9 | refine VLe.pe ?_ | refine VLe.agg ?_ | refine VLe.tup ?_ | refine VLe.fn ?_ ?_ | refine VLeL.cons ?_ ?_ | exact VLeL.nil | exact OLe.row _ _ | rfl | refine VLe.rsle rfl ?_ ?_ ?_ | refine OLe.rowe2 ?_ ?_ | refine OLe.mape ?_ ?_ | refine OLe.iter0 ?_ | refine OLe.itere ?_ ?_)) <;> try (first | (simp; done) | (congr 1; omega) | (congr 1; (first | (simp; done) | (simp; omega))))
  rintro ⟨⟨acc, a2, bad⟩, hal, ha2, hq⟩
  have hal : acc.length ≤ n := hal
  have ha2 : a2 ≤ b.length := ha2
  have hnb : n ≤ b.length := by omega
  rcases hq with ⟨hbad, hq⟩ | ⟨hbad, hq⟩
  · have hbad : bad = true := hbad
    injection hq with e1 e2; injection e2 with e2 e3
    subst e1; subst e2; subst e3
    subst hbad
    cases acc with
    | nil =>
      repeat' (first | exact cl1 | ((with_reducible show Exists _); refine exU8 ?_) | ((fail_if_success with_reducible first | show LeG _ _ | show Lp _ _ _ _ | show Exists _ | show callX _ _ _ _ _ | show (_ : Int) ≤ _ | show (_ : Int) < _ | show (_ : Nat) ≤ _ | show (_ : Nat) < _); (conv => whnf) <;> (first | exact cl2 | refine XAlt.l ?_ | refine Sq.pr ?_ | refine Br.dec (fun hc => ?_) (fun hc => ?_) | refine Br.tt ?_ | refine Br.ff ?_ | refine Br.not ?_ | refine Br.mk (fun hc => ?_) (fun hc => ?_) | refine Opt.nn ?_ | refine Opt.ss ?_ | refine AltA.l ?_ | exact PV.leL_nil | refine PV.leL_cons ?_ ?_ | refine And.intro ?_ ?_ | refine ix_map (fun x hx => ?_) | refine exU8 ?_ | refine nilc (fun hn => ?_) ?_ | exact cl3 | refine imp0 (fun hpos => ?_) | refine fits_i64 ?_ ?_ | exact rfl | (with_reducible first | show LeG _ _ | show Lp _ _ _ _ | show Exists _ | show callX _ _ _ _ _)))) <;> (try exact cl5)
      all_goals (refine ⟨[], [(0, 0)], VLe.p le_val, ?_, by decide, by simp, fun i hi => by match i, hi with | 0, _ => rfl⟩; (repeat' (first | exact trivial | refine HpLe.dd ?_ | refine HpLe.mk rfl (by simp) rfl (fun h => AObj.noConfusion h) ?_ ?_ | refine And.intro ?_ ?_ | exact cl9 | refine VLe.pe ?_ | refine VLe.agg ?_ | refine VLe.tup ?_ | refine VLe.fn ?_ ?_ | refine VLeL.cons ?_ ?_ | exact VLeL.nil | exact OLe.row _ _ | rfl | refine VLe.rsle rfl ?_ ?_ ?_ | refine OLe.rowe2 ?_ ?_ | refine OLe.mape ?_ ?_ | refine OLe.iter0 ?_ | refine OLe.itere ?_ ?_)))
    | cons v acc =>
      repeat' (first | exact cl1 | ((with_reducible show Exists _); refine exU8 ?_) | ((fail_if_success with_reducible first | show LeG _ _ | show Lp _ _ _ _ | show Exists _ | show callX _ _ _ _ _ | show (_ : Int) ≤ _ | show (_ : Int) < _ | show (_ : Nat) ≤ _ | show (_ : Nat) < _); (conv => whnf) <;> (first | exact cl2 | refine XAlt.l ?_ | refine Sq.pr ?_ | refine Br.dec (fun hc => ?_) (fun hc => ?_) | refine Br.tt ?_ | refine Br.ff ?_ | refine Br.not ?_ | refine Br.mk (fun hc => ?_) (fun hc => ?_) | refine Opt.nn ?_ | refine Opt.ss ?_ | refine AltA.l ?_ | exact PV.leL_nil | refine PV.leL_cons ?_ ?_ | refine And.intro ?_ ?_ | refine ix_map (fun x hx => ?_) | refine exU8 ?_ | refine nilc (fun hn => ?_) ?_ | exact cl3 | refine imp0 (fun hpos => ?_) | refine fits_i64 ?_ ?_ | exact rfl | (with_reducible first | show LeG _ _ | show Lp _ _ _ _ | show Exists _ | show callX _ _ _ _ _)))) <;> (try exact cl5)
      all_goals (refine ⟨[2], [(0, 0)], VLe.val (show (2 : Nat) ∈ [2] by simp) rfl (by simp [Vl.l]), ?_, by decide, by simp, fun i hi => by match i, hi with | 0, _ => rfl⟩; (repeat' (first | exact trivial | refine HpLe.dd ?_ | refine HpLe.mk rfl (by simp) rfl (fun h => AObj.noConfusion h) ?_ ?_ | refine And.intro ?_ ?_ | exact cl9 | refine VLe.pe ?_ | refine VLe.agg ?_ | refine VLe.tup ?_ | refine VLe.fn ?_ ?_ | refine VLeL.cons ?_ ?_ | exact VLeL.nil | exact OLe.row _ _ | rfl | refine VLe.rsle rfl ?_ ?_ ?_ | refine OLe.rowe2 ?_ ?_ | refine OLe.mape ?_ ?_ | refine OLe.iter0 ?_ | refine OLe.itere ?_ ?_)))
  · have hbad : bad = false := hbad
    subst hbad
    have hq : (l, ae, be) = (acc ++ (repR (rv b k) (n - acc.length) a2).1, (repR (rv b k) (n - acc.length) a2).2) := hq
    by_cases hn : acc.length < n
    · have hyes : ((acc.length : Int) < (n : Int)) := by omega
      have q3 := ih a2 ha2
      obtain ⟨g1, g2⟩ := rv_facts hB k a2 ha2
      rw [show (16 : Int) - (k : Int) = 16 - ((k + 1 : Nat) : Int) + 1 by omega] at q3
      rw [show n - acc.length = (n - (acc.length + 1)) + 1 by omega] at hq
      have hq1 := fun h => hq.trans (congrArg (fun z => (acc ++ z.1, z.2)) (repR_bad (f := rv b k) (n := n - (acc.length + 1)) (a := a2) h))
      have hq2 := fun h => hq.trans (congrArg (fun z => (acc ++ z.1, z.2)) (repR_good (f := rv b k) (n := n - (acc.length + 1)) (a := a2) h))
      generalize rv b k a2 = V at *
      obtain ⟨v, a3, bad3⟩ := V
      have hstep : ((acc ++ [v]).length ≤ n ∧ a3 ≤ b.length ∧ ((bad3 = true ∧ ((acc ++ [v], a3, bad3) : List Vl × Nat × Bool) = (l, ae, be)) ∨ (bad3 = false ∧ (l, ae, be) = ((acc ++ [v]) ++ (repR (rv b k) (n - (acc ++ [v]).length) a3).1, (repR (rv b k) (n - (acc ++ [v]).length) a3).2)))) := by
        have el : (acc ++ [v]).length = acc.length + 1 := by simp
        refine ⟨by rw [el]; omega, g2, ?_⟩
        cases bad3 with
        | true => exact .inl ⟨rfl, (hq1 rfl).symm⟩
        | false => exact .inr ⟨rfl, by rw [hq2 rfl, el]; simp⟩
      have hms : n - (acc ++ [v]).length < n - acc.length := by simp; omega
      cases acc with
      | nil =>
        repeat' (first | exact cl1 | ((with_reducible show Exists _); refine exU8 ?_) | ((with_reducible show callX _ _ _ _ _); (first | refine call_i [0] (q3) (by kernel_rfl) rfl rfl (by decide) cl6 (fun i hi => by match i, hi with | 0, _ => rfl) cl7 cl8 (by simp [keys]) ?_)) | ((fail_if_success with_reducible first | show LeG _ _ | show Lp _ _ _ _ | show Exists _ | show callX _ _ _ _ _ | show (_ : Int) ≤ _ | show (_ : Int) < _ | show (_ : Nat) ≤ _ | show (_ : Nat) < _); (conv => whnf) <;> (first | exact cl2 | refine Br.dec (fun hc => ?_) (fun hc => absurd hyes hc) | refine XAlt.l ?_ | refine Sq.pr ?_ | refine Br.dec (fun hc => ?_) (fun hc => ?_) | refine Br.tt ?_ | refine Br.ff ?_ | refine Br.not ?_ | refine Br.mk (fun hc => ?_) (fun hc => ?_) | refine Opt.nn ?_ | refine Opt.ss ?_ | refine AltA.l ?_ | exact PV.leL_nil | refine PV.leL_cons ?_ ?_ | refine And.intro ?_ ?_ | refine ix_map (fun x hx => ?_) | refine exU8 ?_ | refine nilc (fun hn => ?_) ?_ | exact cl3 | refine imp0 (fun hpos => ?_) | refine fits_i64 ?_ ?_ | exact rfl | (with_reducible first | show LeG _ _ | show Lp _ _ _ _ | show Exists _ | show callX _ _ _ _ _)))) <;> (try exact cl5)
        refine ⟨⟨([v], a3, bad3), hstep⟩, hms, ?_⟩
        (first | refine Ent.ofA [] ?_ | refine Ent.ofC [] ?_) <;> (repeat' (first | exact trivial | refine HpLe.dd ?_ | refine HpLe.mk rfl (by simp) rfl (fun h => AObj.noConfusion h) ?_ ?_ | refine And.intro ?_ ?_ | exact cl9 | refine VLe.pe ?_ | refine VLe.agg ?_ | refine VLe.tup ?_ | refine VLe.fn ?_ ?_ | refine VLeL.cons ?_ ?_ | exact VLeL.nil | exact OLe.row _ _ | rfl | refine VLe.rsle rfl ?_ ?_ ?_ | refine OLe.rowe2 ?_ ?_ | refine OLe.mape ?_ ?_ | refine OLe.iter0 ?_ | refine OLe.itere ?_ ?_)) <;> try (first | (simp; done) | (congr 1; omega) | (congr 1; (first | (simp; done) | (simp; omega))))
        all_goals simp [eV_eq]
      | cons w acc =>
        repeat' (first | exact cl1 | ((with_reducible show Exists _); refine exU8 ?_) | ((with_reducible show callX _ _ _ _ _); (first | refine call_i [0] (q3) (by kernel_rfl) rfl rfl (by decide) cl6 (fun i hi => by match i, hi with | 0, _ => rfl) cl7 cl8 (by simp [keys]) ?_)) | ((fail_if_success with_reducible first | show LeG _ _ | show Lp _ _ _ _ | show Exists _ | show callX _ _ _ _ _ | show (_ : Int) ≤ _ | show (_ : Int) < _ | show (_ : Nat) ≤ _ | show (_ : Nat) < _); (conv => whnf) <;> (first | exact cl2 | refine Br.dec (fun hc => ?_) (fun hc => absurd hyes hc) | refine XAlt.l ?_ | refine Sq.pr ?_ | refine Br.dec (fun hc => ?_) (fun hc => ?_) | refine Br.tt ?_ | refine Br.ff ?_ | refine Br.not ?_ | refine Br.mk (fun hc => ?_) (fun hc => ?_) | refine Opt.nn ?_ | refine Opt.ss ?_ | refine AltA.l ?_ | exact PV.leL_nil | refine PV.leL_cons ?_ ?_ | refine And.intro ?_ ?_ | refine ix_map (fun x hx => ?_) | refine exU8 ?_ | refine nilc (fun hn => ?_) ?_ | exact cl3 | refine imp0 (fun hpos => ?_) | refine fits_i64 ?_ ?_ | exact rfl | (with_reducible first | show LeG _ _ | show Lp _ _ _ _ | show Exists _ | show callX _ _ _ _ _)))) <;> (try exact cl5)
        · exact fits_u64 (by dsimp only; omega) (by dsimp only at *; omega)
        refine ⟨⟨((w :: acc) ++ [v], a3, bad3), hstep⟩, hms, ?_⟩
        (first | refine Ent.ofA [] ?_ | refine Ent.ofC [] ?_) <;> (repeat' (first | exact trivial | refine HpLe.dd ?_ | refine HpLe.mk rfl (by simp) rfl (fun h => AObj.noConfusion h) ?_ ?_ | refine And.intro ?_ ?_ | exact cl9 | refine VLe.pe ?_ | refine VLe.agg ?_ | refine VLe.tup ?_ | refine VLe.fn ?_ ?_ | refine VLeL.cons ?_ ?_ | exact VLeL.nil | exact OLe.row _ _ | rfl | refine VLe.rsle rfl ?_ ?_ ?_ | refine OLe.rowe2 ?_ ?_ | refine OLe.mape ?_ ?_ | refine OLe.iter0 ?_ | refine OLe.itere ?_ ?_)) <;> try (first | (simp; done) | (congr 1; omega) | (congr 1; (first | (simp; done) | (simp; omega))))
        all_goals simp [eV_eq]
    · have hno : ¬ ((acc.length : Int) < (n : Int)) := by omega
      rw [show n - acc.length = 0 by omega] at hq
      have hq : (l, ae, be) = (acc ++ [], a2, false) := hq
      rw [List.append_nil] at hq
      injection hq with e1 e2; injection e2 with e2 e3
      subst e1; subst e2; subst e3
      cases l with
      | nil =>
        repeat' (first | exact cl1 | ((with_reducible show Exists _); refine exU8 ?_) | ((fail_if_success with_reducible first | show LeG _ _ | show Lp _ _ _ _ | show Exists _ | show callX _ _ _ _ _ | show (_ : Int) ≤ _ | show (_ : Int) < _ | show (_ : Nat) ≤ _ | show (_ : Nat) < _); (conv => whnf) <;> (first | exact cl2 | refine Br.dec (fun hc => absurd hc hno) (fun hc => ?_) | refine XAlt.l ?_ | refine Sq.pr ?_ | refine Br.dec (fun hc => ?_) (fun hc => ?_) | refine Br.tt ?_ | refine Br.ff ?_ | refine Br.not ?_ | refine Br.mk (fun hc => ?_) (fun hc => ?_) | refine Opt.nn ?_ | refine Opt.ss ?_ | refine AltA.l ?_ | exact PV.leL_nil | refine PV.leL_cons ?_ ?_ | refine And.intro ?_ ?_ | refine ix_map (fun x hx => ?_) | refine exU8 ?_ | refine nilc (fun hn => ?_) ?_ | exact cl3 | refine imp0 (fun hpos => ?_) | refine fits_i64 ?_ ?_ | exact rfl | (with_reducible first | show LeG _ _ | show Lp _ _ _ _ | show Exists _ | show callX _ _ _ _ _)))) <;> (try exact cl5)
        all_goals (refine ⟨[], [(0, 0)], VLe.p le_val, ?_, by decide, by simp, fun i hi => by match i, hi with | 0, _ => rfl⟩; (repeat' (first | exact trivial | refine HpLe.dd ?_ | refine HpLe.mk rfl (by simp) rfl (fun h => AObj.noConfusion h) ?_ ?_ | refine And.intro ?_ ?_ | exact cl9 | refine VLe.pe ?_ | refine VLe.agg ?_ | refine VLe.tup ?_ | refine VLe.fn ?_ ?_ | refine VLeL.cons ?_ ?_ | exact VLeL.nil | exact OLe.row _ _ | rfl | refine VLe.rsle rfl ?_ ?_ ?_ | refine OLe.rowe2 ?_ ?_ | refine OLe.mape ?_ ?_ | refine OLe.iter0 ?_ | refine OLe.itere ?_ ?_)))
      | cons w acc =>
        repeat' (first | exact cl1 | ((with_reducible show Exists _); refine exU8 ?_) | ((fail_if_success with_reducible first | show LeG _ _ | show Lp _ _ _ _ | show Exists _ | show callX _ _ _ _ _ | show (_ : Int) ≤ _ | show (_ : Int) < _ | show (_ : Nat) ≤ _ | show (_ : Nat) < _); (conv => whnf) <;> (first | exact cl2 | refine Br.dec (fun hc => absurd hc hno) (fun hc => ?_) | refine XAlt.l ?_ | refine Sq.pr ?_ | refine Br.dec (fun hc => ?_) (fun hc => ?_) | refine Br.tt ?_ | refine Br.ff ?_ | refine Br.not ?_ | refine Br.mk (fun hc => ?_) (fun hc => ?_) | refine Opt.nn ?_ | refine Opt.ss ?_ | refine AltA.l ?_ | exact PV.leL_nil | refine PV.leL_cons ?_ ?_ | refine And.intro ?_ ?_ | refine ix_map (fun x hx => ?_) | refine exU8 ?_ | refine nilc (fun hn => ?_) ?_ | exact cl3 | refine imp0 (fun hpos => ?_) | refine fits_i64 ?_ ?_ | exact rfl | (with_reducible first | show LeG _ _ | show Lp _ _ _ _ | show Exists _ | show callX _ _ _ _ _)))) <;> (try exact cl5)
        all_goals (refine ⟨[2], [(0, 0)], VLe.val (show (2 : Nat) ∈ [2] by simp) rfl (by simp [Vl.l]), ?_, by decide, by simp, fun i hi => by match i, hi with | 0, _ => rfl⟩; (repeat' (first | exact trivial | refine HpLe.dd ?_ | refine HpLe.mk rfl (by simp) rfl (fun h => AObj.noConfusion h) ?_ ?_ | refine And.intro ?_ ?_ | exact cl9 | refine VLe.pe ?_ | refine VLe.agg ?_ | refine VLe.tup ?_ | refine VLe.fn ?_ ?_ | refine VLeL.cons ?_ ?_ | exact VLeL.nil | exact OLe.row _ _ | rfl | refine VLe.rsle rfl ?_ ?_ ?_ | refine OLe.rowe2 ?_ ?_ | refine OLe.mape ?_ ?_ | refine OLe.iter0 ?_ | refine OLe.itere ?_ ?_)))
theorem rvalue_calls (b : List Int) (hb : b.length < 1000000) (hB : B8 b) : ∀ k : Nat, k ≤ 16 → ∀ a : Nat, a ≤ b.length →
    ICalls Try.prog 34 1 [(0, .cells [.p (eR b), .p (eI a), .p (.bool false)])] [.ptr 0 0, .p (eI (16 - (k : Int)))] (.p (eW (rv b k a).1)) [(0, .cells [.p (eR b), .p (eI (rv b k a).2.1), .p (.bool (rv b k a).2.2)])] := by
  intro k
  induction k with
  | zero =>
    intro _ a ha
    by_cases h3 : b[a]? = some 3
    · have e : rv b 0 a = (vZ, (numAt b (a + 1)).2.1, true) := by
        unfold rv; rw [h3]; simp only; rw [if_neg (by decide), if_neg (by decide), if_pos trivial]
      rw [e]
      exact rvalue_deep b hb hB a ha h3
    · exact rvalue_nolist b hb hB 0 a ha h3
  | succ k ih =>
    intro hk a ha
    by_cases h3 : b[a]? = some 3
    · cases hbd : badN b (numAt b (a + 1)) with
      | true =>
        have e : rv b (k + 1) a = (vZ, (numAt b (a + 1)).2.1, true) := by
          unfold rv; rw [h3]; simp only; rw [if_neg (by decide), if_neg (by decide), if_pos trivial, if_pos hbd]
        rw [e]
        exact rvalue_badlist b hb hB k (by omega) a ha h3 hbd
      | false =>
        have e : rv b (k + 1) a = (.mk 3 0 ByteArray.empty (repR (rv b k) (numAt b (a + 1)).1 (numAt b (a + 1)).2.1).1, (repR (rv b k) (numAt b (a + 1)).1 (numAt b (a + 1)).2.1).2) := by
          conv => lhs; unfold rv
          rw [h3]; simp only; rw [if_neg (by decide), if_neg (by decide), if_pos trivial, if_neg (by rw [hbd]; simp)]
        rw [e]
        exact rvalue_list b hb hB k (by omega) a ha h3 hbd (ih (by omega)) _ _ _ rfl
    · exact rvalue_nolist b hb hB (k + 1) a ha h3
end Go.Proofs.Ytkgjhghbnocnbaa

namespace Go.Proofs.Ytkgjhghbnocnbaa
open Go Go.Sg
set_option maxRecDepth 100000
set_option maxHeartbeats 4000000
/-! ### What is written is read; what is read was written -/
theorem numD_nml : ∀ (f i u a : Nat) (r : List Int), u < 2 ^ (7 * f) → i + f ≤ 10 → a < 2 ^ (7 * i) → (i + f = 10 → u < 2 ^ (64 - 7 * i)) → (i = 0 ∨ 0 < u) → numD (nml u ++ r) i a = some (a + u * 2 ^ (7 * i), r)
  | 0, i, u, a, r, hu, hi, ha, h10, hp => by
    have : u = 0 := by simpa using hu
    subst this
    rcases hp with hp | hp
    · subst hp
      rw [nml_lt (by decide)]
      have ha0 : a = 0 := by simpa using ha
      subst ha0
      rfl
    · omega
  | f + 1, i, u, a, r, hu, hi, ha, h10, hp => by
    by_cases h : u < 128
    · rw [nml_lt h]
      show numD ((u : Int) :: r) i a = _
      unfold numD
      have hok : nOk i (u : Int) = true := by
        unfold nOk
        simp only [Bool.and_eq_true, Bool.or_eq_true, decide_eq_true_eq]
        refine ⟨by omega, ?_⟩
        by_cases h9 : i < 9
        · exact .inl h9
        · have : i = 9 := by omega
          subst this
          have := h10 (by omega)
          simp at this
          exact .inr (by omega)
      rw [if_pos hok, if_pos (by omega)]
      unfold nAdd
      rw [show ((u : Int) % 128).toNat = u by omega]
    · rw [nml_ge h]
      show numD (((u % 128 + 128 : Nat) : Int) :: (nml (u / 128) ++ r)) i a = _
      unfold numD
      have h2 : u / 128 < 2 ^ (7 * f) := by
        have : 2 ^ (7 * (f + 1)) = 128 * 2 ^ (7 * f) := by rw [show 7 * (f + 1) = 7 * f + 7 by omega, Nat.pow_add]; omega
        rw [this] at hu
        exact Nat.div_lt_of_lt_mul hu
      have hf : 0 < f := by
        rcases Nat.eq_zero_or_pos f with e | e
        · subst e; simp at h2; omega
        · exact e
      have hi9 : i < 9 := by omega
      have hok : nOk i ((u % 128 + 128 : Nat) : Int) = true := by
        unfold nOk
        simp only [Bool.and_eq_true, Bool.or_eq_true, decide_eq_true_eq]
        exact ⟨.inr (by omega), .inl hi9⟩
      rw [if_pos hok, if_neg (by omega)]
      have hna : nAdd i a ((u % 128 + 128 : Nat) : Int) = a + (u % 128) * 2 ^ (7 * i) := by
        unfold nAdd
        rw [show (((u % 128 + 128 : Nat) : Int) % 128).toNat = u % 128 by omega]
      have hlt := nAdd_lt (i := i) (u := a) (c := ((u % 128 + 128 : Nat) : Int)) hi9 ha (by omega)
      rw [hna] at hlt ⊢
      have ih := numD_nml f (i + 1) (u / 128) (a + (u % 128) * 2 ^ (7 * i)) r h2 (by omega) hlt (fun e => by
        have := h10 (by omega)
        have e2 : 2 ^ (64 - 7 * i) = 128 * 2 ^ (64 - 7 * (i + 1)) := by rw [show 64 - 7 * i = (64 - 7 * (i + 1)) + 7 by omega, Nat.pow_add]; omega
        rw [e2] at this
        exact Nat.div_lt_of_lt_mul this) (.inr (by omega))
      rw [ih]
      congr 2
      rw [show 7 * (i + 1) = 7 * i + 7 by omega, Nat.pow_add]
      have e3 : u = u % 128 + 128 * (u / 128) := by omega
      conv => rhs; rw [e3, Nat.add_mul]
      rw [show (2 : Nat) ^ 7 = 128 from rfl]
      rw [Nat.add_assoc, Nat.mul_comm (2 ^ (7 * i)) 128, ← Nat.mul_assoc, Nat.mul_comm (u / 128) 128]
theorem numD_of {u : Nat} (h : u < 18446744073709551616) (r : List Int) : numD (nml u ++ r) 0 0 = some (u, r) := by
  have := numD_nml 10 0 u 0 r (Nat.lt_of_lt_of_le h (by decide)) (by omega) (by decide) (fun _ => h) (.inl rfl)
  simpa using this
theorem nml_numD : ∀ (b : List Int) (i a : Nat) {u : Nat} {r : List Int}, numD b i a = some (u, r) → B8 b → i ≤ 9 → a < 2 ^ (7 * i) → ∃ d, u = a + d * 2 ^ (7 * i) ∧ nml d ++ r = b ∧ (i = 0 ∨ 0 < d)
  | [], i, a, u, r, h, _, _, _ => by cases h
  | c :: b, i, a, u, r, h, hB, hi, ha => by
    unfold numD at h
    obtain ⟨h0, h1⟩ := hB c (by simp)
    have hB' : B8 b := fun x hx => hB x (by simp [hx])
    by_cases hok : nOk i c = true
    · rw [if_pos hok] at h
      have hk : (i < 9 ∨ c ≤ 1) := by unfold nOk at hok; simp at hok; omega
      have hk2 : (i = 0 ∨ ¬ c = 0) := by unfold nOk at hok; simp at hok; omega
      by_cases h128 : c < 128
      · rw [if_pos h128] at h
        injection h with h; injection h with e1 e2; subst e1; subst e2
        refine ⟨c.toNat, ?_, ?_, by omega⟩
        · unfold nAdd; rw [show (c % 128).toNat = c.toNat by omega]
        · rw [nml_lt (by omega)]
          show ((c.toNat : Nat) : Int) :: b = c :: b
          rw [show ((c.toNat : Nat) : Int) = c by omega]
      · rw [if_neg h128] at h
        have hi9 : i < 9 := by omega
        obtain ⟨d, d1, d2, d3⟩ := nml_numD b (i + 1) (nAdd i a c) h hB' (by omega) (nAdd_lt hi9 ha h0)
        have hd : 0 < d := by omega
        refine ⟨(c % 128).toNat + 128 * d, ?_, ?_, .inr (by omega)⟩
        · rw [d1]
          unfold nAdd
          rw [show 7 * (i + 1) = 7 * i + 7 by omega, Nat.pow_add, show (2 : Nat) ^ 7 = 128 from rfl, Nat.add_mul, Nat.add_assoc, Nat.mul_comm (2 ^ (7 * i)) 128, ← Nat.mul_assoc, Nat.mul_comm d 128]
        · have hm : (c % 128).toNat < 128 := by omega
          rw [nml_ge (by omega), show ((c % 128).toNat + 128 * d) / 128 = d by omega, show ((c % 128).toNat + 128 * d) % 128 = (c % 128).toNat by omega]
          show (((c % 128).toNat + 128 : Nat) : Int) :: (nml d ++ r) = c :: b
          rw [d2, show (((c % 128).toNat + 128 : Nat) : Int) = c by omega]
    · rw [if_neg hok] at h; cases h
theorem numD_inv {b : List Int} {u : Nat} {r : List Int} (h : numD b 0 0 = some (u, r)) (hB : B8 b) : nml u ++ r = b := by
  obtain ⟨d, h1, h2, _⟩ := nml_numD b 0 0 h hB (by decide) (by decide)
  simp at h1; subst h1; exact h2
theorem lenD_of {n : Nat} (hn : n < 18446744073709551616) {r : List Int} (h : n ≤ r.length) : lenD (nml n ++ r) = some (n, r) := by
  unfold lenD; rw [numD_of hn]; simp only; rw [if_pos h]
theorem lenD_inv {b : List Int} {n : Nat} {r : List Int} (h : lenD b = some (n, r)) (hB : B8 b) : nml n ++ r = b ∧ n ≤ r.length ∧ n < 18446744073709551616 := by
  unfold lenD at h
  cases hn : numD b 0 0 with
  | none => rw [hn] at h; cases h
  | some x =>
    rw [hn] at h; simp only at h
    split at h
    · injection h with h; injection h with e1 e2; subst e1; subst e2
      exact ⟨numD_inv (u := x.1) (r := x.2) hn hB, by assumption, (num0 (v := x.1) (r := x.2) hn hB).1⟩
    · cases h
theorem bytes_B8 (s : ByteArray) : B8 (bytes s) := fun c hc => by
  unfold bytes at hc
  obtain ⟨u, _, rfl⟩ := List.mem_map.1 hc
  have := u.toNat_lt
  omega
theorem str_bytes (s : ByteArray) : strOfNums (bytes s) = s := by
  unfold strOfNums bytes
  apply ByteArray.ext
  simp
  have : (fun n : Int => UInt8.ofNat n.toNat) ∘ (fun u : UInt8 => (u.toNat : Int)) = id := by
    funext u; simp
  rw [this]; simp
theorem bytes_str {l : List Int} (h : B8 l) : bytes (strOfNums l) = l := by
  unfold strOfNums bytes
  simp
  conv => rhs; rw [← List.map_id l]
  apply List.map_congr_left
  intro c hc
  obtain ⟨h0, h1⟩ := h c hc
  simp
  omega
theorem str_size (l : List Int) : (strOfNums l).size = l.length := by
  unfold strOfNums; simp [ByteArray.size]
theorem strOf_inj {a b : List Int} (ha : B8 a) (hb : B8 b) : strOfNums a = strOfNums b ↔ a = b :=
  ⟨fun h => by rw [← bytes_str ha, ← bytes_str hb, h], fun h => by rw [h]⟩
/-! ### Values -/
theorem nml_B8 : ∀ u, B8 (nml u) := by
  intro u
  induction u using Nat.strongRecOn with
  | _ u ih =>
    by_cases h : u < 128
    · rw [nml_lt h]; intro c hc; simp at hc; omega
    · rw [nml_ge h]
      intro c hc
      rcases List.mem_cons.1 hc with e | e
      · omega
      · exact ih (u / 128) (by omega) c e
theorem B8.app {a b : List Int} (ha : B8 a) (hb : B8 b) : B8 (a ++ b) := fun c hc => by
  rcases List.mem_append.1 hc with h | h
  · exact ha c h
  · exact hb c h
theorem B8.cons {c : Int} {a : List Int} (h0 : 0 ≤ c) (h1 : c ≤ 255) (ha : B8 a) : B8 (c :: a) := fun x hx => by
  rcases List.mem_cons.1 hx with h | h
  · subst h; exact ⟨h0, h1⟩
  · exact ha x h
theorem enc_B8 : ∀ v, B8 (enc v) := by
  refine Vl.ind fun v ih => ?_
  obtain ⟨k, n, s, l⟩ := v
  have ih : ∀ x ∈ l, B8 (enc x) := ih
  rw [enc]
  split
  · exact B8.cons (by decide) (by decide) (nml_B8 _)
  · split
    · exact B8.cons (by decide) (by decide) (B8.app (nml_B8 _) (bytes_B8 s))
    · refine B8.cons (by decide) (by decide) (B8.app (nml_B8 _) ?_)
      rw [encs_flat]
      intro c hc
      obtain ⟨x, hx, hc⟩ := List.mem_flatMap.1 hc
      exact ih x hx c hc
/-- Each part's encoding takes a byte at least. -/
theorem enc_pos (v : Vl) : 0 < (enc v).length := by
  obtain ⟨k, n, s, l⟩ := v
  rw [enc]
  split
  · simp
  · split <;> simp
theorem encs_len : ∀ l : List Vl, l.length ≤ (encs l).length
  | [] => Nat.zero_le _
  | x :: r => by
    have h1 := encs_len r
    have h2 := enc_pos x
    rw [encs, List.length_append, List.length_cons]; omega
theorem deps_le {l : List Vl} {k : Nat} : deps l ≤ k ↔ ∀ x ∈ l, dep x ≤ k := by
  induction l with
  | nil => simp [deps]
  | cons a r ih => rw [deps]; simp only [List.mem_cons, forall_eq_or_imp]; rw [← ih]; omega
theorem repD_of {f : List Int → Option (Vl × List Int)} : ∀ (l : List Vl) (r : List Int), (∀ x ∈ l, ∀ r, f (enc x ++ r) = some (x, r)) → repD f l.length (encs l ++ r) = some (l, r)
  | [], r, _ => rfl
  | x :: l, r, h => by
    rw [encs, List.length_cons, List.append_assoc]
    show (match f (enc x ++ (encs l ++ r)) with | some (v, r) => (match repD f l.length r with | some (l, s) => some (v :: l, s) | none => none) | none => none) = _
    rw [h x (by simp)]
    simp only
    rw [repD_of l r fun y hy => h y (by simp [hy])]
/-- What is written is read. -/
theorem valD_of : ∀ v, ∀ k, frm v = true → nums v → dep v ≤ k → (enc v).length < 18446744073709551616 → ∀ r, valD k (enc v ++ r) = some (v, r) := by
  refine Vl.ind fun v ih k hf hn hd hz r => ?_
  obtain ⟨t, n, s, l⟩ := v
  have ih : ∀ x ∈ l, ∀ k, frm x = true → nums x → dep x ≤ k → (enc x).length < 18446744073709551616 → ∀ r, valD k (enc x ++ r) = some (x, r) := ih
  rcases kind_of hf with e | e | e <;> subst e
  · rw [frm_int] at hf
    simp only [Bool.and_eq_true, decide_eq_true_eq] at hf
    obtain ⟨rfl, hl⟩ := hf
    have hl : l = [] := by cases l with | nil => rfl | cons a r => cases hl
    subst hl
    rw [enc_int]
    show valD k (1 :: (nml (zz n) ++ r)) = _
    unfold valD
    rw [if_pos rfl, numD_of (zz_lt hn.1)]
    simp only
    rw [nz_zz]
  · rw [frm_text] at hf
    simp only [Bool.and_eq_true, decide_eq_true_eq] at hf
    obtain ⟨rfl, hl⟩ := hf
    have hl : l = [] := by cases l with | nil => rfl | cons a r => cases hl
    subst hl
    rw [enc_text] at hz ⊢
    have hbl := bytes_len s
    simp only [List.length_cons, List.length_append] at hz
    show valD k (2 :: (nml s.size ++ bytes s ++ r)) = _
    unfold valD
    rw [if_neg (by decide), if_pos rfl, List.append_assoc, lenD_of (by omega) (by simp; omega)]
    simp only
    have e1 : (bytes s ++ r).take s.size = bytes s := by rw [← hbl, List.take_left]
    have e2 : (bytes s ++ r).drop s.size = r := by rw [← hbl, List.drop_left]
    rw [e1, e2, str_bytes]
  · rw [frm_list] at hf
    simp only [Bool.and_eq_true, decide_eq_true_eq] at hf
    obtain ⟨⟨rfl, rfl⟩, hfl⟩ := hf
    rw [dep_list] at hd
    rw [enc_list] at hz ⊢
    simp only [List.length_cons, List.length_append] at hz
    have hll := encs_len l
    obtain ⟨k, rfl⟩ : ∃ j, k = j + 1 := ⟨k - 1, by omega⟩
    show valD (k + 1) (3 :: (nml l.length ++ encs l ++ r)) = _
    unfold valD
    rw [if_neg (by decide), if_neg (by decide), if_pos rfl, List.append_assoc]
    simp only
    rw [lenD_of (by omega) (by simp; omega)]
    simp only
    rw [repD_of l r fun x hx r => ih x hx k (List.all_eq_true.1 hfl x hx) (numsL_mem hn.2 hx) (deps_le.1 (show deps l ≤ k by omega) x hx) (by have := encs_mem hx; omega) r]
theorem repD_inv {f : List Int → Option (Vl × List Int)} {Q : Vl → Prop} (hf : ∀ b v r, f b = some (v, r) → B8 b → enc v ++ r = b ∧ Q v ∧ B8 r) : ∀ (n : Nat) (b : List Int) (l : List Vl) (r : List Int), repD f n b = some (l, r) → B8 b →
    encs l ++ r = b ∧ (∀ x ∈ l, Q x) ∧ l.length = n ∧ B8 r
  | 0, b, l, r, h, hB => by
    unfold repD at h
    injection h with h; injection h with e1 e2; subst e1; subst e2
    exact ⟨rfl, by simp, rfl, hB⟩
  | n + 1, b, l, r, h, hB => by
    unfold repD at h
    cases hv : f b with
    | none => rw [hv] at h; cases h
    | some y =>
      obtain ⟨v, b'⟩ := y
      rw [hv] at h; simp only at h
      cases hq : repD f n b' with
      | none => rw [hq] at h; cases h
      | some z =>
        obtain ⟨l', r'⟩ := z
        rw [hq] at h; simp only at h
        injection h with h; injection h with e1 e2; subst e1; subst e2
        obtain ⟨a1, a2, a3⟩ := hf b v b' hv hB
        obtain ⟨b1, b2, b3, b4⟩ := repD_inv hf n b' l' r' hq a3
        refine ⟨by rw [encs, List.append_assoc, b1, a1], fun x hx => ?_, by simp [b3], b4⟩
        rcases List.mem_cons.1 hx with e | e
        · subst e; exact a2
        · exact b2 x e
/-- What is read: formed, not too deep, its numbers in range, its lists no longer than the text. -/
structure RdV (N k : Nat) (v : Vl) : Prop where
  f : frm v = true
  d : dep v ≤ k
  n : nums v
  l : lens N v
theorem lensL_of {N : Nat} {l : List Vl} (h : ∀ x ∈ l, lens N x) : lensL N l := by
  induction l with
  | nil => trivial
  | cons a r ih => exact ⟨h a (by simp), ih fun x hx => h x (by simp [hx])⟩
theorem valD_inv (N : Nat) : ∀ k b v r, valD k b = some (v, r) → b.length ≤ N → B8 b → enc v ++ r = b ∧ RdV N k v ∧ B8 r := by
  have base : ∀ k (c : Int) (b : List Int) v r, valD k (c :: b) = some (v, r) → (c = 1 ∨ c = 2) → (c :: b).length ≤ N → B8 (c :: b) → enc v ++ r = c :: b ∧ RdV N k v ∧ B8 r := by
    intro k c b v r h hc hN hB
    have hB' : B8 b := fun x hx => hB x (by simp [hx])
    unfold valD at h
    rcases hc with e | e <;> subst e
    · rw [if_pos rfl] at h
      cases hn : numD b 0 0 with
      | none => rw [hn] at h; cases h
      | some x =>
        obtain ⟨u, s⟩ := x
        rw [hn] at h; simp only at h
        injection h with h; injection h with e1 e2; subst e1; subst e2
        obtain ⟨f1, f2, f3⟩ := num0 hn hB'
        refine ⟨by rw [enc_int, zz_nz]; show 1 :: (nml u ++ s) = _; rw [numD_inv hn hB'], ⟨by rw [frm_int]; rfl, by rw [dep_no (by decide)]; omega, ⟨nz_fit f1, trivial⟩, ⟨Nat.zero_le _, trivial⟩⟩, f3⟩
    · rw [if_neg (by decide), if_pos rfl] at h
      cases hn : lenD b with
      | none => rw [hn] at h; cases h
      | some x =>
        obtain ⟨n, s⟩ := x
        rw [hn] at h; simp only at h
        injection h with h; injection h with e1 e2; subst e1; subst e2
        obtain ⟨f1, f2, f3⟩ := lenD_inv hn hB'
        obtain ⟨_, _, g3⟩ := lenD_facts hn hB'
        have ht : B8 (s.take n) := fun x hx => g3 x (List.mem_of_mem_take hx)
        refine ⟨?_, ⟨by rw [frm_text]; rfl, by rw [dep_no (by decide)]; omega, ⟨(by unfold I64; omega), trivial⟩, ⟨Nat.zero_le _, trivial⟩⟩, (fun x hx => g3 x (List.mem_of_mem_drop hx))⟩
        rw [enc_text, str_size, bytes_str ht, List.length_take, Nat.min_eq_left f2]
        show 2 :: (nml n ++ s.take n ++ s.drop n) = _
        rw [List.append_assoc, List.take_append_drop, f1]
  intro k
  induction k with
  | zero =>
    intro b v r h hN hB
    cases b with
    | nil => cases h
    | cons c b =>
      by_cases hc : c = 1 ∨ c = 2
      · exact base 0 c b v r h hc hN hB
      · unfold valD at h
        rw [if_neg (fun e => hc (.inl e)), if_neg (fun e => hc (.inr e))] at h
        split at h <;> cases h
  | succ k ih =>
    intro b v r h hN hB
    cases b with
    | nil => cases h
    | cons c b =>
      by_cases hc : c = 1 ∨ c = 2
      · exact base (k + 1) c b v r h hc hN hB
      · have hB' : B8 b := fun x hx => hB x (by simp [hx])
        unfold valD at h
        rw [if_neg (fun e => hc (.inl e)), if_neg (fun e => hc (.inr e))] at h
        split at h
        · rename_i hc3
          subst hc3
          simp only at h
          cases hn : lenD b with
          | none => rw [hn] at h; cases h
          | some x =>
            obtain ⟨n, s⟩ := x
            rw [hn] at h; simp only at h
            cases hq : repD (valD k) n s with
            | none => rw [hq] at h; cases h
            | some z =>
              obtain ⟨l, s'⟩ := z
              rw [hq] at h; simp only at h
              injection h with h; injection h with e1 e2; subst e1; subst e2
              obtain ⟨f1, f2, f3⟩ := lenD_inv hn hB'
              obtain ⟨_, g2, g3⟩ := lenD_facts hn hB'
              simp only [List.length_cons] at hN
              have hsN : s.length ≤ N := by omega
              -- the elements
              have key : ∀ (n : Nat) (b : List Int) (l : List Vl) (r : List Int), repD (valD k) n b = some (l, r) → b.length ≤ N → B8 b → encs l ++ r = b ∧ (∀ x ∈ l, RdV N k x) ∧ l.length = n ∧ B8 r := by
                intro n
                induction n with
                | zero =>
                  intro b l r h _ hB
                  unfold repD at h
                  injection h with h; injection h with e1 e2; subst e1; subst e2
                  exact ⟨rfl, by simp, rfl, hB⟩
                | succ n ihn =>
                  intro b l r h hN hB
                  unfold repD at h
                  cases hv : valD k b with
                  | none => rw [hv] at h; cases h
                  | some y =>
                    obtain ⟨v, b'⟩ := y
                    rw [hv] at h; simp only at h
                    cases hq : repD (valD k) n b' with
                    | none => rw [hq] at h; cases h
                    | some z =>
                      obtain ⟨l', r'⟩ := z
                      rw [hq] at h; simp only at h
                      injection h with h; injection h with e1 e2; subst e1; subst e2
                      obtain ⟨a1, a2, a3⟩ := ih b v b' hv hN hB
                      have hb' : b'.length ≤ N := by have := congrArg List.length a1; simp at this; omega
                      obtain ⟨b1, b2, b3, b4⟩ := ihn b' l' r' hq hb' a3
                      refine ⟨by rw [encs, List.append_assoc, b1, a1], fun x hx => ?_, by simp [b3], b4⟩
                      rcases List.mem_cons.1 hx with e | e
                      · subst e; exact a2
                      · exact b2 x e
              obtain ⟨k1, k2, k3, k4⟩ := key n s l s' hq hsN g3
              refine ⟨?_, ⟨?_, ?_, ?_, ?_⟩, k4⟩
              · rw [enc_list, k3]
                show 3 :: (nml n ++ encs l ++ s') = _
                rw [List.append_assoc, k1, f1]
              · rw [frm_list]
                simp only [decide_true, Bool.true_and, List.all_eq_true]
                exact fun x hx => (k2 x hx).f
              · rw [dep_list]
                have := deps_le.2 fun x hx => (k2 x hx).d
                omega
              · exact ⟨(by unfold I64; omega), numsL_of fun x hx => (k2 x hx).n⟩
              · exact ⟨by rw [k3]; omega, lensL_of fun x hx => (k2 x hx).l⟩
        · cases h
end Go.Proofs.Ytkgjhghbnocnbaa

namespace Go.Proofs.Ytkgjhghbnocnbaa
open Go Go.Sg
set_option maxRecDepth 100000
set_option maxHeartbeats 20000000
theorem numR_numD : ∀ (r : List Int) (i u a : Nat), match numD r i u with
    | some (n, s) => s.length < r.length ∧ numR r i u a = (n, a + (r.length - s.length), false) ∧ r.drop (r.length - s.length) = s
    | none => (numR r i u a).2.2 = true
  | [], i, u, a => rfl
  | c :: r, i, u, a => by
    unfold numD numR
    by_cases hok : nOk i c = true
    · rw [if_pos hok, if_pos hok]
      by_cases h : c < 128
      · rw [if_pos h, if_pos h]
        exact ⟨by simp, by simp, by simp⟩
      · rw [if_neg h, if_neg h]
        have ih := numR_numD r (i + 1) (nAdd i u c) (a + 1)
        cases hn : numD r (i + 1) (nAdd i u c) with
        | none => rw [hn] at ih; exact ih
        | some x =>
          obtain ⟨n, s⟩ := x
          rw [hn] at ih
          obtain ⟨h1, h2, h3⟩ := ih
          refine ⟨by simp; omega, ?_, ?_⟩
          · rw [h2]; simp; omega
          · rw [List.length_cons, show r.length + 1 - s.length = (r.length - s.length) + 1 by omega, List.drop_succ_cons, h3]
    · rw [if_neg hok, if_neg hok]
theorem numAt_some {b : List Int} {a n : Nat} {s : List Int} (ha : a ≤ b.length) (h : numD (b.drop a) 0 0 = some (n, s)) : numAt b a = (n, b.length - s.length, false) ∧ b.drop (b.length - s.length) = s ∧ s.length ≤ b.length - a := by
  have := numR_numD (b.drop a) 0 0 a
  rw [h] at this
  obtain ⟨h1, h2, h3⟩ := this
  rw [List.length_drop] at h1 h2 h3
  refine ⟨?_, ?_, by omega⟩
  · unfold numAt; rw [h2]; congr 2; omega
  · rw [List.drop_drop] at h3
    rw [← show a + (b.length - a - s.length) = b.length - s.length by omega]; exact h3
theorem numAt_none {b : List Int} {a : Nat} (h : numD (b.drop a) 0 0 = none) : (numAt b a).2.2 = true := by
  have := numR_numD (b.drop a) 0 0 a
  rw [h] at this; exact this
/-- How the reference's reader and the plain one agree. -/
def Agr (b : List Int) (k a : Nat) : Prop := match valD k (b.drop a) with
  | some (v, s) => rv b k a = (v, b.length - s.length, false) ∧ b.drop (b.length - s.length) = s ∧ s.length ≤ b.length - a
  | none => (rv b k a).2.2 = true
theorem repR_repD {b : List Int} {k : Nat} (hA : ∀ a, a ≤ b.length → Agr b k a) : ∀ n a, a ≤ b.length → match repD (valD k) n (b.drop a) with
    | some (l, s) => repR (rv b k) n a = (l, b.length - s.length, false) ∧ b.drop (b.length - s.length) = s ∧ s.length ≤ b.length - a
    | none => (repR (rv b k) n a).2.2 = true
  | 0, a, ha => by
    unfold repD repR
    simp only [List.length_drop]
    exact ⟨by congr 2; omega, by congr 1; omega, by omega⟩
  | n + 1, a, ha => by
    have h := hA a ha
    unfold Agr at h
    unfold repD
    cases hv : valD k (b.drop a) with
    | none =>
      rw [hv] at h
      simp only
      rw [repR_bad h]
    | some y =>
      obtain ⟨v, s⟩ := y
      rw [hv] at h
      obtain ⟨h1, h2, h3⟩ := h
      have hg : (rv b k a).2.2 = false := by rw [h1]
      have ih := repR_repD hA n (b.length - s.length) (by omega)
      rw [h2] at ih
      simp only
      rw [repR_good hg, h1]
      simp only
      cases hq : repD (valD k) n s with
      | none => rw [hq] at ih; exact ih
      | some z =>
        obtain ⟨l, s'⟩ := z
        rw [hq] at ih
        obtain ⟨g1, g2, g3⟩ := ih
        exact ⟨by rw [g1], g2, by omega⟩
theorem rv_valD (b : List Int) : ∀ k a, a ≤ b.length → Agr b k a := by
  have base : ∀ k a, a ≤ b.length → (∀ c, b[a]? = some c → c ≠ 3) → Agr b k a := by
    intro k a ha h3
    unfold Agr rv
    cases hc : b[a]? with
    | none =>
      have hd : b.drop a = [] := List.drop_eq_nil_of_le (List.getElem?_eq_none_iff.1 hc)
      rw [hd]; unfold valD; rfl
    | some c =>
      have hlt : a < b.length := (List.getElem?_eq_some_iff.1 hc).1
      have hd : b.drop a = c :: b.drop (a + 1) := by rw [List.drop_eq_getElem_cons hlt, (List.getElem?_eq_some_iff.1 hc).2]
      rw [hd]
      unfold valD
      simp only
      by_cases k1 : c = 1
      · rw [if_pos k1, if_pos k1]
        cases hn : numD (b.drop (a + 1)) 0 0 with
        | none => exact numAt_none hn
        | some x =>
          obtain ⟨u, s⟩ := x
          obtain ⟨g1, g2, g3⟩ := numAt_some hlt hn
          exact ⟨by rw [g1], g2, by omega⟩
      · rw [if_neg k1, if_neg k1]
        by_cases k2 : c = 2
        · rw [if_pos k2, if_pos k2]
          unfold lenD
          cases hn : numD (b.drop (a + 1)) 0 0 with
          | none =>
            have hb : badN b (numAt b (a + 1)) = true := by unfold badN; rw [numAt_none hn]; rfl
            simp only
            rw [if_pos hb]
          | some x =>
            obtain ⟨u, s⟩ := x
            obtain ⟨g1, g2, g3⟩ := numAt_some hlt hn
            simp only
            rw [g1]
            by_cases hu : u ≤ s.length
            · have hb : ¬ badN b (u, b.length - s.length, false) = true := by unfold badN; simp; omega
              rw [if_pos hu, if_neg hb]
              simp only
              rw [g2]
              refine ⟨?_, ?_, ?_⟩
              · rw [List.length_drop]; congr 2; omega
              · rw [List.length_drop]
                conv => rhs; rw [← g2]
                rw [List.drop_drop]; congr 1; omega
              · rw [List.length_drop]; omega
            · have hb : badN b (u, b.length - s.length, false) = true := by unfold badN; simp; omega
              rw [if_neg hu, if_pos hb]
        · rw [if_neg k2, if_neg k2, if_neg (h3 c hc), if_neg (h3 c hc)]
  have list : ∀ k a, a ≤ b.length → b[a]? = some 3 → (∀ j, k = j + 1 → ∀ a, a ≤ b.length → Agr b j a) → Agr b k a := by
    intro k a ha hc hih
    have hlt : a < b.length := (List.getElem?_eq_some_iff.1 hc).1
    have hd : b.drop a = 3 :: b.drop (a + 1) := by rw [List.drop_eq_getElem_cons hlt, (List.getElem?_eq_some_iff.1 hc).2]
    unfold Agr
    rw [hd]
    cases k with
    | zero =>
      unfold valD rv
      rw [hc]
      simp only
      rw [if_neg (by decide), if_neg (by decide), if_pos trivial]
      simp
    | succ k =>
      have hih := hih k rfl
      conv => unfold valD
      unfold rv
      rw [hc]
      simp only
      rw [if_neg (by decide), if_neg (by decide), if_pos trivial, if_neg (by decide), if_neg (by decide), if_pos trivial]
      unfold lenD
      cases hn : numD (b.drop (a + 1)) 0 0 with
      | none =>
        have hb : badN b (numAt b (a + 1)) = true := by unfold badN; rw [numAt_none hn]; rfl
        simp only
        rw [if_pos hb]
      | some x =>
        obtain ⟨u, s⟩ := x
        obtain ⟨g1, g2, g3⟩ := numAt_some hlt hn
        simp only
        rw [g1]
        by_cases hu : u ≤ s.length
        · have hb : ¬ badN b (u, b.length - s.length, false) = true := by unfold badN; simp; omega
          rw [if_pos hu, if_neg hb]
          simp only
          have ih := repR_repD hih u (b.length - s.length) (by omega)
          rw [g2] at ih
          cases hq : repD (valD k) u s with
          | none => rw [hq] at ih; exact ih
          | some z =>
            obtain ⟨l, s'⟩ := z
            rw [hq] at ih
            obtain ⟨h1, h2, h3⟩ := ih
            exact ⟨by rw [h1], h2, by omega⟩
        · have hb : badN b (u, b.length - s.length, false) = true := by unfold badN; simp; omega
          rw [if_neg hu, if_pos hb]
  intro k
  induction k with
  | zero =>
    intro a ha
    by_cases h3 : b[a]? = some 3
    · exact list 0 a ha h3 (fun j hj => by cases hj)
    · exact base 0 a ha fun c hc e => h3 (by rw [hc, e])
  | succ k ih =>
    intro a ha
    by_cases h3 : b[a]? = some 3
    · exact list (k + 1) a ha h3 (fun j hj => by have : j = k := by omega
                                                 subst this; exact ih)
    · exact base (k + 1) a ha fun c hc e => h3 (by rw [hc, e])
end Go.Proofs.Ytkgjhghbnocnbaa

namespace Go.Proofs.Ytkgjhghbnocnbaa
open Go Go.Sg
set_option maxRecDepth 100000
set_option maxHeartbeats 20000000
theorem deps_le16 {v : Vl} (h : dep v ≤ 16) (hf : frm v = true) : chkV v = 0 := by
  unfold chkV; rw [hf]; simp only [if_true]; rw [if_neg (by omega)]
theorem RdV.ok {N : Nat} {v : Vl} (h : RdV N 16 v) (hN : N ≤ 5000) (hz : (enc v).length ≤ 80000000) : Ok v :=
  ⟨⟨lens_mono hN v h.l, by have := h.d; omega⟩, h.n, fun _ => hz⟩
where
  lens_mono {N M : Nat} (h : N ≤ M) : ∀ v, lens N v → lens M v := by
    refine Vl.ind fun v ih hl => ?_
    obtain ⟨k, n, s, l⟩ := v
    obtain ⟨h1, h2⟩ := hl
    exact ⟨Nat.le_trans h1 h, lensL_of fun x hx => ih x hx (lensL_mem h2 hx)⟩
theorem rdecode_calls (b : List Int) (hb : b.length ≤ 5000) (hB : B8 b) : PCalls Try.prog 19 [eR b] (.tup [eW (decA b).1, eI (decA b).2]) := by
  have q1 := rvalue_calls b (by omega) hB 16 (Nat.le_refl _) 0 (Nat.zero_le _)
  rw [d16] at q1
  have hA := rv_valD b 16 0 (Nat.zero_le _)
  unfold Agr at hA
  rw [List.drop_zero] at hA
  unfold decA
  cases hv : valD 16 b with
  | none =>
    rw [hv] at hA
    have hA : (rv b 16 0).2.2 = true := hA
    generalize rv b 16 0 = V at *
    obtain ⟨v, a, bad⟩ := V
    have hA : bad = true := hA
    subst hA
    refine PCalls.of (N := 39) (res := [.cell 2 24, .tmp 3]) mixed Try.func19 rfl rfl rfl (by kernel_rfl) (by simp) [0, 2, 3, 4, 5, 36] ?_
    repeat' (first | exact cl1 | ((with_reducible show Exists _); refine exU8 ?_) | ((with_reducible show callX _ _ _ _ _); (first | refine call_i [256] (q1) (by kernel_rfl) rfl rfl (by decide) cl6 (fun i hi => by match i, hi with | 0, _ => rfl) cl7 cl8 (by simp [keys]) ?_)) | ((fail_if_success with_reducible first | show LeG _ _ | show Lp _ _ _ _ | show Exists _ | show callX _ _ _ _ _ | show (_ : Int) ≤ _ | show (_ : Int) < _ | show (_ : Nat) ≤ _ | show (_ : Nat) < _); (conv => whnf) <;> (first | exact cl2 | refine XAlt.l ?_ | refine Sq.pr ?_ | refine Br.dec (fun hc => ?_) (fun hc => ?_) | refine Br.tt ?_ | refine Br.ff ?_ | refine Br.not ?_ | refine Br.mk (fun hc => ?_) (fun hc => ?_) | refine Opt.nn ?_ | refine Opt.ss ?_ | refine AltA.l ?_ | exact PV.leL_nil | refine PV.leL_cons ?_ ?_ | refine And.intro ?_ ?_ | refine ix_map (fun x hx => ?_) | refine exU8 ?_ | refine nilc (fun hn => ?_) ?_ | exact cl3 | refine imp0 (fun hpos => ?_) | refine fits_i64 ?_ ?_ | exact rfl | (with_reducible first | show LeG _ _ | show Lp _ _ _ _ | show Exists _ | show callX _ _ _ _ _)))) <;> (try exact cl5)
    exact LeG.mk leZ
  
  | some y =>
    obtain ⟨v, s⟩ := y
    rw [hv] at hA
    obtain ⟨h1, h2, h3⟩ := hA
    rw [h1] at q1
    obtain ⟨g1, g2, g3⟩ := valD_inv b.length 16 b v s hv (Nat.le_refl _) hB
    by_cases hs : s = []
    · subst hs
      simp only [if_true]
      rw [List.append_nil] at g1
      have hz : (enc v).length ≤ 80000000 := by rw [g1]; omega
      have ho := g2.ok (by omega) hz
      have q2 := rcheck_calls v ho.sm
      rw [deps_le16 g2.d g2.f] at q2
      have q3 := rencode_calls v g2.f g2.n ho.sm.1 (by omega)
      rw [g1] at q3
      refine PCalls.of (N := 39) (res := [.cell 2 24, .tmp 3]) mixed Try.func19 rfl rfl rfl (by kernel_rfl) (by simp) [0, 2, 3, 4, 5, 36] ?_
      repeat' (first | exact cl1 | ((with_reducible show Exists _); refine exU8 ?_) | ((with_reducible show callX _ _ _ _ _); (first | refine call_i [256] (q1) (by kernel_rfl) rfl rfl (by decide) cl6 (fun i hi => by match i, hi with | 0, _ => rfl) cl7 cl8 (by simp [keys]) ?_ | refine call_p (q2) (by kernel_rfl) rfl ?_ | refine call_p (q3) (by kernel_rfl) rfl ?_)) | ((fail_if_success with_reducible first | show LeG _ _ | show Lp _ _ _ _ | show Exists _ | show callX _ _ _ _ _ | show (_ : Int) ≤ _ | show (_ : Int) < _ | show (_ : Nat) ≤ _ | show (_ : Nat) < _); (conv => whnf) <;> (first | exact cl2 | refine XAlt.l ?_ | refine Sq.pr ?_ | refine Br.dec (fun hc => ?_) (fun hc => ?_) | refine Br.tt ?_ | refine Br.ff ?_ | refine Br.not ?_ | refine Br.mk (fun hc => ?_) (fun hc => ?_) | refine Opt.nn ?_ | refine Opt.ss ?_ | refine AltA.l ?_ | exact PV.leL_nil | refine PV.leL_cons ?_ ?_ | refine And.intro ?_ ?_ | refine ix_map (fun x hx => ?_) | refine exU8 ?_ | refine nilc (fun hn => ?_) ?_ | exact cl3 | refine imp0 (fun hpos => ?_) | refine fits_i64 ?_ ?_ | exact rfl | (with_reducible first | show LeG _ _ | show Lp _ _ _ _ | show Exists _ | show callX _ _ _ _ _)))) <;> (try exact cl5)
      · exfalso
        apply hc
        show (((b.length - 0 : Nat)) : Int) = ((b.map (PV.int .u8)).length : Int)
        rw [List.length_map]; rfl
      · exact absurd rfl hc
    
    · simp only [if_neg hs]
      have hne : ¬ (((b.length - s.length : Nat) : Int) = ((b.map (PV.int .u8)).length : Int)) := by
        rw [List.length_map]
        have : 0 < s.length := List.length_pos_iff.2 hs
        omega
      refine PCalls.of (N := 39) (res := [.cell 2 24, .tmp 3]) mixed Try.func19 rfl rfl rfl (by kernel_rfl) (by simp) [0, 2, 3, 4, 5, 36] ?_
      repeat' (first | exact cl1 | ((with_reducible show Exists _); refine exU8 ?_) | ((with_reducible show callX _ _ _ _ _); (first | refine call_i [256] (q1) (by kernel_rfl) rfl rfl (by decide) cl6 (fun i hi => by match i, hi with | 0, _ => rfl) cl7 cl8 (by simp [keys]) ?_)) | ((fail_if_success with_reducible first | show LeG _ _ | show Lp _ _ _ _ | show Exists _ | show callX _ _ _ _ _ | show (_ : Int) ≤ _ | show (_ : Int) < _ | show (_ : Nat) ≤ _ | show (_ : Nat) < _); (conv => whnf) <;> (first | exact cl2 | refine Br.dec (fun hc => ?_) (fun hc => absurd hne hc) | refine XAlt.l ?_ | refine Sq.pr ?_ | refine Br.dec (fun hc => ?_) (fun hc => ?_) | refine Br.tt ?_ | refine Br.ff ?_ | refine Br.not ?_ | refine Br.mk (fun hc => ?_) (fun hc => ?_) | refine Opt.nn ?_ | refine Opt.ss ?_ | refine AltA.l ?_ | exact PV.leL_nil | refine PV.leL_cons ?_ ?_ | refine And.intro ?_ ?_ | refine ix_map (fun x hx => ?_) | refine exU8 ?_ | refine nilc (fun hn => ?_) ?_ | exact cl3 | refine imp0 (fun hpos => ?_) | refine fits_i64 ?_ ?_ | exact rfl | (with_reducible first | show LeG _ _ | show Lp _ _ _ _ | show Exists _ | show callX _ _ _ _ _)))) <;> (try exact cl5)
      exact LeG.mk leZ
    
end Go.Proofs.Ytkgjhghbnocnbaa

namespace Go.Proofs.Ytkgjhghbnocnbaa
open Go Go.Sg
set_option maxRecDepth 100000
set_option maxHeartbeats 20000000
/-! ### Counting -/
def cntL (f : Vl → Nat) : Nat → List Vl → Nat
  | n, [] => n
  | n, x :: r => if n ≤ 1000 then cntL f (n + f x) r else n
def cnt : Nat → Vl → Nat
  | 0, _ => 1000
  | d + 1, v => if v.l.length > 150 then 1000 else cntL (cnt d) (1 + v.s.size / 200) v.l
mutual
def strs : Vl → Prop
  | .mk _ _ s l => s.size ≤ 1125899906842624 ∧ l.length ≤ 1125899906842624 ∧ strsL l
def strsL : List Vl → Prop
  | [] => True
  | x :: r => strs x ∧ strsL r
end
theorem strsL_mem {x : Vl} : ∀ {l : List Vl}, strsL l → x ∈ l → strs x
  | y :: r, h, hx => by
    rcases List.mem_cons.1 hx with e | e
    · subst e; exact h.1
    · exact strsL_mem h.2 e
theorem cntL_le {f : Vl → Nat} {B : Nat} : ∀ (l : List Vl) (n : Nat), (∀ x ∈ l, f x ≤ B) → cntL f n l ≤ max n (1000 + B)
  | [], n, _ => by show n ≤ _; omega
  | x :: r, n, h => by
    unfold cntL
    split
    · have := cntL_le r (n + f x) fun y hy => h y (by simp [hy])
      have := h x (by simp)
      omega
    · omega
theorem cnt_le : ∀ d v, strs v → cnt d v ≤ 5629499534214 + 1000 * d + 1000
  | 0, v, _ => by show 1000 ≤ _; omega
  | d + 1, v, h => by
    obtain ⟨k, n, s, l⟩ := v
    obtain ⟨h1, _, h2⟩ := h
    show (if l.length > 150 then 1000 else cntL (cnt d) (1 + s.size / 200) l) ≤ _
    split
    · omega
    · have := cntL_le l (1 + s.size / 200) fun x hx => cnt_le d x (strsL_mem h2 hx)
      omega
theorem cntL_stop {f : Vl → Nat} {n : Nat} {l : List Vl} (h : ¬ n ≤ 1000) : cntL f n l = n := by
  cases l with
  | nil => rfl
  | cons x r => unfold cntL; rw [if_neg h]
theorem cntL_take {f : Vl → Nat} : ∀ {l : List Vl} {i n : Nat} {x : Vl}, l[i]? = some x → n ≤ 1000 → cntL f n (l.drop i) = cntL f (n + f x) (l.drop (i + 1)) := by
  intro l i n x hx hn
  have hlt : i < l.length := (List.getElem?_eq_some_iff.1 hx).1
  rw [List.drop_eq_getElem_cons hlt, (List.getElem?_eq_some_iff.1 hx).2]
  conv => lhs; unfold cntL
  rw [if_pos hn]
theorem count_calls : ∀ d : Nat, d ≤ 100 → ∀ v, strs v → PCalls Try.prog 36 [eW v, eI ((d : Int) - 1)] (eI (cnt d v)) := by
  intro d
  induction d with
  | zero =>
    intro _ v hv
    obtain ⟨k, n, s, l⟩ := v
    obtain ⟨h1, h1l, h2⟩ := hv
    have hyes : ((0 : Nat) : Int) - 1 < 0 := by decide
    have hsz : (s.size : Int).tdiv 200 = ((s.size / 200 : Nat) : Int) := by rw [Int.tdiv_eq_ediv_of_nonneg (by omega)]; omega
    show PCalls _ _ [.agg [eI k, eI n, .str s, .sl 4 false (l.map eV)], _] (eI ((1000 : Nat) : Int))
    refine PCalls.of (N := 42) (res := [.tmp 4]) mixed Try.func36 rfl rfl rfl (by kernel_rfl) (by simp) [0, 1, 2, 4, 5, 6, 19, 28] ?_
    repeat' (first | exact cl1 | ((with_reducible show Exists _); refine exU8 ?_) | ((fail_if_success with_reducible first | show LeG _ _ | show Lp _ _ _ _ | show Exists _ | show callX _ _ _ _ _ | show (_ : Int) ≤ _ | show (_ : Int) < _ | show (_ : Nat) ≤ _ | show (_ : Nat) < _); (conv => whnf) <;> (first | exact cl2 | refine Br.dec (fun hc => ?_) (fun hc => absurd hyes hc) | refine XAlt.l ?_ | refine Sq.pr ?_ | refine Br.dec (fun hc => ?_) (fun hc => ?_) | refine Br.tt ?_ | refine Br.ff ?_ | refine Br.not ?_ | refine Br.mk (fun hc => ?_) (fun hc => ?_) | refine Opt.nn ?_ | refine Opt.ss ?_ | refine AltA.l ?_ | exact PV.leL_nil | refine PV.leL_cons ?_ ?_ | refine And.intro ?_ ?_ | refine ix_map (fun x hx => ?_) | refine exU8 ?_ | refine nilc (fun hn => ?_) ?_ | exact cl3 | refine imp0 (fun hpos => ?_) | refine fits_i64 ?_ ?_ | exact rfl | (with_reducible first | show LeG _ _ | show Lp _ _ _ _ | show Exists _ | show callX _ _ _ _ _)))) <;> (try exact cl5)
    all_goals (try (rw [hsz]; omega))
  | succ d ih =>
    intro hd v hv
    have ih := ih (by omega)
    obtain ⟨k, n, s, l⟩ := v
    have hcb := cnt_le (d + 1) _ hv
    obtain ⟨h1, h1l, h2⟩ := hv
    have hno : ¬ ((d + 1 : Nat) : Int) - 1 < 0 := by omega
    have hsz : (s.size : Int).tdiv 200 = ((s.size / 200 : Nat) : Int) := by rw [Int.tdiv_eq_ediv_of_nonneg (by omega)]; omega
    show PCalls _ _ [.agg [eI k, eI n, .str s, .sl 4 false (l.map eV)], _] _
    by_cases hl : l.length > 150
    · have hl' : (150 : Int) < ((l.map eV).length : Int) := by rw [List.length_map]; omega
      have he : cnt (d + 1) (.mk k n s l) = 1000 := by show (if l.length > 150 then _ else _) = _; rw [if_pos hl]
      rw [he]
      refine PCalls.of (N := 42) (res := [.tmp 4]) mixed Try.func36 rfl rfl rfl (by kernel_rfl) (by simp) [0, 1, 2, 4, 5, 6, 19, 28] ?_
      repeat' (first | exact cl1 | ((with_reducible show Exists _); refine exU8 ?_) | ((fail_if_success with_reducible first | show LeG _ _ | show Lp _ _ _ _ | show Exists _ | show callX _ _ _ _ _ | show (_ : Int) ≤ _ | show (_ : Int) < _ | show (_ : Nat) ≤ _ | show (_ : Nat) < _); (conv => whnf) <;> (first | exact cl2 | refine Br.dec (fun hc => absurd hc hno) (fun hc => ?_) | refine Br.dec (fun hc => ?_) (fun hc => absurd hl' hc) | refine XAlt.l ?_ | refine Sq.pr ?_ | refine Br.dec (fun hc => ?_) (fun hc => ?_) | refine Br.tt ?_ | refine Br.ff ?_ | refine Br.not ?_ | refine Br.mk (fun hc => ?_) (fun hc => ?_) | refine Opt.nn ?_ | refine Opt.ss ?_ | refine AltA.l ?_ | exact PV.leL_nil | refine PV.leL_cons ?_ ?_ | refine And.intro ?_ ?_ | refine ix_map (fun x hx => ?_) | refine exU8 ?_ | refine nilc (fun hn => ?_) ?_ | exact cl3 | refine imp0 (fun hpos => ?_) | refine fits_i64 ?_ ?_ | exact rfl | (with_reducible first | show LeG _ _ | show Lp _ _ _ _ | show Exists _ | show callX _ _ _ _ _)))) <;> (try exact cl5)
      all_goals (try (rw [hsz]; omega))
    · have hl' : ¬ (150 : Int) < ((l.map eV).length : Int) := by rw [List.length_map]; omega
      have he : cnt (d + 1) (.mk k n s l) = cntL (cnt d) (1 + s.size / 200) l := by show (if l.length > 150 then _ else _) = _; rw [if_neg hl]; rfl
      rw [he]
      refine PCalls.of (N := 42) (res := [.tmp 4]) mixed Try.func36 rfl rfl rfl (by kernel_rfl) (by simp) [0, 1, 2, 4, 5, 6, 19, 28] ?_
      repeat' (first | exact cl1 | ((with_reducible show Exists _); refine exU8 ?_) | ((fail_if_success with_reducible first | show LeG _ _ | show Lp _ _ _ _ | show Exists _ | show callX _ _ _ _ _ | show (_ : Int) ≤ _ | show (_ : Int) < _ | show (_ : Nat) ≤ _ | show (_ : Nat) < _); (conv => whnf) <;> (first | exact cl2 | refine Br.dec (fun hc => absurd hc hno) (fun hc => ?_) | refine Br.dec (fun hc => absurd hc hl') (fun hc => ?_) | refine XAlt.l ?_ | refine Sq.pr ?_ | refine Br.dec (fun hc => ?_) (fun hc => ?_) | refine Br.tt ?_ | refine Br.ff ?_ | refine Br.not ?_ | refine Br.mk (fun hc => ?_) (fun hc => ?_) | refine Opt.nn ?_ | refine Opt.ss ?_ | refine AltA.l ?_ | exact PV.leL_nil | refine PV.leL_cons ?_ ?_ | refine And.intro ?_ ?_ | refine ix_map (fun x hx => ?_) | refine exU8 ?_ | refine nilc (fun hn => ?_) ?_ | exact cl3 | refine imp0 (fun hpos => ?_) | refine fits_i64 ?_ ?_ | exact rfl | (with_reducible first | show LeG _ _ | show Lp _ _ _ _ | show Exists _ | show callX _ _ _ _ _)))) <;> (try exact cl5)
      refine Wpc.loopB (α := {x : Nat × Nat // x.1 ≤ l.length ∧ x.2 ≤ 5629499534214 + 1000 * d + 3000 ∧ cntL (cnt d) x.2 (l.drop x.1) = cntL (cnt d) (1 + s.size / 200) l}) mixed [0, 1, 2, 4, 5, 6, 19, 28] (fun x => [(5, .p (eI x.1.2)), (6, .p (eI x.1.1))]) (fun x => l.length - x.1.1) ⟨(0, 1 + s.size / 200), Nat.zero_le _, by show 1 + s.size / 200 ≤ _; omega, by rw [List.drop_zero]⟩ ?_ ?_
      · (first | refine Ent.ofA [] ?_ | refine Ent.ofC [] ?_) <;> (repeat' (first | exact trivial | refine HpLe.dd ?_ | refine HpLe.mk rfl (by simp) rfl (fun h => AObj.noConfusion h) ?_ ?_ | refine And.intro ?_ ?_ | exact cl9 | refine VLe.pe ?_ | refine VLe.agg ?_ | refine VLe.tup ?_ | refine VLe.fn ?_ ?_ | refine VLeL.cons ?_ ?_ | exact VLeL.nil | exact OLe.row _ _ | rfl | refine VLe.rsle rfl ?_ ?_ ?_ | refine OLe.rowe2 ?_ ?_ | refine OLe.mape ?_ ?_ | refine OLe.iter0 ?_ | refine OLe.itere ?_ ?_)) <;> try (first | (simp; done) | (congr 1; omega) | (congr 1; (first | (simp; done) | (simp; omega))))
        all_goals (refine congrArg eI ?_; rw [hsz]; show _ = ((1 + s.size / 200 : Nat) : Int); omega)
      rintro ⟨⟨i, m⟩, hi, hm, hq⟩
      have hi : i ≤ l.length := hi
      have hm : m ≤ 5629499534214 + 1000 * d + 3000 := hm
      have hq : cntL (cnt d) m (l.drop i) = cntL (cnt d) (1 + s.size / 200) l := hq
      cases hxi : l[i]? with
      | none =>
        have hge : l.length ≤ i := List.getElem?_eq_none_iff.1 hxi
        have hno2 : ¬ ((i : Int) < ((l.map eV).length : Int)) := by rw [List.length_map]; omega
        rw [List.drop_eq_nil_of_le hge] at hq
        have hq : m = cntL (cnt d) (1 + s.size / 200) l := hq
        repeat' (first | exact cl1 | ((with_reducible show Exists _); refine exU8 ?_) | ((fail_if_success with_reducible first | show LeG _ _ | show Lp _ _ _ _ | show Exists _ | show callX _ _ _ _ _ | show (_ : Int) ≤ _ | show (_ : Int) < _ | show (_ : Nat) ≤ _ | show (_ : Nat) < _); (conv => whnf) <;> (first | exact cl2 | refine Br.dec (fun hc => absurd hc hno2) (fun hc => ?_) | refine XAlt.l ?_ | refine Sq.pr ?_ | refine Br.dec (fun hc => ?_) (fun hc => ?_) | refine Br.tt ?_ | refine Br.ff ?_ | refine Br.not ?_ | refine Br.mk (fun hc => ?_) (fun hc => ?_) | refine Opt.nn ?_ | refine Opt.ss ?_ | refine AltA.l ?_ | exact PV.leL_nil | refine PV.leL_cons ?_ ?_ | refine And.intro ?_ ?_ | refine ix_map (fun x hx => ?_) | refine exU8 ?_ | refine nilc (fun hn => ?_) ?_ | exact cl3 | refine imp0 (fun hpos => ?_) | refine fits_i64 ?_ ?_ | exact rfl | (with_reducible first | show LeG _ _ | show Lp _ _ _ _ | show Exists _ | show callX _ _ _ _ _)))) <;> (try exact cl5)
        exact LeG.of (congrArg (fun n : Nat => eI (n : Int)) hq)
      | some x =>
        have hlt : i < l.length := (List.getElem?_eq_some_iff.1 hxi).1
        have hyes : ((i : Int) < ((l.map eV).length : Int)) := by rw [List.length_map]; omega
        by_cases hm1 : m ≤ 1000
        · have hm1' : (m : Int) ≤ 1000 := by omega
          have hxm := List.mem_of_getElem? hxi
          have q1 := ih x (strsL_mem h2 hxm)
          rw [show (d : Int) - 1 = ((d + 1 : Nat) : Int) - 1 - 1 by omega] at q1
          have hcx := cnt_le d x (strsL_mem h2 hxm)
          rw [cntL_take hxi hm1] at hq
          repeat' (first | exact cl1 | ((with_reducible show Exists _); refine exU8 ?_) | ((with_reducible show callX _ _ _ _ _); (first | refine call_p (q1) (by kernel_rfl) rfl ?_)) | ((fail_if_success with_reducible first | show LeG _ _ | show Lp _ _ _ _ | show Exists _ | show callX _ _ _ _ _ | show (_ : Int) ≤ _ | show (_ : Int) < _ | show (_ : Nat) ≤ _ | show (_ : Nat) < _); (conv => whnf) <;> (first | exact cl2 | refine Br.dec (fun hc => ?_) (fun hc => absurd hyes hc) | refine Br.dec (fun hc => ?_) (fun hc => absurd hm1' hc) | refine ix_v hxi ?_ | refine XAlt.l ?_ | refine Sq.pr ?_ | refine Br.dec (fun hc => ?_) (fun hc => ?_) | refine Br.tt ?_ | refine Br.ff ?_ | refine Br.not ?_ | refine Br.mk (fun hc => ?_) (fun hc => ?_) | refine Opt.nn ?_ | refine Opt.ss ?_ | refine AltA.l ?_ | exact PV.leL_nil | refine PV.leL_cons ?_ ?_ | refine And.intro ?_ ?_ | refine ix_map (fun x hx => ?_) | refine exU8 ?_ | refine nilc (fun hn => ?_) ?_ | exact cl3 | refine imp0 (fun hpos => ?_) | refine fits_i64 ?_ ?_ | exact rfl | (with_reducible first | show LeG _ _ | show Lp _ _ _ _ | show Exists _ | show callX _ _ _ _ _)))) <;> (try exact cl5)
          refine ⟨⟨(i + 1, m + cnt d x), hlt, by show m + cnt d x ≤ _; omega, hq⟩, by show l.length - (i + 1) < l.length - i; omega, ?_⟩
          (first | refine Ent.ofA [] ?_ | refine Ent.ofC [] ?_) <;> (repeat' (first | exact trivial | refine HpLe.dd ?_ | refine HpLe.mk rfl (by simp) rfl (fun h => AObj.noConfusion h) ?_ ?_ | refine And.intro ?_ ?_ | exact cl9 | refine VLe.pe ?_ | refine VLe.agg ?_ | refine VLe.tup ?_ | refine VLe.fn ?_ ?_ | refine VLeL.cons ?_ ?_ | exact VLeL.nil | exact OLe.row _ _ | rfl | refine VLe.rsle rfl ?_ ?_ ?_ | refine OLe.rowe2 ?_ ?_ | refine OLe.mape ?_ ?_ | refine OLe.iter0 ?_ | refine OLe.itere ?_ ?_)) <;> try (first | (simp; done) | (congr 1; omega) | (congr 1; (first | (simp; done) | (simp; omega))))
        · have hm1' : ¬ (m : Int) ≤ 1000 := by omega
          rw [cntL_stop hm1] at hq
          repeat' (first | exact cl1 | ((with_reducible show Exists _); refine exU8 ?_) | ((fail_if_success with_reducible first | show LeG _ _ | show Lp _ _ _ _ | show Exists _ | show callX _ _ _ _ _ | show (_ : Int) ≤ _ | show (_ : Int) < _ | show (_ : Nat) ≤ _ | show (_ : Nat) < _); (conv => whnf) <;> (first | exact cl2 | refine Br.dec (fun hc => ?_) (fun hc => absurd hyes hc) | refine Br.dec (fun hc => absurd hc hm1') (fun hc => ?_) | refine XAlt.l ?_ | refine Sq.pr ?_ | refine Br.dec (fun hc => ?_) (fun hc => ?_) | refine Br.tt ?_ | refine Br.ff ?_ | refine Br.not ?_ | refine Br.mk (fun hc => ?_) (fun hc => ?_) | refine Opt.nn ?_ | refine Opt.ss ?_ | refine AltA.l ?_ | exact PV.leL_nil | refine PV.leL_cons ?_ ?_ | refine And.intro ?_ ?_ | refine ix_map (fun x hx => ?_) | refine exU8 ?_ | refine nilc (fun hn => ?_) ?_ | exact cl3 | refine imp0 (fun hpos => ?_) | refine fits_i64 ?_ ?_ | exact rfl | (with_reducible first | show LeG _ _ | show Lp _ _ _ _ | show Exists _ | show callX _ _ _ _ _)))) <;> (try exact cl5)
          exact LeG.of (congrArg (fun n : Nat => eI (n : Int)) hq)
def fewV (v : Vl) : Bool := decide (cnt 21 v ≤ 200)
theorem few_calls (v : Vl) (h : strs v) : PCalls Try.prog 25 [eW v, eI 20] (.bool (fewV v)) := by
  have q1 := count_calls 21 (by decide) v h
  have q1 : PCalls Try.prog 36 [eW v, eI 20] (eI (cnt 21 v)) := q1
  refine PCalls.of (N := 9) (res := [.tmp 4]) mixed Try.func25 rfl rfl rfl (by kernel_rfl) (by simp) [0, 1, 2, 4] ?_
  repeat' (first | exact cl1 | ((with_reducible show Exists _); refine exU8 ?_) | ((with_reducible show callX _ _ _ _ _); (first | refine call_p (q1) (by kernel_rfl) rfl ?_)) | ((fail_if_success with_reducible first | show LeG _ _ | show Lp _ _ _ _ | show Exists _ | show callX _ _ _ _ _ | show (_ : Int) ≤ _ | show (_ : Int) < _ | show (_ : Nat) ≤ _ | show (_ : Nat) < _); (conv => whnf) <;> (first | exact cl2 | refine XAlt.l ?_ | refine Sq.pr ?_ | refine Br.dec (fun hc => ?_) (fun hc => ?_) | refine Br.tt ?_ | refine Br.ff ?_ | refine Br.not ?_ | refine Br.mk (fun hc => ?_) (fun hc => ?_) | refine Opt.nn ?_ | refine Opt.ss ?_ | refine AltA.l ?_ | exact PV.leL_nil | refine PV.leL_cons ?_ ?_ | refine And.intro ?_ ?_ | refine ix_map (fun x hx => ?_) | refine exU8 ?_ | refine nilc (fun hn => ?_) ?_ | exact cl3 | refine imp0 (fun hpos => ?_) | refine fits_i64 ?_ ?_ | exact rfl | (with_reducible first | show LeG _ _ | show Lp _ _ _ _ | show Exists _ | show callX _ _ _ _ _)))) <;> (try exact cl5)
  refine LeG.bool ?_
  unfold fewV
  exact decide_eq_decide.2 (by omega)
theorem fews_calls (l : List Vl) (hl : l.length ≤ 1125899906842624) (h : ∀ x ∈ l, strs x) : PCalls Try.prog 11 [eVL l] (.bool (l.all fewV)) := by
  refine PCalls.of (N := 15) (res := [.tmp 2]) mixed Try.func11 rfl rfl rfl (by kernel_rfl) (by simp) [0, 2, 4, 5, 6, 7, 8, 13] ?_
  repeat' (first | exact cl1 | ((with_reducible show Exists _); refine exU8 ?_) | ((fail_if_success with_reducible first | show LeG _ _ | show Lp _ _ _ _ | show Exists _ | show callX _ _ _ _ _ | show (_ : Int) ≤ _ | show (_ : Int) < _ | show (_ : Nat) ≤ _ | show (_ : Nat) < _); (conv => whnf) <;> (first | exact cl2 | refine XAlt.l ?_ | refine Sq.pr ?_ | refine Br.dec (fun hc => ?_) (fun hc => ?_) | refine Br.tt ?_ | refine Br.ff ?_ | refine Br.not ?_ | refine Br.mk (fun hc => ?_) (fun hc => ?_) | refine Opt.nn ?_ | refine Opt.ss ?_ | refine AltA.l ?_ | exact PV.leL_nil | refine PV.leL_cons ?_ ?_ | refine And.intro ?_ ?_ | refine ix_map (fun x hx => ?_) | refine exU8 ?_ | refine nilc (fun hn => ?_) ?_ | exact cl3 | refine imp0 (fun hpos => ?_) | refine fits_i64 ?_ ?_ | exact rfl | (with_reducible first | show LeG _ _ | show Lp _ _ _ _ | show Exists _ | show callX _ _ _ _ _)))) <;> (try exact cl5)
  refine Wpc.loopB (α := {i : Nat // i ≤ l.length ∧ (l.take i).all fewV = true}) mixed [0, 2, 4, 5, 6, 7, 8, 13] (fun i => [(7, .p (eI i.1))]) (fun i => l.length - i.1) ⟨0, by omega, rfl⟩ ?_ ?_
  · (first | refine Ent.ofA [] ?_ | refine Ent.ofC [] ?_) <;> (repeat' (first | exact trivial | refine HpLe.dd ?_ | refine HpLe.mk rfl (by simp) rfl (fun h => AObj.noConfusion h) ?_ ?_ | refine And.intro ?_ ?_ | exact cl9 | refine VLe.pe ?_ | refine VLe.agg ?_ | refine VLe.tup ?_ | refine VLe.fn ?_ ?_ | refine VLeL.cons ?_ ?_ | exact VLeL.nil | exact OLe.row _ _ | rfl | refine VLe.rsle rfl ?_ ?_ ?_ | refine OLe.rowe2 ?_ ?_ | refine OLe.mape ?_ ?_ | refine OLe.iter0 ?_ | refine OLe.itere ?_ ?_)) <;> try (first | (simp; done) | (congr 1; omega) | (congr 1; (first | (simp; done) | (simp; omega))))
  rintro ⟨i, hi, hq⟩
  have hi : i ≤ l.length := hi
  have hq : (l.take i).all fewV = true := hq
  cases hxi : l[i]? with
  | none =>
    have hge : l.length ≤ i := List.getElem?_eq_none_iff.1 hxi
    have hno : ¬ ((i : Int) < ((l.map eV).length : Int)) := by rw [List.length_map]; omega
    rw [List.take_of_length_le hge] at hq
    rw [hq]
    repeat' (first | exact cl1 | ((with_reducible show Exists _); refine exU8 ?_) | ((fail_if_success with_reducible first | show LeG _ _ | show Lp _ _ _ _ | show Exists _ | show callX _ _ _ _ _ | show (_ : Int) ≤ _ | show (_ : Int) < _ | show (_ : Nat) ≤ _ | show (_ : Nat) < _); (conv => whnf) <;> (first | exact cl2 | refine Br.dec (fun hc => absurd hc hno) (fun hc => ?_) | refine XAlt.l ?_ | refine Sq.pr ?_ | refine Br.dec (fun hc => ?_) (fun hc => ?_) | refine Br.tt ?_ | refine Br.ff ?_ | refine Br.not ?_ | refine Br.mk (fun hc => ?_) (fun hc => ?_) | refine Opt.nn ?_ | refine Opt.ss ?_ | refine AltA.l ?_ | exact PV.leL_nil | refine PV.leL_cons ?_ ?_ | refine And.intro ?_ ?_ | refine ix_map (fun x hx => ?_) | refine exU8 ?_ | refine nilc (fun hn => ?_) ?_ | exact cl3 | refine imp0 (fun hpos => ?_) | refine fits_i64 ?_ ?_ | exact rfl | (with_reducible first | show LeG _ _ | show Lp _ _ _ _ | show Exists _ | show callX _ _ _ _ _)))) <;> (try exact cl5)
  | some x =>
    have hlt : i < l.length := (List.getElem?_eq_some_iff.1 hxi).1
    have hyes : ((i : Int) < ((l.map eV).length : Int)) := by rw [List.length_map]; omega
    have hxm := List.mem_of_getElem? hxi
    have q1 := few_calls x (h x hxm)
    cases hf : fewV x with
    | true =>
      rw [hf] at q1
      have hq2 : (l.take (i + 1)).all fewV = true := by rw [List.take_add_one, hxi]; simp [hq, hf]
      repeat' (first | exact cl1 | ((with_reducible show Exists _); refine exU8 ?_) | ((with_reducible show callX _ _ _ _ _); (first | refine call_p (q1) (by kernel_rfl) rfl ?_)) | ((fail_if_success with_reducible first | show LeG _ _ | show Lp _ _ _ _ | show Exists _ | show callX _ _ _ _ _ | show (_ : Int) ≤ _ | show (_ : Int) < _ | show (_ : Nat) ≤ _ | show (_ : Nat) < _); (conv => whnf) <;> (first | exact cl2 | refine Br.dec (fun hc => ?_) (fun hc => absurd hyes hc) | refine ix_v hxi ?_ | refine XAlt.l ?_ | refine Sq.pr ?_ | refine Br.dec (fun hc => ?_) (fun hc => ?_) | refine Br.tt ?_ | refine Br.ff ?_ | refine Br.not ?_ | refine Br.mk (fun hc => ?_) (fun hc => ?_) | refine Opt.nn ?_ | refine Opt.ss ?_ | refine AltA.l ?_ | exact PV.leL_nil | refine PV.leL_cons ?_ ?_ | refine And.intro ?_ ?_ | refine ix_map (fun x hx => ?_) | refine exU8 ?_ | refine nilc (fun hn => ?_) ?_ | exact cl3 | refine imp0 (fun hpos => ?_) | refine fits_i64 ?_ ?_ | exact rfl | (with_reducible first | show LeG _ _ | show Lp _ _ _ _ | show Exists _ | show callX _ _ _ _ _)))) <;> (try exact cl5)
      refine ⟨⟨i + 1, hlt, hq2⟩, by show l.length - (i + 1) < l.length - i; omega, ?_⟩
      (first | refine Ent.ofA [] ?_ | refine Ent.ofC [] ?_) <;> (repeat' (first | exact trivial | refine HpLe.dd ?_ | refine HpLe.mk rfl (by simp) rfl (fun h => AObj.noConfusion h) ?_ ?_ | refine And.intro ?_ ?_ | exact cl9 | refine VLe.pe ?_ | refine VLe.agg ?_ | refine VLe.tup ?_ | refine VLe.fn ?_ ?_ | refine VLeL.cons ?_ ?_ | exact VLeL.nil | exact OLe.row _ _ | rfl | refine VLe.rsle rfl ?_ ?_ ?_ | refine OLe.rowe2 ?_ ?_ | refine OLe.mape ?_ ?_ | refine OLe.iter0 ?_ | refine OLe.itere ?_ ?_)) <;> try (first | (simp; done) | (congr 1; omega) | (congr 1; (first | (simp; done) | (simp; omega))))
    | false =>
      rw [hf] at q1
      have hq2 : l.all fewV = false := by
        rw [List.all_eq_false]; exact ⟨x, hxm, by rw [hf]; simp⟩
      rw [hq2]
      repeat' (first | exact cl1 | ((with_reducible show Exists _); refine exU8 ?_) | ((with_reducible show callX _ _ _ _ _); (first | refine call_p (q1) (by kernel_rfl) rfl ?_)) | ((fail_if_success with_reducible first | show LeG _ _ | show Lp _ _ _ _ | show Exists _ | show callX _ _ _ _ _ | show (_ : Int) ≤ _ | show (_ : Int) < _ | show (_ : Nat) ≤ _ | show (_ : Nat) < _); (conv => whnf) <;> (first | exact cl2 | refine Br.dec (fun hc => ?_) (fun hc => absurd hyes hc) | refine ix_v hxi ?_ | refine XAlt.l ?_ | refine Sq.pr ?_ | refine Br.dec (fun hc => ?_) (fun hc => ?_) | refine Br.tt ?_ | refine Br.ff ?_ | refine Br.not ?_ | refine Br.mk (fun hc => ?_) (fun hc => ?_) | refine Opt.nn ?_ | refine Opt.ss ?_ | refine AltA.l ?_ | exact PV.leL_nil | refine PV.leL_cons ?_ ?_ | refine And.intro ?_ ?_ | refine ix_map (fun x hx => ?_) | refine exU8 ?_ | refine nilc (fun hn => ?_) ?_ | exact cl3 | refine imp0 (fun hpos => ?_) | refine fits_i64 ?_ ?_ | exact rfl | (with_reducible first | show LeG _ _ | show Lp _ _ _ _ | show Exists _ | show callX _ _ _ _ _)))) <;> (try exact cl5)
/-! ### What few parts mean -/
theorem cntL_full {f : Vl → Nat} : ∀ (l : List Vl) (n : Nat), cntL f n l ≤ 1000 → cntL f n l = n + (l.map f).sum
  | [], n, _ => rfl
  | x :: r, n, h => by
    unfold cntL at h ⊢
    by_cases hn : n ≤ 1000
    · rw [if_pos hn] at h ⊢
      rw [cntL_full r _ h, List.map_cons, List.sum_cons]; omega
    · rw [if_neg hn] at h; omega
theorem sum_mem {f : Vl → Nat} {x : Vl} : ∀ {l : List Vl}, x ∈ l → f x ≤ (l.map f).sum
  | y :: r, h => by
    rw [List.map_cons, List.sum_cons]
    rcases List.mem_cons.1 h with e | e
    · subst e; omega
    · have := sum_mem (f := f) e; omega
theorem encs_sum {f : Vl → Nat} : ∀ (l : List Vl), (∀ x ∈ l, (enc x).length ≤ 300 * f x) → (encs l).length ≤ 300 * (l.map f).sum
  | [], _ => Nat.zero_le _
  | x :: r, h => by
    have h1 := encs_sum r fun y hy => h y (by simp [hy])
    have h2 := h x (by simp)
    rw [encs, List.length_append, List.map_cons, List.sum_cons]; omega
theorem cnt_facts : ∀ d v, cnt d v ≤ 200 → nums v → lens 5000 v ∧ dep v ≤ d ∧ (enc v).length ≤ 300 * cnt d v
  | 0, v, h, _ => by have h : 1000 ≤ 200 := h; omega
  | d + 1, v, h, hn => by
    obtain ⟨k, n, s, l⟩ := v
    have he : cnt (d + 1) (.mk k n s l) = if l.length > 150 then 1000 else cntL (cnt d) (1 + s.size / 200) l := rfl
    rw [he] at h ⊢
    by_cases hl : l.length > 150
    · rw [if_pos hl] at h; omega
    · rw [if_neg hl] at h ⊢
      have hf := cntL_full l _ (show cntL (cnt d) (1 + s.size / 200) l ≤ 1000 by omega)
      rw [hf] at h ⊢
      have each : ∀ x ∈ l, lens 5000 x ∧ dep x ≤ d ∧ (enc x).length ≤ 300 * cnt d x := fun x hx => cnt_facts d x (by have := sum_mem (f := cnt d) hx; omega) (numsL_mem hn.2 hx)
      have lensOf : ∀ {l : List Vl}, (∀ x ∈ l, lens 5000 x) → lensL 5000 l := by
        intro l
        induction l with
        | nil => intro _; trivial
        | cons a r ih => exact fun h => ⟨h a (by simp), ih fun x hx => h x (by simp [hx])⟩
      have depsOf : ∀ {l : List Vl}, (∀ x ∈ l, dep x ≤ d) → deps l ≤ d := by
        intro l
        induction l with
        | nil => intro _; exact Nat.zero_le _
        | cons a r ih =>
          intro h
          have h1 := h a (by simp)
          have h2 := ih fun x hx => h x (by simp [hx])
          rw [deps]; omega
      refine ⟨⟨by omega, lensOf fun x hx => (each x hx).1⟩, ?_, ?_⟩
      · rw [dep]
        split
        · have := depsOf fun x hx => (each x hx).2.1
          omega
        · omega
      · rw [enc]
        split
        · have := nml_len64 (zz_lt hn.1)
          simp only [List.length_cons]; omega
        · split
          · by_cases hs : s.size < 18446744073709551616
            · have h1 := nml_len64 hs
              have h2 := bytes_len s
              simp only [List.length_cons, List.length_append]; omega
            · omega
          · have h1 := nml_len64 (u := l.length) (by omega)
            have h2 := encs_sum l fun x hx => (each x hx).2.2
            simp only [List.length_cons, List.length_append]; omega
theorem few_ok {v : Vl} (h : fewV v = true) (hn : nums v) : Ok v ∧ dep v ≤ 21 ∧ (enc v).length ≤ 60000 := by
  have hc := of_decide_eq_true h
  obtain ⟨h1, h2, h3⟩ := cnt_facts 21 v hc hn
  exact ⟨⟨⟨h1, by omega⟩, hn, fun _ => by omega⟩, h2, by omega⟩
end Go.Proofs.Ytkgjhghbnocnbaa

namespace Go.Proofs.Ytkgjhghbnocnbaa
open Go Go.Sg
set_option maxRecDepth 100000
set_option maxHeartbeats 20000000
def vA : Vl := .mk 1 (-3) ByteArray.empty []
def vB : Vl := .mk 3 0 ByteArray.empty [.mk 1 100 ByteArray.empty [], .mk 2 0 ⟨#[97, 98]⟩ []]
theorem vA_enc : enc vA = [1, 5] := by
  show enc (.mk 1 (-3) ByteArray.empty []) = _
  rw [enc_int, show zz (-3) = 5 from rfl, nml_lt (by decide)]; rfl
theorem vB_enc : enc vB = [3, 2, 1, 200, 1, 2, 2, 97, 98] := by
  show enc (.mk 3 0 ByteArray.empty [.mk 1 100 ByteArray.empty [], .mk 2 0 ⟨#[97, 98]⟩ []]) = _
  rw [enc_list, encs, encs, encs, enc_int, enc_text, show zz 100 = 200 from rfl, nml_ge (u := 200) (by decide), nml_lt (u := 200 / 128) (by decide)]
  rw [show ([Vl.mk 1 100 ByteArray.empty [], .mk 2 0 ⟨#[97, 98]⟩ []] : List Vl).length = 2 from rfl, nml_lt (u := 2) (by decide), show (⟨#[97, 98]⟩ : ByteArray).size = 2 from rfl, nml_lt (u := 2) (by decide)]
  rfl
theorem vA_ok : Ok vA ∧ chkV vA = 0 := by
  have hf : frm vA = true := rfl
  have hd : dep vA = 0 := rfl
  have hc : chkV vA = 0 := by unfold chkV; rw [hf, hd]; rfl
  exact ⟨⟨⟨⟨by decide, trivial⟩, by rw [hd]; decide⟩, ⟨(by unfold I64; omega), trivial⟩, fun _ => by rw [vA_enc]; decide⟩, hc⟩
theorem vB_ok : Ok vB ∧ chkV vB = 0 := by
  have hf : frm vB = true := by
    show frm (.mk 3 0 ByteArray.empty [.mk 1 100 ByteArray.empty [], .mk 2 0 ⟨#[97, 98]⟩ []]) = true
    rw [frm_list]; rfl
  have hd : dep vB = 1 := rfl
  have hc : chkV vB = 0 := by unfold chkV; rw [hf, hd]; rfl
  exact ⟨⟨⟨⟨by decide, ⟨by decide, trivial⟩, ⟨by decide, trivial⟩, trivial⟩, by rw [hd]; decide⟩, ⟨(by unfold I64; omega), ⟨(by unfold I64; omega), trivial⟩, ⟨(by unfold I64; omega), trivial⟩, trivial⟩, fun _ => by rw [vB_enc]; decide⟩, hc⟩
theorem encA_ok {v : Vl} (h : chkV v = 0) : encA v = (enc v, 0) := by unfold encA; rw [if_pos h]
theorem decA_enc {v : Vl} (hc : chkV v = 0) (hn : nums v) (hz : (enc v).length < 18446744073709551616) : decA (enc v) = (v, 0) := by
  have hf := chk_frm hc
  have hd : dep v ≤ 16 := by
    unfold chkV at hc; rw [hf] at hc; simp only [if_true] at hc
    exact Classical.byContradiction fun h => by rw [if_pos (by omega)] at hc; cases hc
  have := valD_of v 16 hf hn hd hz []
  rw [List.append_nil] at this
  unfold decA; rw [this]; rfl
theorem bad1 : decA [] = (vZ, 10) := rfl
theorem bad2 : decA [1, 128, 0] = (vZ, 10) := rfl
theorem bad3 : decA [1, 5, 0] = (vZ, 10) := rfl
theorem bad4 : decA [2, 3, 97] = (vZ, 10) := rfl
theorem sane_calls : PCalls Try.prog 10 [] (.bool true) := by
  have p1 := int_calls (-3)
  have p2 := encode_calls vA vA_ok.1
  rw [encA_ok vA_ok.2, vA_enc] at p2
  have p3 := int_calls 100
  have p4 := text_calls ⟨#[97, 98]⟩
  have p5 := list_calls [.mk 1 100 ByteArray.empty [], .mk 2 0 ⟨#[97, 98]⟩ []]
  have p6 := encode_calls vB vB_ok.1
  rw [encA_ok vB_ok.2] at p6
  have p7 := decode_calls (enc vB) (by rw [vB_enc]; decide) (enc_B8 vB)
  rw [decA_enc vB_ok.2 vB_ok.1.nm (by rw [vB_enc]; decide)] at p7
  rw [vB_enc] at p6 p7
  have p8 := size_calls vB vB_ok.1
  rw [encA_ok vB_ok.2, vB_enc] at p8
  have p9 := same_calls vB vB_ok.1.sm.1 vB vB_ok.1.sm.1
  rw [eqV_t rfl] at p9
  have p10 := text_calls ByteArray.empty
  have p11 := list_calls []
  have p12 := same_calls (.mk 2 0 ByteArray.empty []) ⟨by decide, trivial⟩ (.mk 3 0 ByteArray.empty []) ⟨by decide, trivial⟩
  rw [eqV_f (fun e => by injection e with e; cases e)] at p12
  have s1 : strOfNums [1, 5] = ⟨#[1, 5]⟩ := rfl
  have s2 : strOfNums [3, 2, 1, 200, 1, 2, 2, 97, 98] = ⟨#[3, 2, 1, 200, 1, 2, 2, 97, 98]⟩ := rfl
  have s3 : ((([3, 2, 1, 200, 1, 2, 2, 97, 98] : List Int).length : Nat) : Int) = 9 := rfl
  refine PCalls.of (N := 95) (res := [.tmp 0]) mixed Try.func10 rfl rfl rfl (by kernel_rfl) (by simp) [0, 1, 2, 3, 4, 5, 6, 7, 8, 9, 11, 13, 76, 77, 78, 79, 80, 90] ?_
  repeat' (first | exact cl1 | ((with_reducible show Exists _); refine exU8 ?_) | ((with_reducible show callX _ _ _ _ _); (first | refine call_p (p1) (by kernel_rfl) rfl ?_ | refine call_p (p2) (by kernel_rfl) rfl ?_ | refine call_p (p3) (by kernel_rfl) rfl ?_ | refine call_p (p4) (by kernel_rfl) rfl ?_ | (refine call_z (p5) (by kernel_rfl) rfl ?_; (repeat' (first | exact PV.leL_nil | refine PV.leL_cons ?_ ?_ | refine And.intro ?_ ?_ | exact Nat.zero_lt_succ _ | exact Nat.le_of_ble_eq_true rfl | exact PV.le_refl _ | exact PV.le_nil _ _ _ | exact PV.le_clip _ _ _ | refine PV.le_agg ?_ | refine PV.le_tup ?_ | rfl)); fail_if_success (any_goals (refine PV.le_of ?_))) | refine call_p (p6) (by kernel_rfl) rfl ?_ | refine call_p (p7) (by kernel_rfl) rfl ?_ | refine call_p (p8) (by kernel_rfl) rfl ?_ | refine call_p (p9) (by kernel_rfl) rfl ?_ | refine call_p (p10) (by kernel_rfl) rfl ?_ | (refine call_z (p11) (by kernel_rfl) rfl ?_; (repeat' (first | exact PV.leL_nil | refine PV.leL_cons ?_ ?_ | refine And.intro ?_ ?_ | exact Nat.zero_lt_succ _ | exact Nat.le_of_ble_eq_true rfl | exact PV.le_refl _ | exact PV.le_nil _ _ _ | exact PV.le_clip _ _ _ | refine PV.le_agg ?_ | refine PV.le_tup ?_ | rfl)); fail_if_success (any_goals (refine PV.le_of ?_))) | refine call_p (p12) (by kernel_rfl) rfl ?_)) | ((fail_if_success with_reducible first | show LeG _ _ | show Lp _ _ _ _ | show Exists _ | show callX _ _ _ _ _ | show (_ : Int) ≤ _ | show (_ : Int) < _ | show (_ : Nat) ≤ _ | show (_ : Nat) < _); (conv => whnf) <;> (first | exact cl2 | refine Br.dec (fun hc => (hc s1).elim) (fun hc => ?_) | refine Br.dec (fun hc => (hc s2).elim) (fun hc => ?_) | refine Br.dec (fun hc => (hc s3).elim) (fun hc => ?_) | refine XAlt.l ?_ | refine Sq.pr ?_ | refine Br.dec (fun hc => ?_) (fun hc => ?_) | refine Br.tt ?_ | refine Br.ff ?_ | refine Br.not ?_ | refine Br.mk (fun hc => ?_) (fun hc => ?_) | refine Opt.nn ?_ | refine Opt.ss ?_ | refine AltA.l ?_ | exact PV.leL_nil | refine PV.leL_cons ?_ ?_ | refine And.intro ?_ ?_ | refine ix_map (fun x hx => ?_) | refine exU8 ?_ | refine nilc (fun hn => ?_) ?_ | exact cl3 | refine imp0 (fun hpos => ?_) | refine fits_i64 ?_ ?_ | exact rfl | (with_reducible first | show LeG _ _ | show Lp _ _ _ _ | show Exists _ | show callX _ _ _ _ _)))) <;> (try exact cl5)
  have d1 := decode_calls [] (by decide) (fun c hc => by cases hc)
  rw [bad1] at d1
  have d2 := decode_calls [1, 128, 0] (by decide) (fun c hc => by simp at hc; omega)
  rw [bad2] at d2
  have d3 := decode_calls [1, 5, 0] (by decide) (fun c hc => by simp at hc; omega)
  rw [bad3] at d3
  have d4 := decode_calls [2, 3, 97] (by decide) (fun c hc => by simp at hc; omega)
  rw [bad4] at d4
  have c1 := check_calls vZ ⟨⟨by decide, trivial⟩, by decide⟩
  rw [show chkV vZ = 1 from rfl] at c1
  refine Wpc.loopB (α := {i : Nat // i ≤ 4}) mixed [0, 1, 2, 3, 4, 5, 6, 7, 8, 9, 11, 13, 76, 77, 78, 79, 80, 90] (fun i => [(79, .p (eI i.1))]) (fun i => 4 - i.1) ⟨0, by omega⟩ ?_ ?_
  · (first | refine Ent.ofA [] ?_ | refine Ent.ofC [] ?_) <;> (repeat' (first | exact trivial | refine HpLe.dd ?_ | refine HpLe.mk rfl (by simp) rfl (fun h => AObj.noConfusion h) ?_ ?_ | refine And.intro ?_ ?_ | exact cl9 | refine VLe.pe ?_ | refine VLe.agg ?_ | refine VLe.tup ?_ | refine VLe.fn ?_ ?_ | refine VLeL.cons ?_ ?_ | exact VLeL.nil | exact OLe.row _ _ | rfl | refine VLe.rsle rfl ?_ ?_ ?_ | refine OLe.rowe2 ?_ ?_ | refine OLe.mape ?_ ?_ | refine OLe.iter0 ?_ | refine OLe.itere ?_ ?_)) <;> try (first | (simp; done) | (congr 1; omega) | (congr 1; (first | (simp; done) | (simp; omega))))
  rintro ⟨i, hi⟩
  have hi : i ≤ 4 := hi
  have hcase : i = 0 ∨ i = 1 ∨ i = 2 ∨ i = 3 ∨ i = 4 := by omega
  rcases hcase with rfl | rfl | rfl | rfl | rfl
  · have hy : ((0 : Nat) : Int) < ((4 : Nat) : Int) := by decide
    repeat' (first | exact cl1 | ((with_reducible show Exists _); refine exU8 ?_) | ((with_reducible show callX _ _ _ _ _); (first | (refine call_z (d1) (by kernel_rfl) rfl ?_; (repeat' (first | exact PV.leL_nil | refine PV.leL_cons ?_ ?_ | refine And.intro ?_ ?_ | exact Nat.zero_lt_succ _ | exact Nat.le_of_ble_eq_true rfl | exact PV.le_refl _ | exact PV.le_nil _ _ _ | exact PV.le_clip _ _ _ | refine PV.le_agg ?_ | refine PV.le_tup ?_ | rfl)); fail_if_success (any_goals (refine PV.le_of ?_))))) | ((fail_if_success with_reducible first | show LeG _ _ | show Lp _ _ _ _ | show Exists _ | show callX _ _ _ _ _ | show (_ : Int) ≤ _ | show (_ : Int) < _ | show (_ : Nat) ≤ _ | show (_ : Nat) < _); (conv => whnf) <;> (first | exact cl2 | refine ix_l rfl ?_ | refine Br.dec (fun hc => ?_) (fun hc => absurd hy hc) | refine XAlt.l ?_ | refine Sq.pr ?_ | refine Br.dec (fun hc => ?_) (fun hc => ?_) | refine Br.tt ?_ | refine Br.ff ?_ | refine Br.not ?_ | refine Br.mk (fun hc => ?_) (fun hc => ?_) | refine Opt.nn ?_ | refine Opt.ss ?_ | refine AltA.l ?_ | exact PV.leL_nil | refine PV.leL_cons ?_ ?_ | refine And.intro ?_ ?_ | refine ix_map (fun x hx => ?_) | refine exU8 ?_ | refine nilc (fun hn => ?_) ?_ | exact cl3 | refine imp0 (fun hpos => ?_) | refine fits_i64 ?_ ?_ | exact rfl | (with_reducible first | show LeG _ _ | show Lp _ _ _ _ | show Exists _ | show callX _ _ _ _ _)))) <;> (try exact cl5)
    all_goals first
    | (exfalso; exact absurd rfl hc)
    | (refine ⟨⟨1, by decide⟩, (by show 4 - 1 < 4 - 0; decide), ?_⟩
       (first | refine Ent.ofA [] ?_ | refine Ent.ofC [] ?_) <;> (repeat' (first | exact trivial | refine HpLe.dd ?_ | refine HpLe.mk rfl (by simp) rfl (fun h => AObj.noConfusion h) ?_ ?_ | refine And.intro ?_ ?_ | exact cl9 | refine VLe.pe ?_ | refine VLe.agg ?_ | refine VLe.tup ?_ | refine VLe.fn ?_ ?_ | refine VLeL.cons ?_ ?_ | exact VLeL.nil | exact OLe.row _ _ | rfl | refine VLe.rsle rfl ?_ ?_ ?_ | refine OLe.rowe2 ?_ ?_ | refine OLe.mape ?_ ?_ | refine OLe.iter0 ?_ | refine OLe.itere ?_ ?_)) <;> try (first | (simp; done) | (congr 1; omega) | (congr 1; (first | (simp; done) | (simp; omega)))))
  · have hy : ((1 : Nat) : Int) < ((4 : Nat) : Int) := by decide
    repeat' (first | exact cl1 | ((with_reducible show Exists _); refine exU8 ?_) | ((with_reducible show callX _ _ _ _ _); (first | (refine call_z (d2) (by kernel_rfl) rfl ?_; (repeat' (first | exact PV.leL_nil | refine PV.leL_cons ?_ ?_ | refine And.intro ?_ ?_ | exact Nat.zero_lt_succ _ | exact Nat.le_of_ble_eq_true rfl | exact PV.le_refl _ | exact PV.le_nil _ _ _ | exact PV.le_clip _ _ _ | refine PV.le_agg ?_ | refine PV.le_tup ?_ | rfl)); fail_if_success (any_goals (refine PV.le_of ?_))))) | ((fail_if_success with_reducible first | show LeG _ _ | show Lp _ _ _ _ | show Exists _ | show callX _ _ _ _ _ | show (_ : Int) ≤ _ | show (_ : Int) < _ | show (_ : Nat) ≤ _ | show (_ : Nat) < _); (conv => whnf) <;> (first | exact cl2 | refine ix_l rfl ?_ | refine Br.dec (fun hc => ?_) (fun hc => absurd hy hc) | refine XAlt.l ?_ | refine Sq.pr ?_ | refine Br.dec (fun hc => ?_) (fun hc => ?_) | refine Br.tt ?_ | refine Br.ff ?_ | refine Br.not ?_ | refine Br.mk (fun hc => ?_) (fun hc => ?_) | refine Opt.nn ?_ | refine Opt.ss ?_ | refine AltA.l ?_ | exact PV.leL_nil | refine PV.leL_cons ?_ ?_ | refine And.intro ?_ ?_ | refine ix_map (fun x hx => ?_) | refine exU8 ?_ | refine nilc (fun hn => ?_) ?_ | exact cl3 | refine imp0 (fun hpos => ?_) | refine fits_i64 ?_ ?_ | exact rfl | (with_reducible first | show LeG _ _ | show Lp _ _ _ _ | show Exists _ | show callX _ _ _ _ _)))) <;> (try exact cl5)
    all_goals first
    | (exfalso; exact absurd rfl hc)
    | (refine ⟨⟨2, by decide⟩, (by show 4 - 2 < 4 - 1; decide), ?_⟩
       (first | refine Ent.ofA [] ?_ | refine Ent.ofC [] ?_) <;> (repeat' (first | exact trivial | refine HpLe.dd ?_ | refine HpLe.mk rfl (by simp) rfl (fun h => AObj.noConfusion h) ?_ ?_ | refine And.intro ?_ ?_ | exact cl9 | refine VLe.pe ?_ | refine VLe.agg ?_ | refine VLe.tup ?_ | refine VLe.fn ?_ ?_ | refine VLeL.cons ?_ ?_ | exact VLeL.nil | exact OLe.row _ _ | rfl | refine VLe.rsle rfl ?_ ?_ ?_ | refine OLe.rowe2 ?_ ?_ | refine OLe.mape ?_ ?_ | refine OLe.iter0 ?_ | refine OLe.itere ?_ ?_)) <;> try (first | (simp; done) | (congr 1; omega) | (congr 1; (first | (simp; done) | (simp; omega)))))
  · have hy : ((2 : Nat) : Int) < ((4 : Nat) : Int) := by decide
    repeat' (first | exact cl1 | ((with_reducible show Exists _); refine exU8 ?_) | ((with_reducible show callX _ _ _ _ _); (first | (refine call_z (d3) (by kernel_rfl) rfl ?_; (repeat' (first | exact PV.leL_nil | refine PV.leL_cons ?_ ?_ | refine And.intro ?_ ?_ | exact Nat.zero_lt_succ _ | exact Nat.le_of_ble_eq_true rfl | exact PV.le_refl _ | exact PV.le_nil _ _ _ | exact PV.le_clip _ _ _ | refine PV.le_agg ?_ | refine PV.le_tup ?_ | rfl)); fail_if_success (any_goals (refine PV.le_of ?_))))) | ((fail_if_success with_reducible first | show LeG _ _ | show Lp _ _ _ _ | show Exists _ | show callX _ _ _ _ _ | show (_ : Int) ≤ _ | show (_ : Int) < _ | show (_ : Nat) ≤ _ | show (_ : Nat) < _); (conv => whnf) <;> (first | exact cl2 | refine ix_l rfl ?_ | refine Br.dec (fun hc => ?_) (fun hc => absurd hy hc) | refine XAlt.l ?_ | refine Sq.pr ?_ | refine Br.dec (fun hc => ?_) (fun hc => ?_) | refine Br.tt ?_ | refine Br.ff ?_ | refine Br.not ?_ | refine Br.mk (fun hc => ?_) (fun hc => ?_) | refine Opt.nn ?_ | refine Opt.ss ?_ | refine AltA.l ?_ | exact PV.leL_nil | refine PV.leL_cons ?_ ?_ | refine And.intro ?_ ?_ | refine ix_map (fun x hx => ?_) | refine exU8 ?_ | refine nilc (fun hn => ?_) ?_ | exact cl3 | refine imp0 (fun hpos => ?_) | refine fits_i64 ?_ ?_ | exact rfl | (with_reducible first | show LeG _ _ | show Lp _ _ _ _ | show Exists _ | show callX _ _ _ _ _)))) <;> (try exact cl5)
    all_goals first
    | (exfalso; exact absurd rfl hc)
    | (refine ⟨⟨3, by decide⟩, (by show 4 - 3 < 4 - 2; decide), ?_⟩
       (first | refine Ent.ofA [] ?_ | refine Ent.ofC [] ?_) <;> (repeat' (first | exact trivial | refine HpLe.dd ?_ | refine HpLe.mk rfl (by simp) rfl (fun h => AObj.noConfusion h) ?_ ?_ | refine And.intro ?_ ?_ | exact cl9 | refine VLe.pe ?_ | refine VLe.agg ?_ | refine VLe.tup ?_ | refine VLe.fn ?_ ?_ | refine VLeL.cons ?_ ?_ | exact VLeL.nil | exact OLe.row _ _ | rfl | refine VLe.rsle rfl ?_ ?_ ?_ | refine OLe.rowe2 ?_ ?_ | refine OLe.mape ?_ ?_ | refine OLe.iter0 ?_ | refine OLe.itere ?_ ?_)) <;> try (first | (simp; done) | (congr 1; omega) | (congr 1; (first | (simp; done) | (simp; omega)))))
  · have hy : ((3 : Nat) : Int) < ((4 : Nat) : Int) := by decide
    repeat' (first | exact cl1 | ((with_reducible show Exists _); refine exU8 ?_) | ((with_reducible show callX _ _ _ _ _); (first | (refine call_z (d4) (by kernel_rfl) rfl ?_; (repeat' (first | exact PV.leL_nil | refine PV.leL_cons ?_ ?_ | refine And.intro ?_ ?_ | exact Nat.zero_lt_succ _ | exact Nat.le_of_ble_eq_true rfl | exact PV.le_refl _ | exact PV.le_nil _ _ _ | exact PV.le_clip _ _ _ | refine PV.le_agg ?_ | refine PV.le_tup ?_ | rfl)); fail_if_success (any_goals (refine PV.le_of ?_))))) | ((fail_if_success with_reducible first | show LeG _ _ | show Lp _ _ _ _ | show Exists _ | show callX _ _ _ _ _ | show (_ : Int) ≤ _ | show (_ : Int) < _ | show (_ : Nat) ≤ _ | show (_ : Nat) < _); (conv => whnf) <;> (first | exact cl2 | refine ix_l rfl ?_ | refine Br.dec (fun hc => ?_) (fun hc => absurd hy hc) | refine XAlt.l ?_ | refine Sq.pr ?_ | refine Br.dec (fun hc => ?_) (fun hc => ?_) | refine Br.tt ?_ | refine Br.ff ?_ | refine Br.not ?_ | refine Br.mk (fun hc => ?_) (fun hc => ?_) | refine Opt.nn ?_ | refine Opt.ss ?_ | refine AltA.l ?_ | exact PV.leL_nil | refine PV.leL_cons ?_ ?_ | refine And.intro ?_ ?_ | refine ix_map (fun x hx => ?_) | refine exU8 ?_ | refine nilc (fun hn => ?_) ?_ | exact cl3 | refine imp0 (fun hpos => ?_) | refine fits_i64 ?_ ?_ | exact rfl | (with_reducible first | show LeG _ _ | show Lp _ _ _ _ | show Exists _ | show callX _ _ _ _ _)))) <;> (try exact cl5)
    all_goals first
    | (exfalso; exact absurd rfl hc)
    | (refine ⟨⟨4, by decide⟩, (by show 4 - 4 < 4 - 3; decide), ?_⟩
       (first | refine Ent.ofA [] ?_ | refine Ent.ofC [] ?_) <;> (repeat' (first | exact trivial | refine HpLe.dd ?_ | refine HpLe.mk rfl (by simp) rfl (fun h => AObj.noConfusion h) ?_ ?_ | refine And.intro ?_ ?_ | exact cl9 | refine VLe.pe ?_ | refine VLe.agg ?_ | refine VLe.tup ?_ | refine VLe.fn ?_ ?_ | refine VLeL.cons ?_ ?_ | exact VLeL.nil | exact OLe.row _ _ | rfl | refine VLe.rsle rfl ?_ ?_ ?_ | refine OLe.rowe2 ?_ ?_ | refine OLe.mape ?_ ?_ | refine OLe.iter0 ?_ | refine OLe.itere ?_ ?_)) <;> try (first | (simp; done) | (congr 1; omega) | (congr 1; (first | (simp; done) | (simp; omega)))))
  · have hn : ¬ (((4 : Nat) : Int) < ((4 : Nat) : Int)) := by decide
    repeat' (first | exact cl1 | ((with_reducible show Exists _); refine exU8 ?_) | ((with_reducible show callX _ _ _ _ _); (first | (refine call_z (c1) (by kernel_rfl) rfl ?_; (repeat' (first | exact PV.leL_nil | refine PV.leL_cons ?_ ?_ | refine And.intro ?_ ?_ | exact Nat.zero_lt_succ _ | exact Nat.le_of_ble_eq_true rfl | exact PV.le_refl _ | exact PV.le_nil _ _ _ | exact PV.le_clip _ _ _ | refine PV.le_agg ?_ | refine PV.le_tup ?_ | rfl)); fail_if_success (any_goals (refine PV.le_of ?_))))) | ((fail_if_success with_reducible first | show LeG _ _ | show Lp _ _ _ _ | show Exists _ | show callX _ _ _ _ _ | show (_ : Int) ≤ _ | show (_ : Int) < _ | show (_ : Nat) ≤ _ | show (_ : Nat) < _); (conv => whnf) <;> (first | exact cl2 | refine Br.dec (fun hc => absurd hc hn) (fun hc => ?_) | refine XAlt.l ?_ | refine Sq.pr ?_ | refine Br.dec (fun hc => ?_) (fun hc => ?_) | refine Br.tt ?_ | refine Br.ff ?_ | refine Br.not ?_ | refine Br.mk (fun hc => ?_) (fun hc => ?_) | refine Opt.nn ?_ | refine Opt.ss ?_ | refine AltA.l ?_ | exact PV.leL_nil | refine PV.leL_cons ?_ ?_ | refine And.intro ?_ ?_ | refine ix_map (fun x hx => ?_) | refine exU8 ?_ | refine nilc (fun hn => ?_) ?_ | exact cl3 | refine imp0 (fun hpos => ?_) | refine fits_i64 ?_ ?_ | exact rfl | (with_reducible first | show LeG _ _ | show Lp _ _ _ _ | show Exists _ | show callX _ _ _ _ _)))) <;> (try exact cl5)
    all_goals exact LeG.bool (decide_eq_true rfl)
end Go.Proofs.Ytkgjhghbnocnbaa

namespace Go.Proofs.Ytkgjhghbnocnbaa
open Go Go.Sg
set_option maxRecDepth 100000
theorem rI : Rdc Try.prog 3 Int (fun n => [eI n]) (fun n => (Lit.int .i64 n).wf = true) := Rdc.int (by kernel_rfl) (by kernel_rfl)
theorem rStr : Rdc Try.prog 9 ByteArray (fun b => [.str b]) (fun b => b.size ≤ reachBytes) := Rdc.str (by kernel_rfl) (by kernel_rfl)
mutual
def okV : Vl → Prop
  | .mk k n s l => (Lit.int .i64 k).wf = true ∧ (Lit.int .i64 n).wf = true ∧ s.size ≤ reachBytes ∧ l.length ≤ reachBytes ∧ okVs l
def okVs : List Vl → Prop
  | [] => True
  | x :: r => okV x ∧ okVs r
end
theorem okVs_iff {l : List Vl} : okVs l ↔ ∀ x ∈ l, okV x := by
  induction l with
  | nil => simp [okVs]
  | cons a r ih => rw [okVs]; simp only [List.mem_cons, forall_eq_or_imp]; rw [ih]
def cV (v : Vl) : List PV := [eI v.kind, eI v.n, .str v.s, .sl 4 false (v.l.map eV)]
theorem eV_cV (v : Vl) : eV v = .agg (cV v) := eV_eq v
theorem rVN : ∀ N, RdcM (fun n => n < N) Try.prog 24 Vl cV okV
  | 0 => ⟨fun x _ => by show 4 = _; kernel_rfl, fun x _ c hc => by
      simp only [cV, List.mem_cons, List.mem_nil_iff, or_false] at hc
      rcases hc with rfl | rfl | rfl | rfl <;> rfl, fun h => absurd h (Nat.not_lt_zero _)⟩
  | N + 1 => by
    have ih := rVN N
    have hs : RdcM (fun n => n < N) Try.prog 22 (List Vl) (fun l => [.sl 4 false (l.map eV)]) (fun l => l.length ≤ reachBytes ∧ ∀ x ∈ l, okV x) :=
      RdcM.slice (e := 24) (sz := 4) (M := fun n => n < N) (M' := fun n => n < N) (fun m h => by omega) (by kernel_rfl) (by kernel_rfl) ih (by kernel_rfl) (by decide) (of_decide_eq_true (by kernel_rfl)) (fun x _ => by rw [eV_cV]; rfl)
    have h := RdcM.struct (P := Try.prog) (t := 24) (M := fun n => n < N + 1) (M' := fun n => n < N) (fun m h => by omega) Try.underlying24 (RdfM.cons rI.toM (RdfM.cons rI.toM (RdfM.cons rStr.toM (RdfM.cons hs RdfM.nil (by kernel_rfl) rfl) (by kernel_rfl) rfl) (by kernel_rfl) rfl) (by kernel_rfl) rfl) (by kernel_rfl)
    exact h.map (fun x => (Vl.mk x.1 x.2.1 x.2.2.1 x.2.2.2.1 : Vl)) (fun w => (w.kind, w.n, w.s, w.l, ())) (fun x => by cases x; rfl) (fun _ _ => rfl)
      (fun x h => by rw [okV]; exact ⟨h.1, h.2.1, h.2.2.1, h.2.2.2.1.1, okVs_iff.2 h.2.2.2.1.2⟩) (fun y h => by cases y; rw [okV] at h; exact ⟨h.1, h.2.1, h.2.2.1, ⟨h.2.2.2.1, okVs_iff.1 h.2.2.2.2⟩, trivial⟩)
theorem rV : Rdc Try.prog 24 Vl cV okV := RdcM.all rVN
theorem aV : Rda Try.prog 24 Vl eW okV := Rda.agg rV (by kernel_rfl)
def okVL (l : List Vl) : Prop := l.length ≤ reachBytes ∧ ∀ x ∈ l, okV x
theorem rVL : Rdc Try.prog 22 (List Vl) (fun l => [eVL l]) okVL :=
  Rdc.slice (e := 24) (sz := 4) (by kernel_rfl) (by kernel_rfl) rV (by kernel_rfl) (by decide) (of_decide_eq_true (by kernel_rfl)) (fun x _ => by rw [eV_cV]; rfl)
theorem aVL : Rda Try.prog 22 (List Vl) eVL okVL := Rda.one rVL (by kernel_rfl)
theorem aI : Rda Try.prog 3 Int eI (fun n => (Lit.int .i64 n).wf = true) := Rda.one rI (by kernel_rfl)
theorem rU8 : Rdc Try.prog 5 Int (fun n => [.int .u8 n]) (fun n => (Lit.int .u8 n).wf = true) := Rdc.int (by kernel_rfl) (by kernel_rfl)
def okBs (l : List Int) : Prop := l.length ≤ reachBytes ∧ ∀ b ∈ l, (Lit.int .u8 b).wf = true
theorem rBs : Rdc Try.prog 27 (List Int) (fun b => [.sl 1 false (b.map (PV.int .u8))]) okBs :=
  Rdc.slice (e := 5) (sz := 1) (by kernel_rfl) (by kernel_rfl) rU8 (by kernel_rfl) (by decide) (of_decide_eq_true (by kernel_rfl)) (fun _ _ => rfl)
theorem aBs : Rda Try.prog 27 (List Int) (fun b => .sl 1 false (b.map (PV.int .u8))) okBs := Rda.one rBs (by kernel_rfl)
theorem wf_u8 {n : Int} (h : (Lit.int .u8 n).wf = true) : 0 ≤ n ∧ n ≤ 255 := by
  simp [Lit.wf, IntKind.min, IntKind.max, IntKind.signed, IntKind.bits] at h; omega
theorem wf_i64 {n : Int} (h : (Lit.int .i64 n).wf = true) : -9223372036854775808 ≤ n ∧ n ≤ 9223372036854775807 := by
  simp [Lit.wf, IntKind.min, IntKind.max, IntKind.signed, IntKind.bits] at h; omega
theorem own : ownKnob Try.prog.godebug = none := by kernel_rfl
end Go.Proofs.Ytkgjhghbnocnbaa
