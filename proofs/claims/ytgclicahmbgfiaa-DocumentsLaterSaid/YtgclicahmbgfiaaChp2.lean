/- A part of the proof: contracts of the functions that the statement reaches. -/
import Derived.Test.YtgclicahmbgfiaaChp1
set_option linter.unusedSimpArgs false
set_option linter.unusedVariables false
set_option linter.unnecessarySimpa false
namespace Go.Proofs.Ytgclicahmbgfiaa.Cd
open Go Go.Sg
set_option maxRecDepth 100000
set_option maxHeartbeats 20000000
/-- Small enough for everything. -/
structure Ok (v : Vl) : Prop where
  sm : Sm v
  nm : nums v
  sz : chkV v = 0 → (enc v).length ≤ 80000000
def encA (v : Vl) : List Int × Int := if chkV v = 0 then (enc v, 0) else ([], chkV v)
theorem chk_frm {v : Vl} (h : chkV v = 0) : frm v = true := by
  unfold chkV at h
  cases hf : frm v with
  | true => rfl
  | false => rw [hf] at h; cases h
theorem kind_of {k n : Int} {s : ByteArray} {l : List Vl} (h : frm (.mk k n s l) = true) : k = 1 ∨ k = 2 ∨ k = 3 := by
  by_cases h1 : k = 1
  · exact .inl h1
  · by_cases h2 : k = 2
    · exact .inr (.inl h2)
    · by_cases h3 : k = 3
      · exact .inr (.inr h3)
      · rw [frm_other h1 h2 h3] at h; cases h
theorem leE {z : Nat} {e : PV} : PV.le (.tup [.sl z true [], e]) (.tup [eB [], e]) := PV.le_tup (PV.leL_cons (PV.le_nil _ _ _) (PV.leL_refl _))
theorem leEnc (L : List Int) : LeG (.tup [.sl 1 false (List.take L.length (List.drop 0 (L.map (PV.int .u8)))), eI 0]) (.tup [eB L, eI 0]) :=
  LeG.of (by rw [List.drop_zero, List.take_of_length_le (by simp)]; rfl)
theorem encode_calls (v : Vl) (h : Ok v) : PCalls Try.prog 46 [eW v] (.tup [eB (encA v).1, eI (encA v).2]) := by
  have q1 := check_calls v h.sm
  unfold encA
  by_cases hc : chkV v = 0
  · rw [if_pos hc]
    rw [hc] at q1
    have hf := chk_frm hc
    have hz := h.sz hc
    have q2 := newWriter_calls
    have hnm := h.nm
    have hln := h.sm.1
    obtain ⟨k, n, s, l⟩ := v
    rcases kind_of hf with e | e | e <;> subst e
    · have q3 := wInt0 n hnm.1 s l
      refine PCalls.of (N := 19) (res := [.tmp 2, .tmp 3]) mixed Try.func46 rfl rfl rfl (by kernel_rfl) (by simp) [0, 1, 2, 3, 4, 8] ?_
      repeat' (first | exact cl1 | ((with_reducible show Exists _); first | exact exHM _ | refine exU8 ?_) | ((with_reducible show callX _ _ _ _ _); (first | refine call_p (q1) (by kernel_rfl) rfl ?_ | refine call_i [] (q2) (by kernel_rfl) rfl rfl (by simp) (by simp) (by simp) (fun _ _ => rfl) (by simp) (by simp [keys]) ?_ | refine call_i [] (q3) (by kernel_rfl) rfl rfl (by simp) (by simp) (by simp) (fun _ _ => rfl) (by simp) (by simp [keys]) ?_)) | ((fail_if_success refine stp ?_); (conv => whnf) <;> (first | exact cl2 | refine XAlt.l ?_ | refine Sq.pr ?_ | refine Br.dec (fun hc => ?_) (fun hc => ?_) | refine Br.tt ?_ | refine Br.ff ?_ | refine Br.not ?_ | refine Br.mk (fun hc => ?_) (fun hc => ?_) | refine Opt.nn ?_ | refine Opt.ss ?_ | refine AltA.l ?_ | exact PV.leL_nil | refine PV.leL_cons ?_ ?_ | refine And.intro ?_ ?_ | refine ix_map (fun x hx => ?_) | refine exU8 ?_ | refine nilc (fun hn => ?_) ?_ | exact cl3 | refine imp0 (fun hpos => ?_) | refine fits_i64 ?_ ?_ | exact rfl | exact trivial | (first | refine stq ?_ | fail)))) <;> (try exact cl5)
      exact leEnc _
    · have hs' : s.size ≤ 90000000 := by
        have := bytes_len s
        rw [enc_text] at hz
        simp only [List.length_cons, List.length_append] at hz; omega
      have q3 := wText0 n s hs' l (by omega)
      refine PCalls.of (N := 19) (res := [.tmp 2, .tmp 3]) mixed Try.func46 rfl rfl rfl (by kernel_rfl) (by simp) [0, 1, 2, 3, 4, 8] ?_
      repeat' (first | exact cl1 | ((with_reducible show Exists _); first | exact exHM _ | refine exU8 ?_) | ((with_reducible show callX _ _ _ _ _); (first | refine call_p (q1) (by kernel_rfl) rfl ?_ | refine call_i [] (q2) (by kernel_rfl) rfl rfl (by simp) (by simp) (by simp) (fun _ _ => rfl) (by simp) (by simp [keys]) ?_ | refine call_i [] (q3) (by kernel_rfl) rfl rfl (by simp) (by simp) (by simp) (fun _ _ => rfl) (by simp) (by simp [keys]) ?_)) | ((fail_if_success refine stp ?_); (conv => whnf) <;> (first | exact cl2 | refine XAlt.l ?_ | refine Sq.pr ?_ | refine Br.dec (fun hc => ?_) (fun hc => ?_) | refine Br.tt ?_ | refine Br.ff ?_ | refine Br.not ?_ | refine Br.mk (fun hc => ?_) (fun hc => ?_) | refine Opt.nn ?_ | refine Opt.ss ?_ | refine AltA.l ?_ | exact PV.leL_nil | refine PV.leL_cons ?_ ?_ | refine And.intro ?_ ?_ | refine ix_map (fun x hx => ?_) | refine exU8 ?_ | refine nilc (fun hn => ?_) ?_ | exact cl3 | refine imp0 (fun hpos => ?_) | refine fits_i64 ?_ ?_ | exact rfl | exact trivial | (first | refine stq ?_ | fail)))) <;> (try exact cl5)
      exact leEnc _
    · have q3 := wList0 _ hf hnm hln rfl hz
      refine PCalls.of (N := 19) (res := [.tmp 2, .tmp 3]) mixed Try.func46 rfl rfl rfl (by kernel_rfl) (by simp) [0, 1, 2, 3, 4, 8] ?_
      repeat' (first | exact cl1 | ((with_reducible show Exists _); first | exact exHM _ | refine exU8 ?_) | ((with_reducible show callX _ _ _ _ _); (first | refine call_p (q1) (by kernel_rfl) rfl ?_ | refine call_i [] (q2) (by kernel_rfl) rfl rfl (by simp) (by simp) (by simp) (fun _ _ => rfl) (by simp) (by simp [keys]) ?_ | refine call_i [512, 513] (q3) (by kernel_rfl) rfl rfl (by decide) cl6 (fun i hi => by match i, hi with | 0, _ => rfl | 1, _ => rfl) cl7 cl8 (by simp [keys]) ?_)) | ((fail_if_success refine stp ?_); (conv => whnf) <;> (first | exact cl2 | refine XAlt.l ?_ | refine Sq.pr ?_ | refine Br.dec (fun hc => ?_) (fun hc => ?_) | refine Br.tt ?_ | refine Br.ff ?_ | refine Br.not ?_ | refine Br.mk (fun hc => ?_) (fun hc => ?_) | refine Opt.nn ?_ | refine Opt.ss ?_ | refine AltA.l ?_ | exact PV.leL_nil | refine PV.leL_cons ?_ ?_ | refine And.intro ?_ ?_ | refine ix_map (fun x hx => ?_) | refine exU8 ?_ | refine nilc (fun hn => ?_) ?_ | exact cl3 | refine imp0 (fun hpos => ?_) | refine fits_i64 ?_ ?_ | exact rfl | exact trivial | (first | refine stq ?_ | fail)))) <;> (try exact cl5)
      exact leEnc _
  · rw [if_neg hc]
    refine PCalls.of (N := 19) (res := [.tmp 2, .tmp 3]) mixed Try.func46 rfl rfl rfl (by kernel_rfl) (by simp) [0, 1, 2, 3, 4, 8] ?_
    repeat' (first | exact cl1 | ((with_reducible show Exists _); first | exact exHM _ | refine exU8 ?_) | ((with_reducible show callX _ _ _ _ _); (first | refine call_p (q1) (by kernel_rfl) rfl ?_)) | ((fail_if_success refine stp ?_); (conv => whnf) <;> (first | exact cl2 | refine Br.dec (fun hh => ?_) (fun hh => absurd hc hh) | refine XAlt.l ?_ | refine Sq.pr ?_ | refine Br.dec (fun hc => ?_) (fun hc => ?_) | refine Br.tt ?_ | refine Br.ff ?_ | refine Br.not ?_ | refine Br.mk (fun hc => ?_) (fun hc => ?_) | refine Opt.nn ?_ | refine Opt.ss ?_ | refine AltA.l ?_ | exact PV.leL_nil | refine PV.leL_cons ?_ ?_ | refine And.intro ?_ ?_ | refine ix_map (fun x hx => ?_) | refine exU8 ?_ | refine nilc (fun hn => ?_) ?_ | exact cl3 | refine imp0 (fun hpos => ?_) | refine fits_i64 ?_ ?_ | exact rfl | exact trivial | (first | refine stq ?_ | fail)))) <;> (try exact cl5)
    all_goals exact LeG.mk leE
theorem rEncode_calls (v : Vl) (h : Ok v) : PCalls Try.prog 51 [eW v] (.tup [eB (encA v).1, eI (encA v).2]) := by
  have q1 := rcheck_calls v h.sm
  unfold encA
  by_cases hc : chkV v = 0
  · rw [if_pos hc]
    rw [hc] at q1
    have q2 := rencode_calls v (chk_frm hc) h.nm h.sm.1 (by have := h.sz hc; omega)
    refine PCalls.of (N := 12) (res := [.tmp 2, .tmp 3]) mixed Try.func51 rfl rfl rfl (by kernel_rfl) (by simp) [0, 1, 2, 3, 4, 8] ?_
    repeat' (first | exact cl1 | ((with_reducible show Exists _); first | exact exHM _ | refine exU8 ?_) | ((with_reducible show callX _ _ _ _ _); (first | refine call_p (q1) (by kernel_rfl) rfl ?_ | refine call_p (q2) (by kernel_rfl) rfl ?_)) | ((fail_if_success refine stp ?_); (conv => whnf) <;> (first | exact cl2 | refine XAlt.l ?_ | refine Sq.pr ?_ | refine Br.dec (fun hc => ?_) (fun hc => ?_) | refine Br.tt ?_ | refine Br.ff ?_ | refine Br.not ?_ | refine Br.mk (fun hc => ?_) (fun hc => ?_) | refine Opt.nn ?_ | refine Opt.ss ?_ | refine AltA.l ?_ | exact PV.leL_nil | refine PV.leL_cons ?_ ?_ | refine And.intro ?_ ?_ | refine ix_map (fun x hx => ?_) | refine exU8 ?_ | refine nilc (fun hn => ?_) ?_ | exact cl3 | refine imp0 (fun hpos => ?_) | refine fits_i64 ?_ ?_ | exact rfl | exact trivial | (first | refine stq ?_ | fail)))) <;> (try exact cl5)
  · rw [if_neg hc]
    refine PCalls.of (N := 12) (res := [.tmp 2, .tmp 3]) mixed Try.func51 rfl rfl rfl (by kernel_rfl) (by simp) [0, 1, 2, 3, 4, 8] ?_
    repeat' (first | exact cl1 | ((with_reducible show Exists _); first | exact exHM _ | refine exU8 ?_) | ((with_reducible show callX _ _ _ _ _); (first | refine call_p (q1) (by kernel_rfl) rfl ?_)) | ((fail_if_success refine stp ?_); (conv => whnf) <;> (first | exact cl2 | refine Br.dec (fun hh => ?_) (fun hh => absurd hc hh) | refine XAlt.l ?_ | refine Sq.pr ?_ | refine Br.dec (fun hc => ?_) (fun hc => ?_) | refine Br.tt ?_ | refine Br.ff ?_ | refine Br.not ?_ | refine Br.mk (fun hc => ?_) (fun hc => ?_) | refine Opt.nn ?_ | refine Opt.ss ?_ | refine AltA.l ?_ | exact PV.leL_nil | refine PV.leL_cons ?_ ?_ | refine And.intro ?_ ?_ | refine ix_map (fun x hx => ?_) | refine exU8 ?_ | refine nilc (fun hn => ?_) ?_ | exact cl3 | refine imp0 (fun hpos => ?_) | refine fits_i64 ?_ ?_ | exact rfl | exact trivial | (first | refine stq ?_ | fail)))) <;> (try exact cl5)
    all_goals exact LeG.mk leE
end Go.Proofs.Ytgclicahmbgfiaa.Cd

namespace Go.Proofs.Ytgclicahmbgfiaa
open Go Go.Sg
set_option maxRecDepth 100000
set_option maxHeartbeats 20000000
open Cd
def vI (n : Int) : Vl := .mk 1 n ⟨#[]⟩ []
def vN (ns : List Int) : Vl := .mk 3 0 ⟨#[]⟩ (ns.map vI)
def vE (n : Int) : PV := .agg [eI 1, eI n, .str ⟨#[]⟩, .sl 0 true []]
def oVv (n : Nat) : List Int → AV
  | [] => .p (.sl 0 true [])
  | _ :: r => .rsl n 4 0 (r.length + 1)
def oHv (n : Nat) : List Int → Heap
  | [] => []
  | a :: r => [(n, .row 4 ((a :: r).map vE))]
theorem PV_le_sl {sz : Nat} {c : Bool} {a b : List PV} (hl : a.length = b.length) (h : ∀ (i : Nat) p q, a[i]? = some p → b[i]? = some q → Go.Sg.okE sz q ∧ PV.leL p.cells q.cells) : PV.le (.sl sz c a) (.sl sz c b) := fun F w v hv => by
  have get : ∀ (i : Nat) q, b[i]? = some q → ∃ p, a[i]? = some p := fun i q hq => ⟨_, List.getElem?_eq_getElem (by have := (List.getElem?_eq_some_iff.1 hq).1; omega)⟩
  cases hv with
  | esl ad cap sz clip h1 h2 h3 =>
    have : b = [] := List.length_eq_zero_iff.1 hl.symm
    subst this
    exact .esl ad cap _ _ h1 h2 h3
  | sl bk off len cap sz clip l cc hb h1 h2 h3 h4 h5 h6 h7 =>
    refine .sl bk off len cap sz c b cc hb (h1.trans hl) h2 h3 h4 (fun i q hq => ?_) (fun i q j y hq hy => ?_) (fun i q j y hq hy => ?_)
    · obtain ⟨p, hp⟩ := get i q hq
      exact (h i p q hp hq).1
    · obtain ⟨p, hp⟩ := get i q hq
      obtain ⟨e1, e2⟩ := (h i p q hp hq).2
      obtain ⟨x, hx⟩ : ∃ x, p.cells[j]? = some x := ⟨_, List.getElem?_eq_getElem (by have := (List.getElem?_eq_some_iff.1 hy).1; omega)⟩
      exact h6 i p j x hp hx
    · obtain ⟨p, hp⟩ := get i q hq
      obtain ⟨e1, e2⟩ := (h i p q hp hq).2
      obtain ⟨x, hx⟩ : ∃ x, p.cells[j]? = some x := ⟨_, List.getElem?_eq_getElem (by have := (List.getElem?_eq_some_iff.1 hy).1; omega)⟩
      exact e2 j x y hx hy F w _ (h7 i p j x hp hx)
theorem vE_le (ns : List Int) : PV.le (.sl 4 false (ns.map vE)) (.sl 4 false ((ns.map vI).map eV)) := by
  refine PV_le_sl (by simp) fun i p q hp hq => ?_
  rw [List.getElem?_map] at hp hq
  obtain ⟨n, hn, rfl⟩ := Option.map_eq_some_iff.1 hp
  rw [List.getElem?_map, hn] at hq
  injection hq with hq
  subst hq
  rw [eV_eq]
  refine ⟨?_, ?_⟩
  · exact ⟨rfl, fun c hc => by
      have hc : c ∈ [eI 1, eI n, PV.str ⟨#[]⟩, PV.sl 4 false []] := hc
      simp only [List.mem_cons, List.not_mem_nil, or_false] at hc
      rcases hc with rfl | rfl | rfl | rfl <;> rfl⟩
  · exact PV.leL_cons (PV.le_refl _) (PV.leL_cons (PV.le_refl _) (PV.leL_cons (PV.le_refl _) (PV.leL_cons (PV.le_nil _ _ _) PV.leL_nil)))
theorem numbers_calls (ns : List Int) (hl : ns.length < 1000000) : PCalls Try.prog 45 [eIs ns] (eW (vN ns)) := by
  refine PCalls.of (N := 22) (res := [.cell 2 57]) mixed Try.func45 rfl rfl rfl (by kernel_rfl) (by simp) [0, 2, 3, 5, 7, 8, 9, 10] ?_
  repeat' (first | exact cl1 | ((with_reducible show Exists _); first | exact exHM _ | refine exU8 ?_) | ((fail_if_success refine stp ?_); (conv => whnf) <;> (first | exact cl2 | refine XAlt.l ?_ | refine Sq.pr ?_ | refine Br.dec (fun hc => ?_) (fun hc => ?_) | refine Br.tt ?_ | refine Br.ff ?_ | refine Br.not ?_ | refine Br.mk (fun hc => ?_) (fun hc => ?_) | refine Opt.nn ?_ | refine Opt.ss ?_ | refine AltA.l ?_ | exact PV.leL_nil | refine PV.leL_cons ?_ ?_ | refine And.intro ?_ ?_ | refine ix_map (fun x hx => ?_) | refine exU8 ?_ | refine nilc (fun hn => ?_) ?_ | exact cl3 | refine imp0 (fun hpos => ?_) | refine fits_i64 ?_ ?_ | exact rfl | exact trivial | (first | refine stq ?_ | fail)))) <;> (try exact cl5)
  refine Wpc.loopA (α := {i : Nat // i ≤ ns.length}) mixed [0, 2, 3, 5, 7, 8, 9, 10] (fun i => [(9, .p (eI i.1))]) (fun i => (128, .cells [.p (eI 3), .p (eI 0), .p (.str ⟨#[]⟩), oVv 1 (ns.take i.1)]) :: oHv 1 (ns.take i.1)) (fun _ => 0) (fun i => ns.length - i.1) ⟨0, by omega⟩ ?_ ?_
  · (first | refine Ent.ofA [] ?_ | refine Ent.ofC [] ?_) <;> (repeat' (first | exact trivial | refine HpLe.dd ?_ | refine HpLe.mk rfl (by simp) rfl (fun h => AObj.noConfusion h) ?_ ?_ | refine And.intro ?_ ?_ | exact cl9 | refine VLe.pe ?_ | refine VLe.agg ?_ | refine VLe.tup ?_ | refine VLe.fn ?_ ?_ | refine VLeL.cons ?_ ?_ | exact VLeL.nil | exact OLe.row _ _ | rfl | refine VLe.rsle rfl ?_ ?_ ?_ | refine OLe.rowe2 ?_ ?_ | refine OLe.mape ?_ ?_ | refine OLe.iter0 ?_ | refine OLe.itere ?_ ?_ | refine OLe.chane ?_ ?_ | refine OLe.mapSe ?_ ?_ ?_ | exact OLe.mapS0 rfl)) <;> try (first | (simp; done) | (congr 1; omega) | (congr 1; (first | (simp; done) | (simp; omega))))
  rintro ⟨i, hi⟩
  have hi : i ≤ ns.length := hi
  show lpE [(9, _)] _ _ fun e => lpH ((128, .cells [.p (eI 3), .p (eI 0), .p (.str ⟨#[]⟩), oVv 1 (ns.take i)]) :: oHv 1 (ns.take i)) _ [] fun h => _
  cases hxi : ns[i]? with
  | some y =>
    have hlt : i < ns.length := (List.getElem?_eq_some_iff.1 hxi).1
    have hyes : ((i : Int) < ((ns.map eI).length : Int)) := by rw [List.length_map]; omega
    have hta : ns.take (i + 1) = ns.take i ++ [y] := by rw [List.take_add_one, hxi]; rfl
    cases hG : ns.take i with
    | nil =>
      repeat' (first | exact cl1 | ((with_reducible show Exists _); first | exact exHM _ | refine exU8 ?_) | ((fail_if_success refine stp ?_); (conv => whnf) <;> (first | exact cl2 | refine Br.dec (fun hc => ?_) (fun hc => absurd hyes hc) | refine XAlt.l ?_ | refine Sq.pr ?_ | refine Br.dec (fun hc => ?_) (fun hc => ?_) | refine Br.tt ?_ | refine Br.ff ?_ | refine Br.not ?_ | refine Br.mk (fun hc => ?_) (fun hc => ?_) | refine Opt.nn ?_ | refine Opt.ss ?_ | refine AltA.l ?_ | exact PV.leL_nil | refine PV.leL_cons ?_ ?_ | refine And.intro ?_ ?_ | refine ix_map (fun x hx => ?_) | refine exU8 ?_ | refine nilc (fun hn => ?_) ?_ | exact cl3 | refine imp0 (fun hpos => ?_) | refine fits_i64 ?_ ?_ | exact rfl | exact trivial | (first | refine stq ?_ | fail)))) <;> (try exact cl5)
      all_goals (
        have hx : ns[i]? = some x := hx
        rw [hxi] at hx; injection hx with hx; subst hx)
      refine ⟨⟨i + 1, hlt⟩, by show ns.length - (i + 1) < ns.length - i; omega, ?_⟩
      show Ent _ _ (hdS [0, 2, 3, 5, 7, 8, 9, 10] _ _ _ [(9, .p (eI ((i + 1 : Nat) : Int)))] ((128, .cells [.p (eI 3), .p (eI 0), .p (.str ⟨#[]⟩), oVv 1 (ns.take (i + 1))]) :: oHv 1 (ns.take (i + 1))) _)
      rw [hta, hG]
      (first | refine Ent.ofA [] ?_ | refine Ent.ofC [] ?_) <;> (repeat' (first | exact trivial | refine HpLe.dd ?_ | refine HpLe.mk rfl (by simp) rfl (fun h => AObj.noConfusion h) ?_ ?_ | refine And.intro ?_ ?_ | exact cl9 | refine VLe.pe ?_ | refine VLe.agg ?_ | refine VLe.tup ?_ | refine VLe.fn ?_ ?_ | refine VLeL.cons ?_ ?_ | exact VLeL.nil | exact OLe.row _ _ | rfl | refine VLe.rsle rfl ?_ ?_ ?_ | refine OLe.rowe2 ?_ ?_ | refine OLe.mape ?_ ?_ | refine OLe.iter0 ?_ | refine OLe.itere ?_ ?_ | refine OLe.chane ?_ ?_ | refine OLe.mapSe ?_ ?_ ?_ | exact OLe.mapS0 rfl)) <;> try (first | (simp; done) | (congr 1; omega) | (congr 1; (first | (simp; done) | (simp; omega))))
    | cons g gr =>
      have hgl : gr.length < 1000000 := by have h : (ns.take i).length ≤ ns.length := by rw [List.length_take]; omega
                                           rw [hG] at h; simp at h; omega
      repeat' (first | exact cl1 | ((with_reducible show Exists _); first | exact exHM _ | refine exU8 ?_) | ((fail_if_success refine stp ?_); (conv => whnf) <;> (first | exact cl2 | refine Br.dec (fun hc => ?_) (fun hc => absurd hyes hc) | refine XAlt.l ?_ | refine Sq.pr ?_ | refine Br.dec (fun hc => ?_) (fun hc => ?_) | refine Br.tt ?_ | refine Br.ff ?_ | refine Br.not ?_ | refine Br.mk (fun hc => ?_) (fun hc => ?_) | refine Opt.nn ?_ | refine Opt.ss ?_ | refine AltA.l ?_ | exact PV.leL_nil | refine PV.leL_cons ?_ ?_ | refine And.intro ?_ ?_ | refine ix_map (fun x hx => ?_) | refine exU8 ?_ | refine nilc (fun hn => ?_) ?_ | exact cl3 | refine imp0 (fun hpos => ?_) | refine fits_i64 ?_ ?_ | exact rfl | exact trivial | (first | refine stq ?_ | fail)))) <;> (try exact cl5)
      all_goals (
        have hx : ns[i]? = some x := hx
        rw [hxi] at hx; injection hx with hx; subst hx)
      refine ⟨⟨i + 1, hlt⟩, by show ns.length - (i + 1) < ns.length - i; omega, ?_⟩
      show Ent _ _ (hdS [0, 2, 3, 5, 7, 8, 9, 10] _ _ _ [(9, .p (eI ((i + 1 : Nat) : Int)))] ((128, .cells [.p (eI 3), .p (eI 0), .p (.str ⟨#[]⟩), oVv 1 (ns.take (i + 1))]) :: oHv 1 (ns.take (i + 1))) _)
      rw [hta, hG]
      (first | refine Ent.ofA [] ?_ | refine Ent.ofC [] ?_) <;> (repeat' (first | exact trivial | refine HpLe.dd ?_ | refine HpLe.mk rfl (by simp) rfl (fun h => AObj.noConfusion h) ?_ ?_ | refine And.intro ?_ ?_ | exact cl9 | refine VLe.pe ?_ | refine VLe.agg ?_ | refine VLe.tup ?_ | refine VLe.fn ?_ ?_ | refine VLeL.cons ?_ ?_ | exact VLeL.nil | exact OLe.row _ _ | rfl | refine VLe.rsle rfl ?_ ?_ ?_ | refine OLe.rowe2 ?_ ?_ | refine OLe.mape ?_ ?_ | refine OLe.iter0 ?_ | refine OLe.itere ?_ ?_ | refine OLe.chane ?_ ?_ | refine OLe.mapSe ?_ ?_ ?_ | exact OLe.mapS0 rfl)) <;> try (first | (simp; done) | (congr 1; omega) | (congr 1; (first | (simp; done) | (simp; omega))))
      all_goals (try (show List.map vE (g :: gr) ++ [vE y] = List.map vE (g :: (gr ++ [y])); simp; done))
  | none =>
    have hge : ns.length ≤ i := List.getElem?_eq_none_iff.1 hxi
    have hno : ¬ ((i : Int) < ((ns.map eI).length : Int)) := by rw [List.length_map]; omega
    have hil : ns.take i = ns := List.take_of_length_le hge
    cases hG : ns.take i with
    | nil =>
      have h0 : ns = [] := by rw [← hil, hG]
      repeat' (first | exact cl1 | ((with_reducible show Exists _); first | exact exHM _ | refine exU8 ?_) | ((fail_if_success refine stp ?_); (conv => whnf) <;> (first | exact cl2 | refine Br.dec (fun hc => absurd hc hno) (fun hc => ?_) | refine XAlt.l ?_ | refine Sq.pr ?_ | refine Br.dec (fun hc => ?_) (fun hc => ?_) | refine Br.tt ?_ | refine Br.ff ?_ | refine Br.not ?_ | refine Br.mk (fun hc => ?_) (fun hc => ?_) | refine Opt.nn ?_ | refine Opt.ss ?_ | refine AltA.l ?_ | exact PV.leL_nil | refine PV.leL_cons ?_ ?_ | refine And.intro ?_ ?_ | refine ix_map (fun x hx => ?_) | refine exU8 ?_ | refine nilc (fun hn => ?_) ?_ | exact cl3 | refine imp0 (fun hpos => ?_) | refine fits_i64 ?_ ?_ | exact rfl | exact trivial | (first | refine stq ?_ | fail)))) <;> (try exact cl5)
      rw [h0]
      exact LeG.mk (PV.le_agg (PV.leL_cons (PV.le_refl _) (PV.leL_cons (PV.le_refl _) (PV.leL_cons (PV.le_refl _) (PV.leL_cons (PV.le_nil _ _ _) PV.leL_nil)))))
    | cons g gr =>
      have hns : ns = g :: gr := by rw [← hil, hG]
      repeat' (first | exact cl1 | ((with_reducible show Exists _); first | exact exHM _ | refine exU8 ?_) | ((fail_if_success refine stp ?_); (conv => whnf) <;> (first | exact cl2 | refine Br.dec (fun hc => absurd hc hno) (fun hc => ?_) | refine XAlt.l ?_ | refine Sq.pr ?_ | refine Br.dec (fun hc => ?_) (fun hc => ?_) | refine Br.tt ?_ | refine Br.ff ?_ | refine Br.not ?_ | refine Br.mk (fun hc => ?_) (fun hc => ?_) | refine Opt.nn ?_ | refine Opt.ss ?_ | refine AltA.l ?_ | exact PV.leL_nil | refine PV.leL_cons ?_ ?_ | refine And.intro ?_ ?_ | refine ix_map (fun x hx => ?_) | refine exU8 ?_ | refine nilc (fun hn => ?_) ?_ | exact cl3 | refine imp0 (fun hpos => ?_) | refine fits_i64 ?_ ?_ | exact rfl | exact trivial | (first | refine stq ?_ | fail)))) <;> (try exact cl5)
      rw [hns]
      refine LeG.mk (PV.le_agg (PV.leL_cons (PV.le_refl _) (PV.leL_cons (PV.le_refl _) (PV.leL_cons (PV.le_refl _) (PV.leL_cons ?_ PV.leL_nil)))))
      rw [List.drop_zero, List.take_of_length_le (by simp)]
      exact vE_le (g :: gr)
theorem numbers_icalls (ns : List Int) (hl : ns.length < 1000000) (h0 : ns ≠ []) : ICalls Try.prog 45 1 [(0, .row 1 (ns.map eI))] [.rsl 0 1 0 ns.length] (.agg [.p (eI 3), .p (eI 0), .p (.str ⟨#[]⟩), .rsl 1 4 0 ns.length]) [(0, .row 1 (ns.map eI)), (1, .row 4 (ns.map vE))] := by
  refine ICalls.of (N := 22) (res := [.cell 2 57]) mixed Try.func45 rfl rfl rfl (by kernel_rfl) (by simp) [0, 2, 3, 5, 7, 8, 9, 10] (Nat.le_refl _) ?_
  repeat' (first | exact cl1 | ((with_reducible show Exists _); first | exact exHM _ | refine exU8 ?_) | ((fail_if_success refine stp ?_); (conv => whnf) <;> (first | exact cl2 | refine XAlt.l ?_ | refine Sq.pr ?_ | refine Br.dec (fun hc => ?_) (fun hc => ?_) | refine Br.tt ?_ | refine Br.ff ?_ | refine Br.not ?_ | refine Br.mk (fun hc => ?_) (fun hc => ?_) | refine Opt.nn ?_ | refine Opt.ss ?_ | refine AltA.l ?_ | exact PV.leL_nil | refine PV.leL_cons ?_ ?_ | refine And.intro ?_ ?_ | refine ix_map (fun x hx => ?_) | refine exU8 ?_ | refine nilc (fun hn => ?_) ?_ | exact cl3 | refine imp0 (fun hpos => ?_) | refine fits_i64 ?_ ?_ | exact rfl | exact trivial | (first | refine stq ?_ | fail)))) <;> (try exact cl5)
  refine Wpc.loopA (α := {i : Nat // i ≤ ns.length}) mixed [0, 2, 3, 5, 7, 8, 9, 10] (fun i => [(9, .p (eI i.1))]) (fun i => (129, .cells [.p (eI 3), .p (eI 0), .p (.str ⟨#[]⟩), oVv 7 (ns.take i.1)]) :: oHv 7 (ns.take i.1)) (fun _ => 0) (fun i => ns.length - i.1) ⟨0, by omega⟩ ?_ ?_
  · (refine Ent.ofAK [] ?_) <;> (repeat' (first | exact trivial | refine HpLe.dd ?_ | refine HpLe.mk rfl (by simp) rfl (fun h => AObj.noConfusion h) ?_ ?_ | refine And.intro ?_ ?_ | exact cl9 | refine VLe.pe ?_ | refine VLe.agg ?_ | refine VLe.tup ?_ | refine VLe.fn ?_ ?_ | refine VLeL.cons ?_ ?_ | exact VLeL.nil | exact OLe.row _ _ | rfl | refine VLe.rsle rfl ?_ ?_ ?_ | refine OLe.rowe2 ?_ ?_ | refine OLe.mape ?_ ?_ | refine OLe.iter0 ?_ | refine OLe.itere ?_ ?_ | refine OLe.chane ?_ ?_ | refine OLe.mapSe ?_ ?_ ?_ | exact OLe.mapS0 rfl)) <;> try (first | (simp; done) | (congr 1; omega) | (congr 1; (first | (simp; done) | (simp; omega))))
  rintro ⟨i, hi⟩
  have hi : i ≤ ns.length := hi
  show lpE [(9, _)] _ _ fun e => lpH ((129, .cells [.p (eI 3), .p (eI 0), .p (.str ⟨#[]⟩), oVv 7 (ns.take i)]) :: oHv 7 (ns.take i)) _ [] fun h => _
  cases hxi : ns[i]? with
  | some y =>
    have hlt : i < ns.length := (List.getElem?_eq_some_iff.1 hxi).1
    have hyes : ((i : Int) < (ns.length : Int)) := by omega
    have hta : ns.take (i + 1) = ns.take i ++ [y] := by rw [List.take_add_one, hxi]; rfl
    cases hG : ns.take i with
    | nil =>
      repeat' (first | exact cl1 | ((with_reducible show Exists _); first | exact exHM _ | refine exU8 ?_) | ((fail_if_success refine stp ?_); (conv => whnf) <;> (first | exact cl2 | refine Br.dec (fun hc => ?_) (fun hc => absurd hyes hc) | refine XAlt.l ?_ | refine Sq.pr ?_ | refine Br.dec (fun hc => ?_) (fun hc => ?_) | refine Br.tt ?_ | refine Br.ff ?_ | refine Br.not ?_ | refine Br.mk (fun hc => ?_) (fun hc => ?_) | refine Opt.nn ?_ | refine Opt.ss ?_ | refine AltA.l ?_ | exact PV.leL_nil | refine PV.leL_cons ?_ ?_ | refine And.intro ?_ ?_ | refine ix_map (fun x hx => ?_) | refine exU8 ?_ | refine nilc (fun hn => ?_) ?_ | exact cl3 | refine imp0 (fun hpos => ?_) | refine fits_i64 ?_ ?_ | exact rfl | exact trivial | (first | refine stq ?_ | fail)))) <;> (try exact cl5)
      all_goals (
        have hx : ns[0 + (i : Int).toNat]? = some x := hx
        rw [show 0 + (i : Int).toNat = i by omega] at hx
        rw [hxi] at hx; injection hx with hx; subst hx)
      refine ⟨⟨i + 1, hlt⟩, by show ns.length - (i + 1) < ns.length - i; omega, ?_⟩
      show Ent _ _ (hdS [0, 2, 3, 5, 7, 8, 9, 10] _ _ _ [(9, .p (eI ((i + 1 : Nat) : Int)))] ((129, .cells [.p (eI 3), .p (eI 0), .p (.str ⟨#[]⟩), oVv 7 (ns.take (i + 1))]) :: oHv 7 (ns.take (i + 1))) _)
      rw [hta, hG]
      (refine Ent.ofAK [] ?_) <;> (repeat' (first | exact trivial | refine HpLe.dd ?_ | refine HpLe.mk rfl (by simp) rfl (fun h => AObj.noConfusion h) ?_ ?_ | refine And.intro ?_ ?_ | exact cl9 | refine VLe.pe ?_ | refine VLe.agg ?_ | refine VLe.tup ?_ | refine VLe.fn ?_ ?_ | refine VLeL.cons ?_ ?_ | exact VLeL.nil | exact OLe.row _ _ | rfl | refine VLe.rsle rfl ?_ ?_ ?_ | refine OLe.rowe2 ?_ ?_ | refine OLe.mape ?_ ?_ | refine OLe.iter0 ?_ | refine OLe.itere ?_ ?_ | refine OLe.chane ?_ ?_ | refine OLe.mapSe ?_ ?_ ?_ | exact OLe.mapS0 rfl)) <;> try (first | (simp; done) | (congr 1; omega) | (congr 1; (first | (simp; done) | (simp; omega))))
    | cons g gr =>
      have hgl : gr.length < 1000000 := by have h : (ns.take i).length ≤ ns.length := by rw [List.length_take]; omega
                                           rw [hG] at h; simp at h; omega
      repeat' (first | exact cl1 | ((with_reducible show Exists _); first | exact exHM _ | refine exU8 ?_) | ((fail_if_success refine stp ?_); (conv => whnf) <;> (first | exact cl2 | refine Br.dec (fun hc => ?_) (fun hc => absurd hyes hc) | refine XAlt.l ?_ | refine Sq.pr ?_ | refine Br.dec (fun hc => ?_) (fun hc => ?_) | refine Br.tt ?_ | refine Br.ff ?_ | refine Br.not ?_ | refine Br.mk (fun hc => ?_) (fun hc => ?_) | refine Opt.nn ?_ | refine Opt.ss ?_ | refine AltA.l ?_ | exact PV.leL_nil | refine PV.leL_cons ?_ ?_ | refine And.intro ?_ ?_ | refine ix_map (fun x hx => ?_) | refine exU8 ?_ | refine nilc (fun hn => ?_) ?_ | exact cl3 | refine imp0 (fun hpos => ?_) | refine fits_i64 ?_ ?_ | exact rfl | exact trivial | (first | refine stq ?_ | fail)))) <;> (try exact cl5)
      all_goals (
        have hx : ns[0 + (i : Int).toNat]? = some x := hx
        rw [show 0 + (i : Int).toNat = i by omega] at hx
        rw [hxi] at hx; injection hx with hx; subst hx)
      refine ⟨⟨i + 1, hlt⟩, by show ns.length - (i + 1) < ns.length - i; omega, ?_⟩
      show Ent _ _ (hdS [0, 2, 3, 5, 7, 8, 9, 10] _ _ _ [(9, .p (eI ((i + 1 : Nat) : Int)))] ((129, .cells [.p (eI 3), .p (eI 0), .p (.str ⟨#[]⟩), oVv 7 (ns.take (i + 1))]) :: oHv 7 (ns.take (i + 1))) _)
      rw [hta, hG]
      (refine Ent.ofAK [] ?_) <;> (repeat' (first | exact trivial | refine HpLe.dd ?_ | refine HpLe.mk rfl (by simp) rfl (fun h => AObj.noConfusion h) ?_ ?_ | refine And.intro ?_ ?_ | exact cl9 | refine VLe.pe ?_ | refine VLe.agg ?_ | refine VLe.tup ?_ | refine VLe.fn ?_ ?_ | refine VLeL.cons ?_ ?_ | exact VLeL.nil | exact OLe.row _ _ | rfl | refine VLe.rsle rfl ?_ ?_ ?_ | refine OLe.rowe2 ?_ ?_ | refine OLe.mape ?_ ?_ | refine OLe.iter0 ?_ | refine OLe.itere ?_ ?_ | refine OLe.chane ?_ ?_ | refine OLe.mapSe ?_ ?_ ?_ | exact OLe.mapS0 rfl)) <;> try (first | (simp; done) | (congr 1; omega) | (congr 1; (first | (simp; done) | (simp; omega))))
      all_goals (try (show List.map vE (g :: gr) ++ [vE y] = List.map vE (g :: (gr ++ [y])); simp; done))
  | none =>
    have hge : ns.length ≤ i := List.getElem?_eq_none_iff.1 hxi
    have hno : ¬ ((i : Int) < (ns.length : Int)) := by omega
    have hil : ns.take i = ns := List.take_of_length_le hge
    cases hG : ns.take i with
    | nil =>
      exact absurd (by rw [← hil, hG]) h0
    | cons g gr =>
      have hns : ns = g :: gr := by rw [← hil, hG]
      repeat' (first | exact cl1 | ((with_reducible show Exists _); first | exact exHM _ | refine exU8 ?_) | ((fail_if_success refine stp ?_); (conv => whnf) <;> (first | exact cl2 | refine Br.dec (fun hc => absurd hc hno) (fun hc => ?_) | refine XAlt.l ?_ | refine Sq.pr ?_ | refine Br.dec (fun hc => ?_) (fun hc => ?_) | refine Br.tt ?_ | refine Br.ff ?_ | refine Br.not ?_ | refine Br.mk (fun hc => ?_) (fun hc => ?_) | refine Opt.nn ?_ | refine Opt.ss ?_ | refine AltA.l ?_ | exact PV.leL_nil | refine PV.leL_cons ?_ ?_ | refine And.intro ?_ ?_ | refine ix_map (fun x hx => ?_) | refine exU8 ?_ | refine nilc (fun hn => ?_) ?_ | exact cl3 | refine imp0 (fun hpos => ?_) | refine fits_i64 ?_ ?_ | exact rfl | exact trivial | (first | refine stq ?_ | fail)))) <;> (try exact cl5)
      subst hns
      refine ⟨[], [(0, 0), (1, 7)], ?_, ?_, by decide, by simp, fun i hi => by match i, hi with | 0, _ => rfl⟩ <;> (repeat' (first | exact trivial | refine HpLe.dd ?_ | refine HpLe.mk rfl (by simp) rfl (fun h => AObj.noConfusion h) ?_ ?_ | refine And.intro ?_ ?_ | exact cl9 | refine VLe.pe ?_ | refine VLe.agg ?_ | refine VLe.tup ?_ | refine VLe.fn ?_ ?_ | refine VLeL.cons ?_ ?_ | exact VLeL.nil | exact OLe.row _ _ | rfl | refine VLe.rsle rfl ?_ ?_ ?_ | refine OLe.rowe2 ?_ ?_ | refine OLe.mape ?_ ?_ | refine OLe.iter0 ?_ | refine OLe.itere ?_ ?_ | refine OLe.chane ?_ ?_ | refine OLe.mapSe ?_ ?_ ?_ | exact OLe.mapS0 rfl))
end Go.Proofs.Ytgclicahmbgfiaa

namespace Go.Proofs.Ytgclicahmbgfiaa.Cd
open Go Go.Sg
set_option maxRecDepth 100000
set_option maxHeartbeats 4000000
theorem str_size (l : List Int) : (strOfNums l).size = l.length := by
  unfold strOfNums; simp [ByteArray.size]
theorem B8.cons {c : Int} {a : List Int} (h0 : 0 ≤ c) (h1 : c ≤ 255) (ha : B8 a) : B8 (c :: a) := fun x hx => by
  rcases List.mem_cons.1 hx with h | h
  · subst h; exact ⟨h0, h1⟩
  · exact ha x h
/-- Each part's encoding takes a byte at least. -/
theorem enc_pos (v : Vl) : 0 < (enc v).length := by
  obtain ⟨k, n, s, l⟩ := v
  rw [enc]
  split
  · simp
  · split <;> simp
theorem deps_le {l : List Vl} {k : Nat} : deps l ≤ k ↔ ∀ x ∈ l, dep x ≤ k := by
  induction l with
  | nil => simp [deps]
  | cons a r ih => rw [deps]; simp only [List.mem_cons, forall_eq_or_imp]; rw [← ih]; omega
/-- What is read: formed, not too deep, its numbers in range, its lists no longer than the text. -/
structure RdV (N k : Nat) (v : Vl) : Prop where
  f : frm v = true
  d : dep v ≤ k
  n : nums v
  l : lens N v
theorem lensL_of {N : Nat} {l : List Vl} (h : ∀ x ∈ l, lens N x) : lensL N l := by
  induction l with
  | nil => trivial
  | cons a r ih => exact ⟨h a (by simp), ih fun x hx => h x (by simp [hx])⟩
end Go.Proofs.Ytgclicahmbgfiaa.Cd

namespace Go.Proofs.Ytgclicahmbgfiaa
open Go Go.Sg
set_option maxRecDepth 100000
set_option maxHeartbeats 20000000
open Cd
def txL (x : Dc) : List Int := [x.tx 0, x.tx 1, x.tx 2, x.tx 3, x.tx 4, x.tx 5, x.tx 6, x.tx 7, x.tx 8, x.tx 9, x.tx 10, x.tx 11, x.tx 12, x.tx 13, x.tx 14, x.tx 15, x.tx 16, x.tx 17, x.tx 18, x.tx 19, x.tx 20, x.tx 21, x.tx 22, x.tx 23, x.tx 24, x.tx 25, x.tx 26, x.tx 27, x.tx 28, x.tx 29, x.tx 30, x.tx 31]
def vT (x : Dc) : Vl := .mk 2 0 (strOfNums (txL x)) []
def docV (x : Dc) : Vl := .mk 3 0 ⟨#[]⟩ ([vI x.no, vI x.tm, vI x.kind, vI x.val, vI x.frm, vI x.til] ++ [vN x.par, vN x.rev, vN x.need, vT x])
theorem bE : (⟨#[]⟩ : ByteArray) = ByteArray.empty := rfl
theorem vI_frm (n : Int) : frm (vI n) = true := by unfold vI; rw [frm_int, bE]; simp
theorem vN_frm (ns : List Int) : frm (vN ns) = true := by
  unfold vN; rw [frm_list, bE]
  have : (ns.map vI).all frm = true := List.all_eq_true.2 fun x hx => by
    obtain ⟨n, _, rfl⟩ := List.mem_map.1 hx; exact vI_frm n
  rw [this]; simp
theorem vT_frm (x : Dc) : frm (vT x) = true := by unfold vT; rw [frm_text]; simp
theorem doc_mem {x : Dc} {v : Vl} (h : v ∈ (docV x).l) : (∃ n, v = vI n ∧ n ∈ [x.no, x.tm, x.kind, x.val, x.frm, x.til]) ∨ (∃ ns, v = vN ns ∧ ns ∈ [x.par, x.rev, x.need]) ∨ v = vT x := by
  have h : v ∈ [vI x.no, vI x.tm, vI x.kind, vI x.val, vI x.frm, vI x.til] ++ [vN x.par, vN x.rev, vN x.need, vT x] := h
  simp only [List.cons_append, List.nil_append, List.mem_cons, List.not_mem_nil, or_false] at h
  rcases h with rfl | rfl | rfl | rfl | rfl | rfl | rfl | rfl | rfl | rfl
  · exact .inl ⟨_, rfl, by simp⟩
  · exact .inl ⟨_, rfl, by simp⟩
  · exact .inl ⟨_, rfl, by simp⟩
  · exact .inl ⟨_, rfl, by simp⟩
  · exact .inl ⟨_, rfl, by simp⟩
  · exact .inl ⟨_, rfl, by simp⟩
  · exact .inr (.inl ⟨_, rfl, by simp⟩)
  · exact .inr (.inl ⟨_, rfl, by simp⟩)
  · exact .inr (.inl ⟨_, rfl, by simp⟩)
  · exact .inr (.inr rfl)
theorem doc_frm (x : Dc) : frm (docV x) = true := by
  unfold docV; rw [frm_list, bE]
  have : ([vI x.no, vI x.tm, vI x.kind, vI x.val, vI x.frm, vI x.til] ++ [vN x.par, vN x.rev, vN x.need, vT x]).all frm = true := List.all_eq_true.2 fun v hv => by
    rcases doc_mem (x := x) (v := v) hv with ⟨n, rfl, _⟩ | ⟨ns, rfl, _⟩ | rfl
    · exact vI_frm n
    · exact vN_frm ns
    · exact vT_frm x
  rw [this]; simp
theorem vN_dep (ns : List Int) : dep (vN ns) ≤ 1 := by
  unfold vN; rw [dep_list]
  have : deps (ns.map vI) ≤ 0 := deps_le.2 fun v hv => by
    obtain ⟨n, _, rfl⟩ := List.mem_map.1 hv
    unfold vI; rw [dep_no (by decide)]; exact Nat.le_refl _
  omega
theorem doc_dep (x : Dc) : dep (docV x) ≤ 2 := by
  unfold docV; rw [dep_list]
  have : deps ([vI x.no, vI x.tm, vI x.kind, vI x.val, vI x.frm, vI x.til] ++ [vN x.par, vN x.rev, vN x.need, vT x]) ≤ 1 := deps_le.2 fun v hv => by
    rcases doc_mem (x := x) (v := v) hv with ⟨n, rfl, _⟩ | ⟨ns, rfl, _⟩ | rfl
    · unfold vI; rw [dep_no (by decide)]; omega
    · exact vN_dep ns
    · unfold vT; rw [dep_no (by decide)]; omega
  omega
theorem listB_f {m : Int} {P : List Int} (h : listB m P = true) : P.length ≤ 16 ∧ ∀ n ∈ P, 0 ≤ n ∧ n < m := by
  unfold listB okN at h
  rw [Bool.and_eq_true] at h
  obtain ⟨h1, h2⟩ := h
  rw [okFrom_iff] at h1
  refine ⟨of_decide_eq_true h2, fun n hn => ?_⟩
  have := (h1.1 n hn).1
  unfold wiB at this
  rw [Bool.and_eq_true] at this
  exact ⟨of_decide_eq_true this.1, of_decide_eq_true this.2⟩
structure RtF (x : Dc) : Prop where
  nm : ∀ n ∈ [x.no, x.tm, x.kind, x.val, x.frm, x.til], 0 ≤ n ∧ n < 4611686018427387904
  ls : ∀ P ∈ [x.par, x.rev, x.need], P.length ≤ 16 ∧ ∀ n ∈ P, 0 ≤ n ∧ n < 4611686018427387904
theorem rightA_f {x : Dc} (h : rightA x = true) : RtF x := by
  unfold rightA wiB at h
  simp only [Bool.and_eq_true, decide_eq_true_eq] at h
  obtain ⟨⟨⟨⟨⟨⟨a1, a2⟩, b1, b2⟩, c1, c2⟩, d1, d2⟩, ⟨e1, e2⟩, e3⟩, ⟨f1, f2⟩, f3⟩ := h
  have g0 : TM = 1099511627776 := rfl
  have g1 := listB_f f1
  have g2 := listB_f f2
  have g3 := listB_f f3
  refine ⟨fun n hn => ?_, fun P hP => ?_⟩
  · simp only [List.mem_cons, List.not_mem_nil, or_false] at hn
    rcases hn with rfl | rfl | rfl | rfl | rfl | rfl <;> omega
  · simp only [List.mem_cons, List.not_mem_nil, or_false] at hP
    rcases hP with rfl | rfl | rfl
    · exact ⟨g1.1, fun n hn => by have := g1.2 n hn; omega⟩
    · exact ⟨g2.1, fun n hn => by have := g2.2 n hn; omega⟩
    · exact ⟨g3.1, fun n hn => by have := g3.2 n hn; omega⟩
theorem i64_of {n : Int} (h : 0 ≤ n ∧ n < 4611686018427387904) : I64 n := by unfold I64; omega
theorem vI_enc {n : Int} (h : I64 n) : (enc (vI n)).length ≤ 11 := by
  unfold vI; rw [enc_int]
  have := nml_len64 (zz_lt h)
  simp; omega
theorem encs_bd {k : Nat} : ∀ {l : List Vl}, (∀ v ∈ l, (enc v).length ≤ k) → (encs l).length ≤ k * l.length
  | [], _ => by simp [encs]
  | v :: r, h => by
    have h1 := h v (by simp)
    have h2 := encs_bd (l := r) (fun w hw => h w (by simp [hw]))
    rw [encs, List.length_append, List.length_cons, Nat.mul_succ]; omega
theorem vN_enc {ns : List Int} (hl : ns.length ≤ 16) (h : ∀ n ∈ ns, 0 ≤ n ∧ n < 4611686018427387904) : (enc (vN ns)).length ≤ 200 := by
  unfold vN; rw [enc_list]
  have h1 := encs_bd (k := 11) (l := ns.map vI) fun v hv => by
    obtain ⟨n, hn, rfl⟩ := List.mem_map.1 hv; exact vI_enc (i64_of (h n hn))
  have h2 := nml_len64 (u := (ns.map vI).length) (by simp; omega)
  rw [List.length_map] at h1
  simp only [List.length_cons, List.length_append]; omega
theorem vT_enc (x : Dc) : (enc (vT x)).length ≤ 50 := by
  unfold vT; rw [enc_text]
  have h1 := str_size (txL x)
  have h0 : (txL x).length = 32 := rfl
  have h2 := nml_len64 (u := (strOfNums (txL x)).size) (by omega)
  have h3 := bytes_len (strOfNums (txL x))
  simp only [List.length_cons, List.length_append]; omega
theorem doc_enc {x : Dc} (h : RtF x) : (enc (docV x)).length ≤ 3000 := by
  have h1 := encs_bd (k := 200) (l := (docV x).l) fun v hv => by
    rcases doc_mem (x := x) (v := v) hv with ⟨n, rfl, hn⟩ | ⟨ns, rfl, hn⟩ | rfl
    · have := vI_enc (i64_of (h.nm n hn)); omega
    · exact vN_enc (h.ls ns hn).1 (h.ls ns hn).2
    · have := vT_enc x; omega
  have hl : (docV x).l.length = 10 := rfl
  have e : enc (docV x) = 3 :: (nml (docV x).l.length ++ encs (docV x).l) := by unfold docV; rw [enc_list]; rfl
  rw [e]
  have h2 := nml_len64 (u := (docV x).l.length) (by rw [hl]; decide)
  simp only [List.length_cons, List.length_append]; omega
theorem vI_lens (n : Int) : lens 5000 (vI n) := by unfold vI; exact ⟨by simp, trivial⟩
theorem vN_lens {ns : List Int} (hl : ns.length ≤ 16) : lens 5000 (vN ns) := by
  unfold vN
  refine ⟨by simp; omega, lensL_of fun v hv => ?_⟩
  obtain ⟨n, _, rfl⟩ := List.mem_map.1 hv; exact vI_lens n
theorem vI_nums {n : Int} (h : I64 n) : nums (vI n) := by unfold vI; exact ⟨h, trivial⟩
theorem i64_0 : I64 0 := by unfold I64; omega
theorem vN_nums {ns : List Int} (h : ∀ n ∈ ns, 0 ≤ n ∧ n < 4611686018427387904) : nums (vN ns) := by
  unfold vN
  refine ⟨i64_0, numsL_of fun v hv => ?_⟩
  obtain ⟨n, hn, rfl⟩ := List.mem_map.1 hv; exact vI_nums (i64_of (h n hn))
theorem doc_ok {x : Dc} (h : RtF x) : Ok (docV x) where
  sm := ⟨⟨Nat.le_of_ble_eq_true rfl, lensL_of fun v hv => by
    rcases doc_mem (x := x) (v := v) hv with ⟨n, rfl, hn⟩ | ⟨ns, rfl, hn⟩ | rfl
    · exact vI_lens n
    · exact vN_lens (h.ls ns hn).1
    · unfold vT; exact ⟨by simp, trivial⟩⟩, by have := doc_dep x; omega⟩
  nm := ⟨i64_0, numsL_of fun v hv => by
    rcases doc_mem (x := x) (v := v) hv with ⟨n, rfl, hn⟩ | ⟨ns, rfl, hn⟩ | rfl
    · exact vI_nums (i64_of (h.nm n hn))
    · exact vN_nums (h.ls ns hn).2
    · unfold vT; exact ⟨i64_0, trivial⟩⟩
  sz := fun _ => by have := doc_enc h; omega
theorem doc_chk (x : Dc) : chkV (docV x) = 0 := by
  unfold chkV
  rw [doc_frm x, if_pos rfl, if_neg (by have := doc_dep x; omega)]
def textA (x : Dc) : List Int × Int := if rightA x then (enc (docV x), 0) else ([], 170)
theorem enc_doc (x : Dc) : encA (docV x) = (enc (docV x), 0) := by unfold encA; rw [if_pos (doc_chk x)]
theorem docE (x : Dc) : (docV x).l.map eV = [eW (vI x.no), eW (vI x.tm), eW (vI x.kind), eW (vI x.val), eW (vI x.frm), eW (vI x.til), eW (vN x.par), eW (vN x.rev), eW (vN x.need), eW (vT x)] := by
  show List.map eV ([vI x.no, vI x.tm, vI x.kind, vI x.val, vI x.frm, vI x.til] ++ [vN x.par, vN x.rev, vN x.need, vT x]) = _
  simp only [List.cons_append, List.nil_append, List.map_cons, List.map_nil, eV_eq]
def ElE (p q : PV) : Prop := Go.Sg.okE 4 q ∧ PV.leL p.cells q.cells
def ElL : List PV → List PV → Prop
  | [], [] => True
  | p :: a, q :: b => ElE p q ∧ ElL a b
  | _, _ => False
theorem ElL_len : ∀ {a b : List PV}, ElL a b → a.length = b.length
  | [], [], _ => rfl
  | _ :: _, _ :: _, h => by simp [ElL_len h.2]
  | [], _ :: _, h => h.elim
  | _ :: _, [], h => h.elim
theorem ElL_get : ∀ {a b : List PV}, ElL a b → ∀ (i : Nat) p q, a[i]? = some p → b[i]? = some q → ElE p q
  | p :: a, q :: b, h, 0, _, _, hp, hq => by
    simp at hp hq; subst hp; subst hq; exact h.1
  | p :: a, q :: b, h, i + 1, p', q', hp, hq => by
    simp at hp hq; exact ElL_get h.2 i p' q' hp hq
  | [], _, _, i, p, q, hp, _ => by simp at hp
  | _ :: _, [], h, _, _, _, _, _ => h.elim
theorem one4 {a b : Int} {s : ByteArray} {l : List PV} : Go.Sg.okE 4 (.agg [eI a, eI b, .str s, .sl 4 false l]) := ⟨rfl, fun c hc => by
  have hc : c ∈ [eI a, eI b, PV.str s, PV.sl 4 false l] := hc
  simp only [List.mem_cons, List.not_mem_nil, or_false] at hc
  rcases hc with rfl | rfl | rfl | rfl <;> rfl⟩
theorem vE_el (n : Int) : ElE (vE n) (eW (vI n)) := ⟨one4, PV.leL_cons (PV.le_refl _) (PV.leL_cons (PV.le_refl _) (PV.leL_cons (PV.le_refl _) (PV.leL_cons (PV.le_nil _ _ _) PV.leL_nil)))⟩
theorem vN_el (ns : List Int) : ElE (eW (vN ns)) (eW (vN ns)) := ⟨one4, PV.leL_refl _⟩
theorem vT_el (x : Dc) : ElE (.agg [eI 2, eI 0, .str (strOfNums (txL x)), .sl 0 true []]) (eW (vT x)) := ⟨one4, PV.leL_cons (PV.le_refl _) (PV.leL_cons (PV.le_refl _) (PV.leL_cons (PV.le_refl _) (PV.leL_cons (PV.le_nil _ _ _) PV.leL_nil)))⟩
theorem doc_le (x : Dc) : PV.le (.agg [eI 3, eI 0, .str ⟨#[]⟩, .sl 4 false [vE x.no, vE x.tm, vE x.kind, vE x.val, vE x.frm, vE x.til, eW (vN x.par), eW (vN x.rev), eW (vN x.need), .agg [eI 2, eI 0, .str (strOfNums (txL x)), .sl 0 true []]]]) (eW (docV x)) := by
  have e : eW (docV x) = .agg [eI 3, eI 0, .str ⟨#[]⟩, .sl 4 false ((docV x).l.map eV)] := rfl
  rw [e, docE]
  refine PV.le_agg (PV.leL_cons (PV.le_refl _) (PV.leL_cons (PV.le_refl _) (PV.leL_cons (PV.le_refl _) (PV.leL_cons ?_ PV.leL_nil))))
  have hE : ElL [vE x.no, vE x.tm, vE x.kind, vE x.val, vE x.frm, vE x.til, eW (vN x.par), eW (vN x.rev), eW (vN x.need), .agg [eI 2, eI 0, .str (strOfNums (txL x)), .sl 0 true []]] [eW (vI x.no), eW (vI x.tm), eW (vI x.kind), eW (vI x.val), eW (vI x.frm), eW (vI x.til), eW (vN x.par), eW (vN x.rev), eW (vN x.need), eW (vT x)] :=
    ⟨vE_el _, vE_el _, vE_el _, vE_el _, vE_el _, vE_el _, vN_el _, vN_el _, vN_el _, vT_el _, trivial⟩
  exact PV_le_sl (ElL_len hE) (ElL_get hE)
theorem text_calls (x : Dc) (h1 : x.par.length < 1000000) (h2 : x.rev.length < 1000000) (h3 : x.need.length < 1000000) : PCalls Try.prog 15 [eA x] (.tup [eB (textA x).1, eI (textA x).2]) := by
  have q1 := right_calls x (by omega) (by omega) (by omega)
  have q2 := numbers_icalls [x.no, x.tm, x.kind, x.val, x.frm, x.til] (by simp) (by simp)
  have q3 := numbers_calls x.par h1
  have q4 := numbers_calls x.rev h2
  have q5 := numbers_calls x.need h3
  unfold textA
  cases hr : rightA x with
  | false =>
    rw [hr] at q1
    refine PCalls.of (N := 44) (res := [.tmp 2, .tmp 3]) mixed Try.func15 rfl rfl rfl (by kernel_rfl) (by simp) [0, 1, 2, 3, 4, 7] ?_
    repeat' (first | exact cl1 | ((with_reducible show Exists _); first | exact exHM _ | refine exU8 ?_) | ((with_reducible show callX _ _ _ _ _); (first | refine call_p (q1) (by kernel_rfl) rfl ?_)) | ((fail_if_success refine stp ?_); (conv => whnf) <;> (first | exact cl2 | refine XAlt.l ?_ | refine Sq.pr ?_ | refine Br.dec (fun hc => ?_) (fun hc => ?_) | refine Br.tt ?_ | refine Br.ff ?_ | refine Br.not ?_ | refine Br.mk (fun hc => ?_) (fun hc => ?_) | refine Opt.nn ?_ | refine Opt.ss ?_ | refine AltA.l ?_ | exact PV.leL_nil | refine PV.leL_cons ?_ ?_ | refine And.intro ?_ ?_ | refine ix_map (fun x hx => ?_) | refine exU8 ?_ | refine nilc (fun hn => ?_) ?_ | exact cl3 | refine imp0 (fun hpos => ?_) | refine fits_i64 ?_ ?_ | exact rfl | exact trivial | (first | refine stq ?_ | fail)))) <;> (try exact cl5)
    all_goals exact LeG.mk leE
  | true =>
    rw [hr] at q1
    have q6 := encode_calls (docV x) (doc_ok (rightA_f hr))
    rw [enc_doc] at q6
    refine PCalls.of (N := 44) (res := [.tmp 2, .tmp 3]) mixed Try.func15 rfl rfl rfl (by kernel_rfl) (by simp) [0, 1, 2, 3, 4, 7] ?_
    repeat' (first | exact cl1 | ((with_reducible show Exists _); first | exact exHM _ | refine exU8 ?_) | ((with_reducible show callX _ _ _ _ _); (first | refine call_p (q1) (by kernel_rfl) rfl ?_ | refine call_i [1152] (q2) (by kernel_rfl) rfl rfl (by decide) cl6 (fun i hi => by match i, hi with | 0, _ => rfl) cl7 cl8 (by simp [keys]) ?_ | refine call_p (q3) (by kernel_rfl) rfl ?_ | refine call_p (q4) (by kernel_rfl) rfl ?_ | refine call_p (q5) (by kernel_rfl) rfl ?_)) | ((fail_if_success refine stp ?_); (conv => whnf) <;> (first | exact cl2 | refine XAlt.l ?_ | refine Sq.pr ?_ | refine Br.dec (fun hc => ?_) (fun hc => ?_) | refine Br.tt ?_ | refine Br.ff ?_ | refine Br.not ?_ | refine Br.mk (fun hc => ?_) (fun hc => ?_) | refine Opt.nn ?_ | refine Opt.ss ?_ | refine AltA.l ?_ | exact PV.leL_nil | refine PV.leL_cons ?_ ?_ | refine And.intro ?_ ?_ | refine ix_map (fun x hx => ?_) | refine exU8 ?_ | refine nilc (fun hn => ?_) ?_ | exact cl3 | refine imp0 (fun hpos => ?_) | refine fits_i64 ?_ ?_ | exact rfl | exact trivial | (first | refine stq ?_ | fail)))) <;> (try exact cl5)
    refine ⟨txL x, rfl, ?_⟩
    repeat' (first | exact cl1 | ((with_reducible show Exists _); first | exact exHM _ | refine exU8 ?_) | ((with_reducible show callX _ _ _ _ _); (first | refine call_z q6 (by kernel_rfl) rfl ?_)) | ((fail_if_success refine stp ?_); (conv => whnf) <;> (first | exact cl2 | refine XAlt.l ?_ | refine Sq.pr ?_ | refine Br.dec (fun hc => ?_) (fun hc => ?_) | refine Br.tt ?_ | refine Br.ff ?_ | refine Br.not ?_ | refine Br.mk (fun hc => ?_) (fun hc => ?_) | refine Opt.nn ?_ | refine Opt.ss ?_ | refine AltA.l ?_ | exact PV.leL_nil | refine PV.leL_cons ?_ ?_ | refine And.intro ?_ ?_ | refine ix_map (fun x hx => ?_) | refine exU8 ?_ | refine nilc (fun hn => ?_) ?_ | refine call_z q6 (by kernel_rfl) rfl ?_ | exact cl3 | refine imp0 (fun hpos => ?_) | refine fits_i64 ?_ ?_ | exact rfl | exact trivial | (first | refine stq ?_ | fail)))) <;> (try exact cl5)
    exact doc_le x
end Go.Proofs.Ytgclicahmbgfiaa

namespace Go.Proofs.Ytgclicahmbgfiaa
open Go Go.Sg
set_option maxRecDepth 100000
set_option maxHeartbeats 20000000
def txB (x y : Dc) : Bool := (decide (x.tx 0 = y.tx 0) && (decide (x.tx 1 = y.tx 1) && (decide (x.tx 2 = y.tx 2) && (decide (x.tx 3 = y.tx 3) && (decide (x.tx 4 = y.tx 4) && (decide (x.tx 5 = y.tx 5) && (decide (x.tx 6 = y.tx 6) && (decide (x.tx 7 = y.tx 7) && (decide (x.tx 8 = y.tx 8) && (decide (x.tx 9 = y.tx 9) && (decide (x.tx 10 = y.tx 10) && (decide (x.tx 11 = y.tx 11) && (decide (x.tx 12 = y.tx 12) && (decide (x.tx 13 = y.tx 13) && (decide (x.tx 14 = y.tx 14) && (decide (x.tx 15 = y.tx 15) && (decide (x.tx 16 = y.tx 16) && (decide (x.tx 17 = y.tx 17) && (decide (x.tx 18 = y.tx 18) && (decide (x.tx 19 = y.tx 19) && (decide (x.tx 20 = y.tx 20) && (decide (x.tx 21 = y.tx 21) && (decide (x.tx 22 = y.tx 22) && (decide (x.tx 23 = y.tx 23) && (decide (x.tx 24 = y.tx 24) && (decide (x.tx 25 = y.tx 25) && (decide (x.tx 26 = y.tx 26) && (decide (x.tx 27 = y.tx 27) && (decide (x.tx 28 = y.tx 28) && (decide (x.tx 29 = y.tx 29) && (decide (x.tx 30 = y.tx 30) && decide (x.tx 31 = y.tx 31))))))))))))))))))))))))))))))))
def numB (x y : Dc) : Bool := decide (x.no = y.no) && decide (x.tm = y.tm) && decide (x.kind = y.kind) && decide (x.val = y.val) && decide (x.frm = y.frm) && decide (x.til = y.til)
def lisB (x y : Dc) : Bool := decide (x.par = y.par) && decide (x.rev = y.rev) && decide (x.need = y.need)
def sameDB (x y : Dc) : Bool := numB x y && lisB x y && txB x y
theorem sameDB_refl (x : Dc) : sameDB x x = true := by simp [sameDB, numB, lisB, txB]
theorem sameD_calls (x y : Dc) (h1 : x.par.length < 1000000) (h2 : x.rev.length < 1000000) (h3 : x.need.length < 1000000) : PCalls Try.prog 32 [eA x, eA y] (.bool (sameDB x y)) := by
  have q1 := sameI_calls x.par y.par h1
  have q2 := sameI_calls x.rev y.rev h2
  have q3 := sameI_calls x.need y.need h3
  refine PCalls.of (N := 73) (res := [.tmp 4]) mixed Try.func32 rfl rfl rfl (by kernel_rfl) (by simp) [0, 1, 2, 3, 4] ?_
  repeat' (first | exact cl1 | ((with_reducible show Exists _); first | exact exHM _ | refine exU8 ?_) | ((with_reducible show callX _ _ _ _ _); (first | refine call_p (q1) (by kernel_rfl) rfl ?_ | refine call_p (q2) (by kernel_rfl) rfl ?_ | refine call_p (q3) (by kernel_rfl) rfl ?_)) | ((fail_if_success refine stp ?_); (conv => whnf) <;> (first | exact cl2 | refine XAlt.l ?_ | refine Sq.pr ?_ | refine Br.dec (fun hc => ?_) (fun hc => ?_) | refine Br.tt ?_ | refine Br.ff ?_ | refine Br.not ?_ | refine Br.mk (fun hc => ?_) (fun hc => ?_) | refine Opt.nn ?_ | refine Opt.ss ?_ | refine AltA.l ?_ | exact PV.leL_nil | refine PV.leL_cons ?_ ?_ | refine And.intro ?_ ?_ | refine ix_map (fun x hx => ?_) | refine exU8 ?_ | refine nilc (fun hn => ?_) ?_ | exact cl3 | refine imp0 (fun hpos => ?_) | refine fits_i64 ?_ ?_ | exact rfl | exact trivial | (first | refine stq ?_ | fail)))) <;> (try exact cl5)
  all_goals first
  | (refine LeG.bool ?_
     have hn : numB x y = true := by simp [numB, *]
     have hl : lisB x y = true := by simp [lisB, *]
     unfold sameDB
     rw [hn, hl]
     rfl)
  | (have hn : sameDB x y = false := by simp [sameDB, numB, lisB, *]
     rw [hn]; exact LeG.refl _)
def sameLB : List Dc → List Dc → Bool
  | [], [] => true
  | x :: r, y :: s => sameDB x y && sameLB r s
  | _, _ => false
theorem sameLB_refl : ∀ l, sameLB l l = true
  | [] => rfl
  | x :: r => by rw [sameLB, sameDB_refl, sameLB_refl r]; rfl
theorem sameLB_len : ∀ {a b : List Dc}, a.length ≠ b.length → sameLB a b = false
  | [], [], h => absurd rfl h
  | [], _ :: _, _ => rfl
  | _ :: _, [], _ => rfl
  | x :: r, y :: s, h => by rw [sameLB, sameLB_len (a := r) (b := s) (fun e => h (by simp [e])), Bool.and_false]
theorem same_calls (a b : List Dc) (hl : a.length < 1000000) (hd : ∀ x ∈ a, x.par.length < 1000000 ∧ x.rev.length < 1000000 ∧ x.need.length < 1000000) : PCalls Try.prog 19 [eL a, eL b] (.bool (sameLB a b)) := by
  by_cases hab : a.length = b.length
  case neg =>
    have h : ((a.map eA).length : Int) ≠ ((b.map eA).length : Int) := by simp only [List.length_map]; omega
    rw [sameLB_len hab]
    refine PCalls.of (N := 27) (res := [.tmp 4]) mixed Try.func19 rfl rfl rfl (by kernel_rfl) (by simp) [0, 1, 4, 5, 10, 14, 26] ?_
    repeat' (first | exact cl1 | ((with_reducible show Exists _); first | exact exHM _ | refine exU8 ?_) | ((fail_if_success refine stp ?_); (conv => whnf) <;> (first | exact cl2 | refine Br.dec (fun hc => ?_) (fun hc => absurd h hc) | refine XAlt.l ?_ | refine Sq.pr ?_ | refine Br.dec (fun hc => ?_) (fun hc => ?_) | refine Br.tt ?_ | refine Br.ff ?_ | refine Br.not ?_ | refine Br.mk (fun hc => ?_) (fun hc => ?_) | refine Opt.nn ?_ | refine Opt.ss ?_ | refine AltA.l ?_ | exact PV.leL_nil | refine PV.leL_cons ?_ ?_ | refine And.intro ?_ ?_ | refine ix_map (fun x hx => ?_) | refine exU8 ?_ | refine nilc (fun hn => ?_) ?_ | exact cl3 | refine imp0 (fun hpos => ?_) | refine fits_i64 ?_ ?_ | exact rfl | exact trivial | (first | refine stq ?_ | fail)))) <;> (try exact cl5)
  have h : ¬ ((a.map eA).length : Int) ≠ ((b.map eA).length : Int) := by simp only [List.length_map]; omega
  refine PCalls.of (N := 27) (res := [.tmp 4]) mixed Try.func19 rfl rfl rfl (by kernel_rfl) (by simp) [0, 1, 4, 5, 10, 14, 26] ?_
  repeat' (first | exact cl1 | ((with_reducible show Exists _); first | exact exHM _ | refine exU8 ?_) | ((fail_if_success refine stp ?_); (conv => whnf) <;> (first | exact cl2 | refine Br.dec (fun hc => absurd hc h) (fun hc => ?_) | refine XAlt.l ?_ | refine Sq.pr ?_ | refine Br.dec (fun hc => ?_) (fun hc => ?_) | refine Br.tt ?_ | refine Br.ff ?_ | refine Br.not ?_ | refine Br.mk (fun hc => ?_) (fun hc => ?_) | refine Opt.nn ?_ | refine Opt.ss ?_ | refine AltA.l ?_ | exact PV.leL_nil | refine PV.leL_cons ?_ ?_ | refine And.intro ?_ ?_ | refine ix_map (fun x hx => ?_) | refine exU8 ?_ | refine nilc (fun hn => ?_) ?_ | exact cl3 | refine imp0 (fun hpos => ?_) | refine fits_i64 ?_ ?_ | exact rfl | exact trivial | (first | refine stq ?_ | fail)))) <;> (try exact cl5)
  refine Wpc.loopB (α := {i : Nat // i ≤ a.length ∧ sameLB (a.drop i) (b.drop i) = sameLB a b}) mixed [0, 1, 4, 5, 10, 14, 26] (fun i => [(5, .p (eI i.1))]) (fun i => a.length - i.1) ⟨0, by omega, rfl⟩ ?_ ?_
  · (first | refine Ent.ofA [] ?_ | refine Ent.ofC [] ?_) <;> (repeat' (first | exact trivial | refine HpLe.dd ?_ | refine HpLe.mk rfl (by simp) rfl (fun h => AObj.noConfusion h) ?_ ?_ | refine And.intro ?_ ?_ | exact cl9 | refine VLe.pe ?_ | refine VLe.agg ?_ | refine VLe.tup ?_ | refine VLe.fn ?_ ?_ | refine VLeL.cons ?_ ?_ | exact VLeL.nil | exact OLe.row _ _ | rfl | refine VLe.rsle rfl ?_ ?_ ?_ | refine OLe.rowe2 ?_ ?_ | refine OLe.mape ?_ ?_ | refine OLe.iter0 ?_ | refine OLe.itere ?_ ?_ | refine OLe.chane ?_ ?_ | refine OLe.mapSe ?_ ?_ ?_ | exact OLe.mapS0 rfl)) <;> try (first | (simp; done) | (congr 1; omega) | (congr 1; (first | (simp; done) | (simp; omega))))
  rintro ⟨i, hi, hq⟩
  have hi : i ≤ a.length := hi
  have hq : sameLB (a.drop i) (b.drop i) = sameLB a b := hq
  cases hx : a[i]? with
  | none =>
    have hge : a.length ≤ i := List.getElem?_eq_none_iff.1 hx
    have hno : ¬ ((i : Int) < ((a.map eA).length : Int)) := by rw [List.length_map]; omega
    rw [List.drop_eq_nil_of_le hge, List.drop_eq_nil_of_le (by omega)] at hq
    repeat' (first | exact cl1 | ((with_reducible show Exists _); first | exact exHM _ | refine exU8 ?_) | ((fail_if_success refine stp ?_); (conv => whnf) <;> (first | exact cl2 | refine Br.dec (fun hc => absurd hc hno) (fun hc => ?_) | refine XAlt.l ?_ | refine Sq.pr ?_ | refine Br.dec (fun hc => ?_) (fun hc => ?_) | refine Br.tt ?_ | refine Br.ff ?_ | refine Br.not ?_ | refine Br.mk (fun hc => ?_) (fun hc => ?_) | refine Opt.nn ?_ | refine Opt.ss ?_ | refine AltA.l ?_ | exact PV.leL_nil | refine PV.leL_cons ?_ ?_ | refine And.intro ?_ ?_ | refine ix_map (fun x hx => ?_) | refine exU8 ?_ | refine nilc (fun hn => ?_) ?_ | exact cl3 | refine imp0 (fun hpos => ?_) | refine fits_i64 ?_ ?_ | exact rfl | exact trivial | (first | refine stq ?_ | fail)))) <;> (try exact cl5)
    rw [← hq]; exact LeG.refl _
  | some x =>
    have hlt : i < a.length := (List.getElem?_eq_some_iff.1 hx).1
    have hyes : ((i : Int) < ((a.map eA).length : Int)) := by rw [List.length_map]; omega
    obtain ⟨y, hy⟩ : ∃ y, b[i]? = some y := ⟨_, List.getElem?_eq_getElem (by omega)⟩
    obtain ⟨d1, d2, d3⟩ := hd x (List.mem_of_getElem? hx)
    have q := sameD_calls x y d1 d2 d3
    have ea : a.drop i = x :: a.drop (i + 1) := by rw [List.drop_eq_getElem_cons hlt]; congr 1; exact (List.getElem?_eq_some_iff.1 hx).2
    have eb : b.drop i = y :: b.drop (i + 1) := by rw [List.drop_eq_getElem_cons (by omega)]; congr 1; exact (List.getElem?_eq_some_iff.1 hy).2
    rw [ea, eb, sameLB] at hq
    cases hs : sameDB x y with
    | false =>
      rw [hs] at q hq
      repeat' (first | exact cl1 | ((with_reducible show Exists _); first | exact exHM _ | refine exU8 ?_) | ((with_reducible show callX _ _ _ _ _); (first | refine call_p (q) (by kernel_rfl) rfl ?_)) | ((fail_if_success refine stp ?_); (conv => whnf) <;> (first | exact cl2 | refine Br.dec (fun hc => ?_) (fun hc => absurd hyes hc) | refine ix_at hx ?_ | refine ix_at hy ?_ | refine XAlt.l ?_ | refine Sq.pr ?_ | refine Br.dec (fun hc => ?_) (fun hc => ?_) | refine Br.tt ?_ | refine Br.ff ?_ | refine Br.not ?_ | refine Br.mk (fun hc => ?_) (fun hc => ?_) | refine Opt.nn ?_ | refine Opt.ss ?_ | refine AltA.l ?_ | exact PV.leL_nil | refine PV.leL_cons ?_ ?_ | refine And.intro ?_ ?_ | refine ix_map (fun x hx => ?_) | refine exU8 ?_ | refine nilc (fun hn => ?_) ?_ | exact cl3 | refine imp0 (fun hpos => ?_) | refine fits_i64 ?_ ?_ | exact rfl | exact trivial | (first | refine stq ?_ | fail)))) <;> (try exact cl5)
      rw [← hq]; exact LeG.refl _
    | true =>
      rw [hs, Bool.true_and] at hq
      rw [hs] at q
      repeat' (first | exact cl1 | ((with_reducible show Exists _); first | exact exHM _ | refine exU8 ?_) | ((with_reducible show callX _ _ _ _ _); (first | refine call_p (q) (by kernel_rfl) rfl ?_)) | ((fail_if_success refine stp ?_); (conv => whnf) <;> (first | exact cl2 | refine Br.dec (fun hc => ?_) (fun hc => absurd hyes hc) | refine ix_at hx ?_ | refine ix_at hy ?_ | refine XAlt.l ?_ | refine Sq.pr ?_ | refine Br.dec (fun hc => ?_) (fun hc => ?_) | refine Br.tt ?_ | refine Br.ff ?_ | refine Br.not ?_ | refine Br.mk (fun hc => ?_) (fun hc => ?_) | refine Opt.nn ?_ | refine Opt.ss ?_ | refine AltA.l ?_ | exact PV.leL_nil | refine PV.leL_cons ?_ ?_ | refine And.intro ?_ ?_ | refine ix_map (fun x hx => ?_) | refine exU8 ?_ | refine nilc (fun hn => ?_) ?_ | exact cl3 | refine imp0 (fun hpos => ?_) | refine fits_i64 ?_ ?_ | exact rfl | exact trivial | (first | refine stq ?_ | fail)))) <;> (try exact cl5)
      refine ⟨⟨i + 1, hlt, hq⟩, by show a.length - (i + 1) < a.length - i; omega, ?_⟩
      (first | refine Ent.ofA [] ?_ | refine Ent.ofC [] ?_) <;> (repeat' (first | exact trivial | refine HpLe.dd ?_ | refine HpLe.mk rfl (by simp) rfl (fun h => AObj.noConfusion h) ?_ ?_ | refine And.intro ?_ ?_ | exact cl9 | refine VLe.pe ?_ | refine VLe.agg ?_ | refine VLe.tup ?_ | refine VLe.fn ?_ ?_ | refine VLeL.cons ?_ ?_ | exact VLeL.nil | exact OLe.row _ _ | rfl | refine VLe.rsle rfl ?_ ?_ ?_ | refine OLe.rowe2 ?_ ?_ | refine OLe.mape ?_ ?_ | refine OLe.iter0 ?_ | refine OLe.itere ?_ ?_ | refine OLe.chane ?_ ?_ | refine OLe.mapSe ?_ ?_ ?_ | exact OLe.mapS0 rfl)) <;> try (first | (simp; done) | (congr 1; omega) | (congr 1; (first | (simp; done) | (simp; omega))))
end Go.Proofs.Ytgclicahmbgfiaa

namespace Go.Proofs.Ytgclicahmbgfiaa
open Go Go.Sg
set_option maxRecDepth 100000
set_option maxHeartbeats 20000000
theorem PCalls_leA {P : Program} {f : FuncId} {a b : List PV} {r : PV} (h : PCalls P f b r) (hl : PV.leL a b) : PCalls P f a r := fun F w vs hF hvs hrv => h F w vs hF (hvs.trans hl.1) fun i q hq => by
  obtain ⟨p, hp⟩ : ∃ p, a[i]? = some p := ⟨_, List.getElem?_eq_getElem (by have := (List.getElem?_eq_some_iff.1 hq).1; rw [hl.1]; exact this)⟩
  exact hl.2 i p q hp hq F w _ (hrv i p hp)
def mkD (n : Int) (r s : List Int) : Dc := ⟨n, 0, 0, 0, 10, 100, [], r, s, fun _ => 0⟩
theorem doc_calls (n : Int) (r s : List Int) : PCalls Try.prog 33 [eI n, eIs r, eIs s] (eA (mkD n r s)) := by
  refine PCalls.of (N := 11) (res := [.cell 6 27]) mixed Try.func33 rfl rfl rfl (by kernel_rfl) (by simp) [0, 1, 2, 6] ?_
  repeat' (first | exact cl1 | ((with_reducible show Exists _); first | exact exHM _ | refine exU8 ?_) | ((fail_if_success refine stp ?_); (conv => whnf) <;> (first | exact cl2 | refine XAlt.l ?_ | refine Sq.pr ?_ | refine Br.dec (fun hc => ?_) (fun hc => ?_) | refine Br.tt ?_ | refine Br.ff ?_ | refine Br.not ?_ | refine Br.mk (fun hc => ?_) (fun hc => ?_) | refine Opt.nn ?_ | refine Opt.ss ?_ | refine AltA.l ?_ | exact PV.leL_nil | refine PV.leL_cons ?_ ?_ | refine And.intro ?_ ?_ | refine ix_map (fun x hx => ?_) | refine exU8 ?_ | refine nilc (fun hn => ?_) ?_ | exact cl3 | refine imp0 (fun hpos => ?_) | refine fits_i64 ?_ ?_ | exact rfl | exact trivial | (first | refine stq ?_ | fail)))) <;> (try exact cl5)
  all_goals exact LeG.mk (PV.le_agg (PV.leL_cons (PV.le_refl _) (PV.leL_cons (PV.le_refl _) (PV.leL_cons (PV.le_refl _) (PV.leL_cons (PV.le_refl _) (PV.leL_cons (PV.le_refl _) (PV.leL_cons (PV.le_refl _) (PV.leL_cons (PV.le_nil _ _ _) (PV.leL_refl _)))))))))
def whyB (l : List Dc) (sg : List Int) (no at_ s b : Int) : Bool := decide ((whyA l sg no at_).2.2 = 0) && decide ((whyA l sg no at_).1 = s) && decide ((whyA l sg no at_).2.1 = b)
theorem whyb_calls (l : List Dc) (sg : List Int) (no at_ s b : Int) (hl : l.length ≤ 20) (hd : ∀ x ∈ l, okF x) (hsl : sg.length < 1000000) : PCalls Try.prog 34 [eL l, eIs sg, eI no, eI at_, eI s, eI b] (.bool (whyB l sg no at_ s b)) := by
  have q := why_calls l sg no at_ hl hd hsl
  unfold whyB
  generalize whyA l sg no at_ = w at *
  refine PCalls.of (N := 37) (res := [.tmp 12]) mixed Try.func34 rfl rfl rfl (by kernel_rfl) (by simp) [0, 1, 2, 3, 4, 5, 12, 13, 14, 15] ?_
  repeat' (first | exact cl1 | ((with_reducible show Exists _); first | exact exHM _ | refine exU8 ?_) | ((with_reducible show callX _ _ _ _ _); (first | refine call_p (q) (by kernel_rfl) rfl ?_)) | ((fail_if_success refine stp ?_); (conv => whnf) <;> (first | exact cl2 | refine XAlt.l ?_ | refine Sq.pr ?_ | refine Br.dec (fun hc => ?_) (fun hc => ?_) | refine Br.tt ?_ | refine Br.ff ?_ | refine Br.not ?_ | refine Br.mk (fun hc => ?_) (fun hc => ?_) | refine Opt.nn ?_ | refine Opt.ss ?_ | refine AltA.l ?_ | exact PV.leL_nil | refine PV.leL_cons ?_ ?_ | refine And.intro ?_ ?_ | refine ix_map (fun x hx => ?_) | refine exU8 ?_ | refine nilc (fun hn => ?_) ?_ | exact cl3 | refine imp0 (fun hpos => ?_) | refine fits_i64 ?_ ?_ | exact rfl | exact trivial | (first | refine stq ?_ | fail)))) <;> (try exact cl5)
  all_goals (refine LeG.bool ?_; simp_all)
theorem check_lim (L : List PV) (h : (4096 : Int) < (L.length : Int)) : PCalls Try.prog 17 [.sl 41 false L] (eI 2) := by
  refine PCalls.of (N := 43) (res := [.tmp 2]) mixed Try.func17 rfl rfl rfl (by kernel_rfl) (by simp) [0, 2, 3, 4, 5, 8, 11, 12, 13, 14, 41] ?_
  repeat' (first | exact cl1 | ((with_reducible show Exists _); first | exact exHM _ | refine exU8 ?_) | ((fail_if_success refine stp ?_); (conv => whnf) <;> (first | exact cl2 | refine Br.dec (fun hc => ?_) (fun hc => absurd h hc) | refine XAlt.l ?_ | refine Sq.pr ?_ | refine Br.dec (fun hc => ?_) (fun hc => ?_) | refine Br.tt ?_ | refine Br.ff ?_ | refine Br.not ?_ | refine Br.mk (fun hc => ?_) (fun hc => ?_) | refine Opt.nn ?_ | refine Opt.ss ?_ | refine AltA.l ?_ | exact PV.leL_nil | refine PV.leL_cons ?_ ?_ | refine And.intro ?_ ?_ | refine ix_map (fun x hx => ?_) | refine exU8 ?_ | refine nilc (fun hn => ?_) ?_ | exact cl3 | refine imp0 (fun hpos => ?_) | refine fits_i64 ?_ ?_ | exact rfl | exact trivial | (first | refine stq ?_ | fail)))) <;> (try exact cl5)
def d0 : Dc := mkD 0 [] []
def d1 : Dc := mkD 1 [] [0]
def f1 : Dc := mkD 1 [] []
def d2 : Dc := mkD 2 [1] []
def d3 : Dc := mkD 3 [2] []
def g0 : Dc := mkD 0 [0] []
theorem ok2 : ∀ x ∈ [d0, d1], okF x := fun x hx => by
  simp only [List.mem_cons, List.not_mem_nil, or_false] at hx
  rcases hx with rfl | rfl <;> exact ⟨by decide, by decide, by decide⟩
theorem ok4 : ∀ x ∈ [d0, f1, d2, d3], okF x := fun x hx => by
  simp only [List.mem_cons, List.not_mem_nil, or_false] at hx
  rcases hx with rfl | rfl | rfl | rfl <;> exact ⟨by decide, by decide, by decide⟩
theorem okN0 : ∀ x ∈ ([] : List Dc), okF x := fun x hx => by cases hx
theorem m0 : PCalls Try.prog 33 [eI 0, eIs [], eIs []] (eA d0) := by exact doc_calls 0 [] []
theorem m1 : PCalls Try.prog 33 [eI 1, eIs [], eIs [0]] (eA d1) := by exact doc_calls 1 [] [0]
theorem m2 : PCalls Try.prog 33 [eI 1, eIs [], eIs []] (eA f1) := by exact doc_calls 1 [] []
theorem m3 : PCalls Try.prog 33 [eI 2, eIs [1], eIs []] (eA d2) := by exact doc_calls 2 [1] []
theorem m4 : PCalls Try.prog 33 [eI 3, eIs [2], eIs []] (eA d3) := by exact doc_calls 3 [2] []
theorem m5 : PCalls Try.prog 33 [eI 0, eIs [0], eIs []] (eA g0) := by exact doc_calls 0 [0] []
theorem w0 : PCalls Try.prog 34 [eL [d0, d1], eIs [7, 5], eI 1, eI 9, eI 4, eI 0] (.bool true) := by have h := whyb_calls [d0, d1] [7, 5] 1 9 4 0 (by decide) ok2 (by decide); rwa [show whyB [d0, d1] [7, 5] 1 9 4 0 = true from by kernel_rfl] at h
theorem w1 : PCalls Try.prog 34 [eL [d0, d1], eIs [7, 12], eI 1, eI 20, eI 0, eI (-1)] (.bool true) := by have h := whyb_calls [d0, d1] [7, 12] 1 20 0 (-1) (by decide) ok2 (by decide); rwa [show whyB [d0, d1] [7, 12] 1 20 0 (-1) = true from by kernel_rfl] at h
theorem w2 : PCalls Try.prog 34 [eL [d0, d1], eIs [7, 8], eI 1, eI 20, eI 4, eI 0] (.bool true) := by have h := whyb_calls [d0, d1] [7, 8] 1 20 4 0 (by decide) ok2 (by decide); rwa [show whyB [d0, d1] [7, 8] 1 20 4 0 = true from by kernel_rfl] at h
theorem w3 : PCalls Try.prog 34 [eL [d0, d1], eIs [7, 12], eI 1, eI 11, eI 1, eI (-1)] (.bool true) := by have h := whyb_calls [d0, d1] [7, 12] 1 11 1 (-1) (by decide) ok2 (by decide); rwa [show whyB [d0, d1] [7, 12] 1 11 1 (-1) = true from by kernel_rfl] at h
theorem w4 : PCalls Try.prog 34 [eL [d0, f1, d2, d3], eIs [-1, 1, 2, 3], eI 1, eI 50, eI 5, eI 2] (.bool true) := by have h := whyb_calls [d0, f1, d2, d3] [-1, 1, 2, 3] 1 50 5 2 (by decide) ok4 (by decide); rwa [show whyB [d0, f1, d2, d3] [-1, 1, 2, 3] 1 50 5 2 = true from by kernel_rfl] at h
theorem w5 : PCalls Try.prog 34 [eL [d0, f1, d2, d3], eIs [-1, 1, 2, 3], eI 2, eI 50, eI 5, eI 3] (.bool true) := by have h := whyb_calls [d0, f1, d2, d3] [-1, 1, 2, 3] 2 50 5 3 (by decide) ok4 (by decide); rwa [show whyB [d0, f1, d2, d3] [-1, 1, 2, 3] 2 50 5 3 = true from by kernel_rfl] at h
theorem w6 : PCalls Try.prog 34 [eL [d0, f1, d2, d3], eIs [-1, 1, 2, 3], eI 3, eI 9, eI 2, eI (-1)] (.bool true) := by have h := whyb_calls [d0, f1, d2, d3] [-1, 1, 2, 3] 3 9 2 (-1) (by decide) ok4 (by decide); rwa [show whyB [d0, f1, d2, d3] [-1, 1, 2, 3] 3 9 2 (-1) = true from by kernel_rfl] at h
theorem w7 : PCalls Try.prog 34 [eL [d0, f1, d2, d3], eIs [-1, 1, 2, 3], eI 3, eI 100, eI 3, eI (-1)] (.bool true) := by have h := whyb_calls [d0, f1, d2, d3] [-1, 1, 2, 3] 3 100 3 (-1) (by decide) ok4 (by decide); rwa [show whyB [d0, f1, d2, d3] [-1, 1, 2, 3] 3 100 3 (-1) = true from by kernel_rfl] at h
theorem w8 : PCalls Try.prog 34 [eL [d0, f1, d2, d3], eIs [-1, 1, 2, 3], eI 1, eI 1, eI 2, eI (-1)] (.bool true) := by have h := whyb_calls [d0, f1, d2, d3] [-1, 1, 2, 3] 1 1 2 (-1) (by decide) ok4 (by decide); rwa [show whyB [d0, f1, d2, d3] [-1, 1, 2, 3] 1 1 2 (-1) = true from by kernel_rfl] at h
theorem n0 : PCalls Try.prog 20 [eL [d0, f1, d2, d3], eIs [-1, 1, 2, 3], eI 50] (eI2 ([3], 0)) := by have h := inForce_calls [d0, f1, d2, d3] [-1, 1, 2, 3] 50 (by decide) ok4 (by decide); rwa [show inA [d0, f1, d2, d3] [-1, 1, 2, 3] 50 = ([3], 0) from by kernel_rfl] at h
theorem n1 : PCalls Try.prog 20 [eL [], eIs [], eI 0] (eI2 ([], 0)) := by have h := inForce_calls [] [] 0 (by decide) okN0 (by decide); rwa [show inA [] [] 0 = ([], 0) from by kernel_rfl] at h
theorem n2 : PCalls Try.prog 20 [eL [d0, d1], eIs [7], eI 0] (eI2 ([], 1)) := by have h := inForce_calls [d0, d1] [7] 0 (by decide) ok2 (by decide); rwa [show inA [d0, d1] [7] 0 = ([], 1) from by kernel_rfl] at h
theorem n3 : PCalls Try.prog 20 [eL [d0, d1], eIs [7, -2], eI 0] (eI2 ([], 1)) := by have h := inForce_calls [d0, d1] [7, -2] 0 (by decide) ok2 (by decide); rwa [show inA [d0, d1] [7, -2] 0 = ([], 1) from by kernel_rfl] at h
theorem y0 : PCalls Try.prog 22 [eL [], eIs [], eI 0, eI 0] (eW3 (0, 0, 1)) := by have h := why_calls [] [] 0 0 (by decide) okN0 (by decide); rwa [show whyA [] [] 0 0 = (0, 0, 1) from by kernel_rfl] at h
theorem a0 : PCalls Try.prog 13 [eL [], eA d1] (eR ([], 170)) := by have h := add_calls [] d1 (by decide) (fun y hy => (okN0 y hy).e) (ok2 d1 (by simp)).e; rwa [show addA [] d1 = ([], 170) from by kernel_rfl] at h
theorem a1 : PCalls Try.prog 13 [eL [], eA d0] (eR ([d0], 0)) := by have h := add_calls [] d0 (by decide) (fun y hy => (okN0 y hy).e) (ok2 d0 (by simp)).e; rwa [show addA [] d0 = ([d0], 0) from by kernel_rfl] at h
theorem a2 : PCalls Try.prog 13 [eL [d0, d1], eA d1] (eR ([], 151)) := by have h := add_calls [d0, d1] d1 (by decide) (fun y hy => (ok2 y hy).e) (ok2 d1 (by simp)).e; rwa [show addA [d0, d1] d1 = ([], 151) from by kernel_rfl] at h
theorem k0 : PCalls Try.prog 17 [eL []] (eI 0) := by have h := check_calls [] (by decide) (fun y hy => (okN0 y hy).e); rwa [show chkA [] = 0 from by kernel_rfl] at h
theorem k1 : PCalls Try.prog 17 [eL [d0, d1]] (eI 0) := by have h := check_calls [d0, d1] (by decide) (fun y hy => (ok2 y hy).e); rwa [show chkA [d0, d1] = 0 from by kernel_rfl] at h
theorem k2 : PCalls Try.prog 17 [eL [d1]] (eI 170) := by have h := check_calls [d1] (by decide) (fun y hy => (ok2 y (by simp only [List.mem_cons, List.not_mem_nil, or_false] at hy; subst hy; simp)).e); rwa [show chkA [d1] = 170 from by kernel_rfl] at h
def z0 : Dc := ⟨0, 0, 0, 0, 0, 0, [], [], [], fun _ => 0⟩
def zA : PV := .agg [eI 0, eI 0, eI 0, eI 0, eI 0, eI 0, .sl 0 true [], .sl 0 true [], .sl 0 true [], u8 0, u8 0, u8 0, u8 0, u8 0, u8 0, u8 0, u8 0, u8 0, u8 0, u8 0, u8 0, u8 0, u8 0, u8 0, u8 0, u8 0, u8 0, u8 0, u8 0, u8 0, u8 0, u8 0, u8 0, u8 0, u8 0, u8 0, u8 0, u8 0, u8 0, u8 0, u8 0]
theorem zA_le : PV.leL zA.cells (eA z0).cells :=
  PV.leL_cons (PV.le_refl _) (PV.leL_cons (PV.le_refl _) (PV.leL_cons (PV.le_refl _) (PV.leL_cons (PV.le_refl _) (PV.leL_cons (PV.le_refl _) (PV.leL_cons (PV.le_refl _) (PV.leL_cons (PV.le_nil _ _ _) (PV.leL_cons (PV.le_nil _ _ _) (PV.leL_cons (PV.le_nil _ _ _) (PV.leL_refl _)))))))))
theorem eA_one (x : Dc) : Go.Sg.okE 41 (eA x) := ⟨rfl, fun c hc => by
  have h : (eA x).cells.all (fun c => c.one) = true := rfl
  exact List.all_eq_true.1 h c hc⟩
theorem kz : PCalls Try.prog 17 [.sl 41 false [zA]] (eI 170) := by
  have h := check_calls [z0] (by decide) (fun y hy => by
    simp only [List.mem_cons, List.not_mem_nil, or_false] at hy; subst hy
    exact okF.e (x := z0) ⟨by decide, by decide, by decide⟩)
  rw [show chkA [z0] = 170 from by kernel_rfl] at h
  refine PCalls_leA h (PV.leL_cons (PV_le_sl rfl fun i p q hp hq => ?_) PV.leL_nil)
  match i, hp, hq with
  | 0, hp, hq =>
    have hp : some zA = some p := hp
    have hq : some (eA z0) = some q := hq
    injection hp with hp; injection hq with hq; subst hp; subst hq
    exact ⟨eA_one z0, zA_le⟩
  | i + 1, hp, _ => simp at hp
theorem k4 : PCalls Try.prog 17 [.sl 41 false (List.take (Int.toNat 4097) (List.drop 0 (List.replicate (Int.toNat 4097) zA)))] (eI 2) := by
  rw [List.drop_zero, List.take_of_length_le (by rw [List.length_replicate]; exact Nat.le_refl _)]
  exact check_lim _ (by rw [List.length_replicate]; decide)
theorem t0 : ∃ E : List Int, ¬ (((E.map (PV.int .u8)).length : Nat) : Int) = 0 ∧ PCalls Try.prog 15 [eA d0] (.tup [Cd.eB E, eI 0]) := by
  have h := text_calls d0 (by decide) (by decide) (by decide)
  have e : textA d0 = (Cd.enc (docV d0), 0) := by unfold textA; rw [show rightA d0 = true from by kernel_rfl]; rfl
  rw [e] at h
  have hp := Cd.enc_pos (docV d0)
  exact ⟨Cd.enc (docV d0), by rw [List.length_map]; omega, h⟩
theorem t1 : PCalls Try.prog 15 [eA g0] (.tup [Cd.eB [], eI 170]) := by have h := text_calls g0 (by decide) (by decide) (by decide); rwa [show textA g0 = ([], 170) from by unfold textA; rw [show rightA g0 = false from by kernel_rfl]; rfl] at h
theorem e1 : PCalls Try.prog 24 [eIs [3], eIs [3]] (.bool true) := by have h := sameI_calls [3] [3] (by decide); rwa [show decide (([3] : List Int) = [3]) = true from by kernel_rfl] at h
theorem e2 : PCalls Try.prog 19 [eL [d0], eL [d0]] (.bool true) := by have h := same_calls [d0] [d0] (by decide) (fun x hx => by simp only [List.mem_cons, List.not_mem_nil, or_false] at hx; subst hx; exact ⟨by decide, by decide, by decide⟩); rwa [sameLB_refl] at h
theorem sane_calls : PCalls Try.prog 10 [] (.bool true) := by
  obtain ⟨E, hT, tt⟩ := t0
  refine PCalls.of (N := 229) (res := [.tmp 0]) mixed Try.func10 rfl rfl rfl (by kernel_rfl) (by simp) [0, 1, 2, 3, 4, 5, 6, 7, 10, 12, 13, 14, 16, 18, 20, 21, 22, 24, 50, 86, 193] ?_
  repeat' (first | exact cl1 | ((with_reducible show Exists _); first | exact exHM _ | refine exU8 ?_) | ((with_reducible show callX _ _ _ _ _); (first | (refine call_z (m0) (by kernel_rfl) rfl ?_; (repeat' (first | exact PV.leL_nil | refine PV.leL_cons ?_ ?_ | refine And.intro ?_ ?_ | exact Nat.zero_lt_succ _ | exact Nat.le_of_ble_eq_true rfl | exact PV.le_refl _ | exact PV.le_nil _ _ _ | exact PV.le_clip _ _ _ | refine PV.le_agg ?_ | refine PV.le_tup ?_ | rfl)); fail_if_success (any_goals (refine PV.le_of ?_))) | (refine call_z (m1) (by kernel_rfl) rfl ?_; (repeat' (first | exact PV.leL_nil | refine PV.leL_cons ?_ ?_ | refine And.intro ?_ ?_ | exact Nat.zero_lt_succ _ | exact Nat.le_of_ble_eq_true rfl | exact PV.le_refl _ | exact PV.le_nil _ _ _ | exact PV.le_clip _ _ _ | refine PV.le_agg ?_ | refine PV.le_tup ?_ | rfl)); fail_if_success (any_goals (refine PV.le_of ?_))) | (refine call_z (m2) (by kernel_rfl) rfl ?_; (repeat' (first | exact PV.leL_nil | refine PV.leL_cons ?_ ?_ | refine And.intro ?_ ?_ | exact Nat.zero_lt_succ _ | exact Nat.le_of_ble_eq_true rfl | exact PV.le_refl _ | exact PV.le_nil _ _ _ | exact PV.le_clip _ _ _ | refine PV.le_agg ?_ | refine PV.le_tup ?_ | rfl)); fail_if_success (any_goals (refine PV.le_of ?_))) | (refine call_z (m3) (by kernel_rfl) rfl ?_; (repeat' (first | exact PV.leL_nil | refine PV.leL_cons ?_ ?_ | refine And.intro ?_ ?_ | exact Nat.zero_lt_succ _ | exact Nat.le_of_ble_eq_true rfl | exact PV.le_refl _ | exact PV.le_nil _ _ _ | exact PV.le_clip _ _ _ | refine PV.le_agg ?_ | refine PV.le_tup ?_ | rfl)); fail_if_success (any_goals (refine PV.le_of ?_))) | (refine call_z (m4) (by kernel_rfl) rfl ?_; (repeat' (first | exact PV.leL_nil | refine PV.leL_cons ?_ ?_ | refine And.intro ?_ ?_ | exact Nat.zero_lt_succ _ | exact Nat.le_of_ble_eq_true rfl | exact PV.le_refl _ | exact PV.le_nil _ _ _ | exact PV.le_clip _ _ _ | refine PV.le_agg ?_ | refine PV.le_tup ?_ | rfl)); fail_if_success (any_goals (refine PV.le_of ?_))) | (refine call_z (m5) (by kernel_rfl) rfl ?_; (repeat' (first | exact PV.leL_nil | refine PV.leL_cons ?_ ?_ | refine And.intro ?_ ?_ | exact Nat.zero_lt_succ _ | exact Nat.le_of_ble_eq_true rfl | exact PV.le_refl _ | exact PV.le_nil _ _ _ | exact PV.le_clip _ _ _ | refine PV.le_agg ?_ | refine PV.le_tup ?_ | rfl)); fail_if_success (any_goals (refine PV.le_of ?_))) | (refine call_z (w0) (by kernel_rfl) rfl ?_; (repeat' (first | exact PV.leL_nil | refine PV.leL_cons ?_ ?_ | refine And.intro ?_ ?_ | exact Nat.zero_lt_succ _ | exact Nat.le_of_ble_eq_true rfl | exact PV.le_refl _ | exact PV.le_nil _ _ _ | exact PV.le_clip _ _ _ | refine PV.le_agg ?_ | refine PV.le_tup ?_ | rfl)); fail_if_success (any_goals (refine PV.le_of ?_))) | (refine call_z (w1) (by kernel_rfl) rfl ?_; (repeat' (first | exact PV.leL_nil | refine PV.leL_cons ?_ ?_ | refine And.intro ?_ ?_ | exact Nat.zero_lt_succ _ | exact Nat.le_of_ble_eq_true rfl | exact PV.le_refl _ | exact PV.le_nil _ _ _ | exact PV.le_clip _ _ _ | refine PV.le_agg ?_ | refine PV.le_tup ?_ | rfl)); fail_if_success (any_goals (refine PV.le_of ?_))) | (refine call_z (w2) (by kernel_rfl) rfl ?_; (repeat' (first | exact PV.leL_nil | refine PV.leL_cons ?_ ?_ | refine And.intro ?_ ?_ | exact Nat.zero_lt_succ _ | exact Nat.le_of_ble_eq_true rfl | exact PV.le_refl _ | exact PV.le_nil _ _ _ | exact PV.le_clip _ _ _ | refine PV.le_agg ?_ | refine PV.le_tup ?_ | rfl)); fail_if_success (any_goals (refine PV.le_of ?_))) | (refine call_z (w3) (by kernel_rfl) rfl ?_; (repeat' (first | exact PV.leL_nil | refine PV.leL_cons ?_ ?_ | refine And.intro ?_ ?_ | exact Nat.zero_lt_succ _ | exact Nat.le_of_ble_eq_true rfl | exact PV.le_refl _ | exact PV.le_nil _ _ _ | exact PV.le_clip _ _ _ | refine PV.le_agg ?_ | refine PV.le_tup ?_ | rfl)); fail_if_success (any_goals (refine PV.le_of ?_))) | (refine call_z (w4) (by kernel_rfl) rfl ?_; (repeat' (first | exact PV.leL_nil | refine PV.leL_cons ?_ ?_ | refine And.intro ?_ ?_ | exact Nat.zero_lt_succ _ | exact Nat.le_of_ble_eq_true rfl | exact PV.le_refl _ | exact PV.le_nil _ _ _ | exact PV.le_clip _ _ _ | refine PV.le_agg ?_ | refine PV.le_tup ?_ | rfl)); fail_if_success (any_goals (refine PV.le_of ?_))) | (refine call_z (w5) (by kernel_rfl) rfl ?_; (repeat' (first | exact PV.leL_nil | refine PV.leL_cons ?_ ?_ | refine And.intro ?_ ?_ | exact Nat.zero_lt_succ _ | exact Nat.le_of_ble_eq_true rfl | exact PV.le_refl _ | exact PV.le_nil _ _ _ | exact PV.le_clip _ _ _ | refine PV.le_agg ?_ | refine PV.le_tup ?_ | rfl)); fail_if_success (any_goals (refine PV.le_of ?_))) | (refine call_z (w6) (by kernel_rfl) rfl ?_; (repeat' (first | exact PV.leL_nil | refine PV.leL_cons ?_ ?_ | refine And.intro ?_ ?_ | exact Nat.zero_lt_succ _ | exact Nat.le_of_ble_eq_true rfl | exact PV.le_refl _ | exact PV.le_nil _ _ _ | exact PV.le_clip _ _ _ | refine PV.le_agg ?_ | refine PV.le_tup ?_ | rfl)); fail_if_success (any_goals (refine PV.le_of ?_))) | (refine call_z (w7) (by kernel_rfl) rfl ?_; (repeat' (first | exact PV.leL_nil | refine PV.leL_cons ?_ ?_ | refine And.intro ?_ ?_ | exact Nat.zero_lt_succ _ | exact Nat.le_of_ble_eq_true rfl | exact PV.le_refl _ | exact PV.le_nil _ _ _ | exact PV.le_clip _ _ _ | refine PV.le_agg ?_ | refine PV.le_tup ?_ | rfl)); fail_if_success (any_goals (refine PV.le_of ?_))) | (refine call_z (w8) (by kernel_rfl) rfl ?_; (repeat' (first | exact PV.leL_nil | refine PV.leL_cons ?_ ?_ | refine And.intro ?_ ?_ | exact Nat.zero_lt_succ _ | exact Nat.le_of_ble_eq_true rfl | exact PV.le_refl _ | exact PV.le_nil _ _ _ | exact PV.le_clip _ _ _ | refine PV.le_agg ?_ | refine PV.le_tup ?_ | rfl)); fail_if_success (any_goals (refine PV.le_of ?_))) | (refine call_z (n0) (by kernel_rfl) rfl ?_; (repeat' (first | exact PV.leL_nil | refine PV.leL_cons ?_ ?_ | refine And.intro ?_ ?_ | exact Nat.zero_lt_succ _ | exact Nat.le_of_ble_eq_true rfl | exact PV.le_refl _ | exact PV.le_nil _ _ _ | exact PV.le_clip _ _ _ | refine PV.le_agg ?_ | refine PV.le_tup ?_ | rfl)); fail_if_success (any_goals (refine PV.le_of ?_))) | (refine call_z (n1) (by kernel_rfl) rfl ?_; (repeat' (first | exact PV.leL_nil | refine PV.leL_cons ?_ ?_ | refine And.intro ?_ ?_ | exact Nat.zero_lt_succ _ | exact Nat.le_of_ble_eq_true rfl | exact PV.le_refl _ | exact PV.le_nil _ _ _ | exact PV.le_clip _ _ _ | refine PV.le_agg ?_ | refine PV.le_tup ?_ | rfl)); fail_if_success (any_goals (refine PV.le_of ?_))) | (refine call_z (n2) (by kernel_rfl) rfl ?_; (repeat' (first | exact PV.leL_nil | refine PV.leL_cons ?_ ?_ | refine And.intro ?_ ?_ | exact Nat.zero_lt_succ _ | exact Nat.le_of_ble_eq_true rfl | exact PV.le_refl _ | exact PV.le_nil _ _ _ | exact PV.le_clip _ _ _ | refine PV.le_agg ?_ | refine PV.le_tup ?_ | rfl)); fail_if_success (any_goals (refine PV.le_of ?_))) | (refine call_z (n3) (by kernel_rfl) rfl ?_; (repeat' (first | exact PV.leL_nil | refine PV.leL_cons ?_ ?_ | refine And.intro ?_ ?_ | exact Nat.zero_lt_succ _ | exact Nat.le_of_ble_eq_true rfl | exact PV.le_refl _ | exact PV.le_nil _ _ _ | exact PV.le_clip _ _ _ | refine PV.le_agg ?_ | refine PV.le_tup ?_ | rfl)); fail_if_success (any_goals (refine PV.le_of ?_))) | (refine call_z (y0) (by kernel_rfl) rfl ?_; (repeat' (first | exact PV.leL_nil | refine PV.leL_cons ?_ ?_ | refine And.intro ?_ ?_ | exact Nat.zero_lt_succ _ | exact Nat.le_of_ble_eq_true rfl | exact PV.le_refl _ | exact PV.le_nil _ _ _ | exact PV.le_clip _ _ _ | refine PV.le_agg ?_ | refine PV.le_tup ?_ | rfl)); fail_if_success (any_goals (refine PV.le_of ?_))) | (refine call_z (a0) (by kernel_rfl) rfl ?_; (repeat' (first | exact PV.leL_nil | refine PV.leL_cons ?_ ?_ | refine And.intro ?_ ?_ | exact Nat.zero_lt_succ _ | exact Nat.le_of_ble_eq_true rfl | exact PV.le_refl _ | exact PV.le_nil _ _ _ | exact PV.le_clip _ _ _ | refine PV.le_agg ?_ | refine PV.le_tup ?_ | rfl)); fail_if_success (any_goals (refine PV.le_of ?_))) | (refine call_z (a1) (by kernel_rfl) rfl ?_; (repeat' (first | exact PV.leL_nil | refine PV.leL_cons ?_ ?_ | refine And.intro ?_ ?_ | exact Nat.zero_lt_succ _ | exact Nat.le_of_ble_eq_true rfl | exact PV.le_refl _ | exact PV.le_nil _ _ _ | exact PV.le_clip _ _ _ | refine PV.le_agg ?_ | refine PV.le_tup ?_ | rfl)); fail_if_success (any_goals (refine PV.le_of ?_))) | (refine call_z (a2) (by kernel_rfl) rfl ?_; (repeat' (first | exact PV.leL_nil | refine PV.leL_cons ?_ ?_ | refine And.intro ?_ ?_ | exact Nat.zero_lt_succ _ | exact Nat.le_of_ble_eq_true rfl | exact PV.le_refl _ | exact PV.le_nil _ _ _ | exact PV.le_clip _ _ _ | refine PV.le_agg ?_ | refine PV.le_tup ?_ | rfl)); fail_if_success (any_goals (refine PV.le_of ?_))) | (refine call_z (k0) (by kernel_rfl) rfl ?_; (repeat' (first | exact PV.leL_nil | refine PV.leL_cons ?_ ?_ | refine And.intro ?_ ?_ | exact Nat.zero_lt_succ _ | exact Nat.le_of_ble_eq_true rfl | exact PV.le_refl _ | exact PV.le_nil _ _ _ | exact PV.le_clip _ _ _ | refine PV.le_agg ?_ | refine PV.le_tup ?_ | rfl)); fail_if_success (any_goals (refine PV.le_of ?_))) | (refine call_z (k1) (by kernel_rfl) rfl ?_; (repeat' (first | exact PV.leL_nil | refine PV.leL_cons ?_ ?_ | refine And.intro ?_ ?_ | exact Nat.zero_lt_succ _ | exact Nat.le_of_ble_eq_true rfl | exact PV.le_refl _ | exact PV.le_nil _ _ _ | exact PV.le_clip _ _ _ | refine PV.le_agg ?_ | refine PV.le_tup ?_ | rfl)); fail_if_success (any_goals (refine PV.le_of ?_))) | (refine call_z (k2) (by kernel_rfl) rfl ?_; (repeat' (first | exact PV.leL_nil | refine PV.leL_cons ?_ ?_ | refine And.intro ?_ ?_ | exact Nat.zero_lt_succ _ | exact Nat.le_of_ble_eq_true rfl | exact PV.le_refl _ | exact PV.le_nil _ _ _ | exact PV.le_clip _ _ _ | refine PV.le_agg ?_ | refine PV.le_tup ?_ | rfl)); fail_if_success (any_goals (refine PV.le_of ?_))) | (refine call_z (t1) (by kernel_rfl) rfl ?_; (repeat' (first | exact PV.leL_nil | refine PV.leL_cons ?_ ?_ | refine And.intro ?_ ?_ | exact Nat.zero_lt_succ _ | exact Nat.le_of_ble_eq_true rfl | exact PV.le_refl _ | exact PV.le_nil _ _ _ | exact PV.le_clip _ _ _ | refine PV.le_agg ?_ | refine PV.le_tup ?_ | rfl)); fail_if_success (any_goals (refine PV.le_of ?_))) | (refine call_z (e1) (by kernel_rfl) rfl ?_; (repeat' (first | exact PV.leL_nil | refine PV.leL_cons ?_ ?_ | refine And.intro ?_ ?_ | exact Nat.zero_lt_succ _ | exact Nat.le_of_ble_eq_true rfl | exact PV.le_refl _ | exact PV.le_nil _ _ _ | exact PV.le_clip _ _ _ | refine PV.le_agg ?_ | refine PV.le_tup ?_ | rfl)); fail_if_success (any_goals (refine PV.le_of ?_))) | (refine call_z (e2) (by kernel_rfl) rfl ?_; (repeat' (first | exact PV.leL_nil | refine PV.leL_cons ?_ ?_ | refine And.intro ?_ ?_ | exact Nat.zero_lt_succ _ | exact Nat.le_of_ble_eq_true rfl | exact PV.le_refl _ | exact PV.le_nil _ _ _ | exact PV.le_clip _ _ _ | refine PV.le_agg ?_ | refine PV.le_tup ?_ | rfl)); fail_if_success (any_goals (refine PV.le_of ?_))) | (refine call_z (tt) (by kernel_rfl) rfl ?_; (repeat' (first | exact PV.leL_nil | refine PV.leL_cons ?_ ?_ | refine And.intro ?_ ?_ | exact Nat.zero_lt_succ _ | exact Nat.le_of_ble_eq_true rfl | exact PV.le_refl _ | exact PV.le_nil _ _ _ | exact PV.le_clip _ _ _ | refine PV.le_agg ?_ | refine PV.le_tup ?_ | rfl)); fail_if_success (any_goals (refine PV.le_of ?_))) | (refine call_z (kz) (by kernel_rfl) rfl ?_; (repeat' (first | exact PV.leL_nil | refine PV.leL_cons ?_ ?_ | refine And.intro ?_ ?_ | exact Nat.zero_lt_succ _ | exact Nat.le_of_ble_eq_true rfl | exact PV.le_refl _ | exact PV.le_nil _ _ _ | exact PV.le_clip _ _ _ | refine PV.le_agg ?_ | refine PV.le_tup ?_ | rfl)); fail_if_success (any_goals (refine PV.le_of ?_))) | (refine call_z (k4) (by kernel_rfl) rfl ?_; refine And.intro ⟨rfl, Nat.zero_lt_succ _, (by show _ ≤ (List.replicate _ _).length; rw [List.length_replicate]; exact Nat.le_of_eq (Nat.zero_add _))⟩ ?_; refine And.intro (PV.leL_cons (PV.le_refl _) PV.leL_nil) ?_) | exact of_decide_eq_true rfl)) | ((fail_if_success refine stp ?_); (conv => whnf) <;> (first | exact cl2 | refine Br.tt ?_ | refine Br.ff ?_ | refine ix_lit rfl ?_ | refine Br.dec (fun hc => absurd hc hT) (fun hc => ?_) | refine Sq.fz (id := 2) [(1, false)] ?_ | refine Sq.fz (id := 6) [(2, false), (3, false)] ?_ | refine XAlt.l ?_ | refine Sq.pr ?_ | refine Br.dec (fun hc => ?_) (fun hc => ?_) | refine Br.tt ?_ | refine Br.ff ?_ | refine Br.not ?_ | refine Br.mk (fun hc => ?_) (fun hc => ?_) | refine Opt.nn ?_ | refine Opt.ss ?_ | refine AltA.l ?_ | exact PV.leL_nil | refine PV.leL_cons ?_ ?_ | refine And.intro ?_ ?_ | refine ix_map (fun x hx => ?_) | refine exU8 ?_ | refine nilc (fun hn => ?_) ?_ | (refine call_z (k4) (by kernel_rfl) rfl ?_; refine And.intro ⟨rfl, Nat.zero_lt_succ _, (by show _ ≤ (List.replicate _ _).length; rw [List.length_replicate]; exact Nat.le_of_eq (Nat.zero_add _))⟩ ?_; refine And.intro (PV.leL_cons (PV.le_refl _) PV.leL_nil) ?_) | exact of_decide_eq_true rfl | exact cl3 | refine imp0 (fun hpos => ?_) | refine fits_i64 ?_ ?_ | exact rfl | exact trivial | (first | refine stq ?_ | fail)))) <;> (try exact cl5)
  all_goals trace_state
end Go.Proofs.Ytgclicahmbgfiaa

namespace Go.Proofs.Ytgclicahmbgfiaa
open Go Go.Sg
set_option maxRecDepth 100000
set_option maxHeartbeats 8000000
def fewD (x : Dc) : Bool := decide (x.par.length ≤ 20) && decide (x.rev.length ≤ 20) && decide (x.need.length ≤ 20)
def fewN (l : List Dc) : Bool := decide (l.length ≤ 20) || decide (4096 < l.length) && decide (l.length ≤ 4200)
def fewA (l : List Dc) : Bool := (l.take 30).all fewD && fewN l
theorem few_calls (l : List Dc) (hl : l.length < 140737488355328) : PCalls Try.prog 11 [eL l] (.bool (fewA l)) := by
  refine PCalls.of (N := 33) (res := [.tmp 2]) mixed Try.func11 rfl rfl rfl (by kernel_rfl) (by simp) [0, 2, 3, 11, 19] ?_
  repeat' (first | exact cl1 | ((with_reducible show Exists _); first | exact exHM _ | refine exU8 ?_) | ((fail_if_success refine stp ?_); (conv => whnf) <;> (first | exact cl2 | refine XAlt.l ?_ | refine Sq.pr ?_ | refine Br.dec (fun hc => ?_) (fun hc => ?_) | refine Br.tt ?_ | refine Br.ff ?_ | refine Br.not ?_ | refine Br.mk (fun hc => ?_) (fun hc => ?_) | refine Opt.nn ?_ | refine Opt.ss ?_ | refine AltA.l ?_ | exact PV.leL_nil | refine PV.leL_cons ?_ ?_ | refine And.intro ?_ ?_ | refine ix_map (fun x hx => ?_) | refine exU8 ?_ | refine nilc (fun hn => ?_) ?_ | exact cl3 | refine imp0 (fun hpos => ?_) | refine fits_i64 ?_ ?_ | exact rfl | exact trivial | (first | refine stq ?_ | fail)))) <;> (try exact cl5)
  refine Wpc.loopB (α := {i : Nat // i ≤ l.length ∧ i ≤ 30 ∧ ∀ j w, j < i → l[j]? = some w → fewD w = true}) mixed [0, 2, 3, 11, 19] (fun i => [(3, .p (eI i.1))]) (fun i => l.length - i.1) ⟨0, by omega, by omega, by intro j w h; omega⟩ ?_ ?_
  · (first | refine Ent.ofA [] ?_ | refine Ent.ofC [] ?_) <;> (repeat' (first | exact trivial | refine HpLe.dd ?_ | refine HpLe.mk rfl (by simp) rfl (fun h => AObj.noConfusion h) ?_ ?_ | refine And.intro ?_ ?_ | exact cl9 | refine VLe.pe ?_ | refine VLe.agg ?_ | refine VLe.tup ?_ | refine VLe.fn ?_ ?_ | refine VLeL.cons ?_ ?_ | exact VLeL.nil | exact OLe.row _ _ | rfl | refine VLe.rsle rfl ?_ ?_ ?_ | refine OLe.rowe2 ?_ ?_ | refine OLe.mape ?_ ?_ | refine OLe.iter0 ?_ | refine OLe.itere ?_ ?_ | refine OLe.chane ?_ ?_ | refine OLe.mapSe ?_ ?_ ?_ | exact OLe.mapS0 rfl)) <;> try (first | (simp; done) | (congr 1; omega) | (congr 1; (first | (simp; done) | (simp; omega))))
  rintro ⟨i, hi, h30, hq⟩
  have hi : i ≤ l.length := hi
  have h30 : i ≤ 30 := h30
  have hq : ∀ j w, j < i → l[j]? = some w → fewD w = true := hq
  by_cases hin : i < l.length ∧ i < 30
  · obtain ⟨y, hy⟩ : ∃ y, l[i]? = some y := ⟨_, List.getElem?_eq_getElem hin.1⟩
    have hyes : ((i : Int) < ((l.map eA).length : Int)) := by rw [List.length_map]; omega
    have h3 : (i : Int) < 30 := by omega
    have q : PCalls Try.prog 12 [eA y] (.bool (fewD y)) := fewD_calls y
    cases hf : fewD y with
    | false =>
      rw [hf] at q
      have e : fewA l = false := by
        unfold fewA
        rw [show (l.take 30).all fewD = false from List.all_eq_false.2 ⟨y, List.mem_of_getElem? (i := i) (by rw [List.getElem?_take, if_pos hin.2]; exact hy), by rw [hf]; exact Bool.false_ne_true⟩]; rfl
      rw [e]
      repeat' (first | exact cl1 | ((with_reducible show Exists _); first | exact exHM _ | refine exU8 ?_) | ((with_reducible show callX _ _ _ _ _); (first | refine call_p (q) (by kernel_rfl) rfl ?_)) | ((fail_if_success refine stp ?_); (conv => whnf) <;> (first | exact cl2 | refine Br.dec (fun hc => ?_) (fun hc => absurd hyes hc) | refine Br.dec (fun hc => ?_) (fun hc => absurd h3 hc) | refine ix_at hy ?_ | refine XAlt.l ?_ | refine Sq.pr ?_ | refine Br.dec (fun hc => ?_) (fun hc => ?_) | refine Br.tt ?_ | refine Br.ff ?_ | refine Br.not ?_ | refine Br.mk (fun hc => ?_) (fun hc => ?_) | refine Opt.nn ?_ | refine Opt.ss ?_ | refine AltA.l ?_ | exact PV.leL_nil | refine PV.leL_cons ?_ ?_ | refine And.intro ?_ ?_ | refine ix_map (fun x hx => ?_) | refine exU8 ?_ | refine nilc (fun hn => ?_) ?_ | exact cl3 | refine imp0 (fun hpos => ?_) | refine fits_i64 ?_ ?_ | exact rfl | exact trivial | (first | refine stq ?_ | fail)))) <;> (try exact cl5)
    | true =>
      rw [hf] at q
      repeat' (first | exact cl1 | ((with_reducible show Exists _); first | exact exHM _ | refine exU8 ?_) | ((with_reducible show callX _ _ _ _ _); (first | refine call_p (q) (by kernel_rfl) rfl ?_)) | ((fail_if_success refine stp ?_); (conv => whnf) <;> (first | exact cl2 | refine Br.dec (fun hc => ?_) (fun hc => absurd hyes hc) | refine Br.dec (fun hc => ?_) (fun hc => absurd h3 hc) | refine ix_at hy ?_ | refine XAlt.l ?_ | refine Sq.pr ?_ | refine Br.dec (fun hc => ?_) (fun hc => ?_) | refine Br.tt ?_ | refine Br.ff ?_ | refine Br.not ?_ | refine Br.mk (fun hc => ?_) (fun hc => ?_) | refine Opt.nn ?_ | refine Opt.ss ?_ | refine AltA.l ?_ | exact PV.leL_nil | refine PV.leL_cons ?_ ?_ | refine And.intro ?_ ?_ | refine ix_map (fun x hx => ?_) | refine exU8 ?_ | refine nilc (fun hn => ?_) ?_ | exact cl3 | refine imp0 (fun hpos => ?_) | refine fits_i64 ?_ ?_ | exact rfl | exact trivial | (first | refine stq ?_ | fail)))) <;> (try exact cl5)
      refine ⟨⟨i + 1, hin.1, hin.2, fun j w hj hw => ?_⟩, by show l.length - (i + 1) < l.length - i; omega, ?_⟩
      · rcases Nat.lt_succ_iff_lt_or_eq.1 hj with h1 | h1
        · exact hq j w h1 hw
        · rw [h1, hy] at hw; injection hw with hw; rw [← hw]; exact hf
      · (first | refine Ent.ofA [] ?_ | refine Ent.ofC [] ?_) <;> (repeat' (first | exact trivial | refine HpLe.dd ?_ | refine HpLe.mk rfl (by simp) rfl (fun h => AObj.noConfusion h) ?_ ?_ | refine And.intro ?_ ?_ | exact cl9 | refine VLe.pe ?_ | refine VLe.agg ?_ | refine VLe.tup ?_ | refine VLe.fn ?_ ?_ | refine VLeL.cons ?_ ?_ | exact VLeL.nil | exact OLe.row _ _ | rfl | refine VLe.rsle rfl ?_ ?_ ?_ | refine OLe.rowe2 ?_ ?_ | refine OLe.mape ?_ ?_ | refine OLe.iter0 ?_ | refine OLe.itere ?_ ?_ | refine OLe.chane ?_ ?_ | refine OLe.mapSe ?_ ?_ ?_ | exact OLe.mapS0 rfl)) <;> try (first | (simp; done) | (congr 1; omega) | (congr 1; (first | (simp; done) | (simp; omega))))
  · have e : (l.take 30).all fewD = true := List.all_eq_true.2 fun w hw => by
      obtain ⟨j, hj⟩ := List.getElem?_of_mem hw
      rw [List.getElem?_take] at hj
      split at hj
      · exact hq j w (by have := (List.getElem?_eq_some_iff.1 hj).1; omega) hj
      · cases hj
    have hA : fewA l = fewN l := by unfold fewA; rw [e, Bool.true_and]
    rw [hA]
    by_cases h1 : i < l.length
    · have h3 : ¬ (i : Int) < 30 := by omega
      have hyes : ((i : Int) < ((l.map eA).length : Int)) := by rw [List.length_map]; omega
      repeat' (first | exact cl1 | ((with_reducible show Exists _); first | exact exHM _ | refine exU8 ?_) | ((fail_if_success refine stp ?_); (conv => whnf) <;> (first | exact cl2 | refine Br.dec (fun hc => ?_) (fun hc => absurd hyes hc) | refine Br.dec (fun hc => absurd hc h3) (fun hc => ?_) | refine XAlt.l ?_ | refine Sq.pr ?_ | refine Br.dec (fun hc => ?_) (fun hc => ?_) | refine Br.tt ?_ | refine Br.ff ?_ | refine Br.not ?_ | refine Br.mk (fun hc => ?_) (fun hc => ?_) | refine Opt.nn ?_ | refine Opt.ss ?_ | refine AltA.l ?_ | exact PV.leL_nil | refine PV.leL_cons ?_ ?_ | refine And.intro ?_ ?_ | refine ix_map (fun x hx => ?_) | refine exU8 ?_ | refine nilc (fun hn => ?_) ?_ | exact cl3 | refine imp0 (fun hpos => ?_) | refine fits_i64 ?_ ?_ | exact rfl | exact trivial | (first | refine stq ?_ | fail)))) <;> (try exact cl5)
      all_goals (simp only [List.length_map] at *; refine LeG.bool ?_; unfold fewN; (by_cases h1 : l.length ≤ 20) <;> (by_cases h2 : 4096 < l.length) <;> (by_cases h3 : l.length ≤ 4200) <;> simp [h1, h2, h3] <;> omega)
    · have hno : ¬ ((i : Int) < ((l.map eA).length : Int)) := by rw [List.length_map]; omega
      repeat' (first | exact cl1 | ((with_reducible show Exists _); first | exact exHM _ | refine exU8 ?_) | ((fail_if_success refine stp ?_); (conv => whnf) <;> (first | exact cl2 | refine Br.dec (fun hc => absurd hc hno) (fun hc => ?_) | refine XAlt.l ?_ | refine Sq.pr ?_ | refine Br.dec (fun hc => ?_) (fun hc => ?_) | refine Br.tt ?_ | refine Br.ff ?_ | refine Br.not ?_ | refine Br.mk (fun hc => ?_) (fun hc => ?_) | refine Opt.nn ?_ | refine Opt.ss ?_ | refine AltA.l ?_ | exact PV.leL_nil | refine PV.leL_cons ?_ ?_ | refine And.intro ?_ ?_ | refine ix_map (fun x hx => ?_) | refine exU8 ?_ | refine nilc (fun hn => ?_) ?_ | exact cl3 | refine imp0 (fun hpos => ?_) | refine fits_i64 ?_ ?_ | exact rfl | exact trivial | (first | refine stq ?_ | fail)))) <;> (try exact cl5)
      all_goals (simp only [List.length_map] at *; refine LeG.bool ?_; unfold fewN; (by_cases h1 : l.length ≤ 20) <;> (by_cases h2 : 4096 < l.length) <;> (by_cases h3 : l.length ≤ 4200) <;> simp [h1, h2, h3] <;> omega)
end Go.Proofs.Ytgclicahmbgfiaa
