/- A part of the proof: contracts of the functions that the statement reaches. -/
import Derived.Test.YtijkiolobmkhhaaEng4
import Derived.Test.YtijkiolobmkhhaaProg
set_option linter.unusedSimpArgs false
set_option linter.unusedVariables false
set_option linter.unnecessarySimpa false
namespace Go.Proofs.Ytijkiolobmkhhaa
open Go Go.Sg
abbrev Bs := List Int
structure Wr where
  pos : Int
  data : Bs
structure Dk where
  secs : List Bs
  pend : List Wr
  left : Int
  stop : Bool
def eB (b : Bs) : PV := .sl 1 false (b.map (PV.int .u8))
def eI (i : Int) : PV := .int .i64 i
def eW (w : Wr) : PV := .agg [eI w.pos, eB w.data]
def eS (l : List Bs) : PV := .sl 1 false (l.map eB)
def eP (l : List Wr) : PV := .sl 2 false (l.map eW)
def eD (d : Dk) : PV := .agg [eS d.secs, eP d.pend, eI d.left, .bool d.stop]
theorem mixed : Try.prog.follows .mixedOrders = true := by kernel_rfl
set_option maxRecDepth 100000
set_option maxHeartbeats 4000000
def isS (b : Bs) : Bool := decide ((b.length : Int) = 128)
theorem isSector_calls (b : Bs) : PCalls Try.prog 56 [eB b] (.bool (isS b)) := by
  refine PCalls.of (N := 6) (res := [.tmp 2]) mixed Try.func56 rfl rfl rfl (by kernel_rfl) (by simp) [0, 2] ?_
  repeat' (first | exact cl1 | ((with_reducible show Exists _); refine exU8 ?_) | ((fail_if_success with_reducible first | show LeG _ _ | show Lp _ _ _ _ | show Exists _ | show callX _ _ _ _ _ | show (_ : Int) ≤ _ | show (_ : Int) < _ | show (_ : Nat) ≤ _ | show (_ : Nat) < _); (conv => whnf) <;> (first | exact cl2 | refine XAlt.l ?_ | refine Sq.pr ?_ | refine Br.dec (fun hc => ?_) (fun hc => ?_) | refine Br.tt ?_ | refine Br.ff ?_ | refine Br.not ?_ | refine Br.mk (fun hc => ?_) (fun hc => ?_) | refine Opt.nn ?_ | refine Opt.ss ?_ | refine AltA.l ?_ | exact PV.leL_nil | refine PV.leL_cons ?_ ?_ | refine And.intro ?_ ?_ | refine ix_map (fun x hx => ?_) | refine exU8 ?_ | refine nilc (fun hn => ?_) ?_ | exact cl3 | refine imp0 (fun hpos => ?_) | refine fits_i64 ?_ ?_ | exact rfl | (with_reducible first | show LeG _ _ | show Lp _ _ _ _ | show Exists _ | show callX _ _ _ _ _)))) <;> (try exact cl5)
  simp [isS]
def badW (n : Int) (w : Wr) : Bool := decide (w.pos < 0) || decide (w.pos ≥ n) || !isS w.data
theorem bad1_calls (n : Int) (w : Wr) : PCalls Try.prog 55 [eW w, .ro [eI n]] (.bool (badW n w)) := by
  refine PCalls.of (N := 19) (res := [.tmp 3]) mixed Try.func55 rfl rfl rfl (by kernel_rfl) (by simp) [0, 1, 2, 3] ?_
  repeat' (first | exact cl1 | ((with_reducible show Exists _); refine exU8 ?_) | ((with_reducible show callX _ _ _ _ _); (first | refine call_p (isSector_calls _) (by kernel_rfl) rfl ?_)) | ((fail_if_success with_reducible first | show LeG _ _ | show Lp _ _ _ _ | show Exists _ | show callX _ _ _ _ _ | show (_ : Int) ≤ _ | show (_ : Int) < _ | show (_ : Nat) ≤ _ | show (_ : Nat) < _); (conv => whnf) <;> (first | exact cl2 | refine XAlt.l ?_ | refine Sq.pr ?_ | refine Br.dec (fun hc => ?_) (fun hc => ?_) | refine Br.tt ?_ | refine Br.ff ?_ | refine Br.not ?_ | refine Br.mk (fun hc => ?_) (fun hc => ?_) | refine Opt.nn ?_ | refine Opt.ss ?_ | refine AltA.l ?_ | exact PV.leL_nil | refine PV.leL_cons ?_ ?_ | refine And.intro ?_ ?_ | refine ix_map (fun x hx => ?_) | refine exU8 ?_ | refine nilc (fun hn => ?_) ?_ | exact cl3 | refine imp0 (fun hpos => ?_) | refine fits_i64 ?_ ?_ | exact rfl | (with_reducible first | show LeG _ _ | show Lp _ _ _ _ | show Exists _ | show callX _ _ _ _ _)))) <;> (try exact cl5)
  all_goals (refine LeG.bool ?_; simp [badW]; try omega)
theorem bad2_calls (b : Bs) : PCalls Try.prog 59 [eB b] (.bool (!isS b)) := by
  refine PCalls.of (N := 6) (res := [.tmp 2]) mixed Try.func59 rfl rfl rfl (by kernel_rfl) (by simp) [0, 2] ?_
  repeat' (first | exact cl1 | ((with_reducible show Exists _); refine exU8 ?_) | ((with_reducible show callX _ _ _ _ _); (first | refine call_p (isSector_calls _) (by kernel_rfl) rfl ?_)) | ((fail_if_success with_reducible first | show LeG _ _ | show Lp _ _ _ _ | show Exists _ | show callX _ _ _ _ _ | show (_ : Int) ≤ _ | show (_ : Int) < _ | show (_ : Nat) ≤ _ | show (_ : Nat) < _); (conv => whnf) <;> (first | exact cl2 | refine XAlt.l ?_ | refine Sq.pr ?_ | refine Br.dec (fun hc => ?_) (fun hc => ?_) | refine Br.tt ?_ | refine Br.ff ?_ | refine Br.not ?_ | refine Br.mk (fun hc => ?_) (fun hc => ?_) | refine Opt.nn ?_ | refine Opt.ss ?_ | refine AltA.l ?_ | exact PV.leL_nil | refine PV.leL_cons ?_ ?_ | refine And.intro ?_ ?_ | refine ix_map (fun x hx => ?_) | refine exU8 ?_ | refine nilc (fun hn => ?_) ?_ | exact cl3 | refine imp0 (fun hpos => ?_) | refine fits_i64 ?_ ?_ | exact rfl | (with_reducible first | show LeG _ _ | show Lp _ _ _ _ | show Exists _ | show callX _ _ _ _ _)))) <;> (try exact cl5)
def fIx {α : Type} (q : α → Bool) (l : List α) : Int := match l.findIdx? q with | some i => i | none => -1
theorem fIx_some {α : Type} {q : α → Bool} {l : List α} {i : Nat} {x : α} (h : l[i]? = some x) (hq : q x = true) (hn : ∀ j w, j < i → l[j]? = some w → q w = false) : fIx q l = i := by
  have : l.findIdx? q = some i := by
    rw [List.findIdx?_eq_some_iff_getElem]
    obtain ⟨h1, h2⟩ := List.getElem?_eq_some_iff.1 h
    refine ⟨h1, by rw [h2]; exact hq, fun j hj => ?_⟩
    rw [hn j l[j] hj (List.getElem?_eq_getElem _)]; simp
  simp [fIx, this]
theorem fIx_none {α : Type} {q : α → Bool} {l : List α} (hn : ∀ j w, j < l.length → l[j]? = some w → q w = false) : fIx q l = -1 := by
  have : l.findIdx? q = none := by
    rw [List.findIdx?_eq_none_iff]
    intro x hx
    obtain ⟨j, hj⟩ := List.getElem?_of_mem hx
    exact hn j x (List.getElem?_eq_some_iff.1 hj).1 hj
  simp [fIx, this]
theorem indexW_calls (f : FuncId) (cs : List PV) (q : Wr → Bool) (h : ∀ w, PCalls Try.prog f (eW w :: cs) (.bool (q w))) (hf : enters Try.prog f = true) (l : List Wr) (hl : l.length < 1000000) :
    PCalls Try.prog 70 [eP l, .fn (.func f) [] cs] (eI (fIx q l)) := by
  refine PCalls.of (N := 19) (res := [.tmp 4]) mixed Try.func70 rfl rfl rfl (by kernel_rfl) (by simp) [0, 1, 4, 5, 7, 8, 9, 16] ?_
  repeat' (first | exact cl1 | ((with_reducible show Exists _); refine exU8 ?_) | ((fail_if_success with_reducible first | show LeG _ _ | show Lp _ _ _ _ | show Exists _ | show callX _ _ _ _ _ | show (_ : Int) ≤ _ | show (_ : Int) < _ | show (_ : Nat) ≤ _ | show (_ : Nat) < _); (conv => whnf) <;> (first | exact cl2 | refine XAlt.l ?_ | refine Sq.pr ?_ | refine Br.dec (fun hc => ?_) (fun hc => ?_) | refine Br.tt ?_ | refine Br.ff ?_ | refine Br.not ?_ | refine Br.mk (fun hc => ?_) (fun hc => ?_) | refine Opt.nn ?_ | refine Opt.ss ?_ | refine AltA.l ?_ | exact PV.leL_nil | refine PV.leL_cons ?_ ?_ | refine And.intro ?_ ?_ | refine ix_map (fun x hx => ?_) | refine exU8 ?_ | refine nilc (fun hn => ?_) ?_ | exact cl3 | refine imp0 (fun hpos => ?_) | refine fits_i64 ?_ ?_ | exact rfl | (with_reducible first | show LeG _ _ | show Lp _ _ _ _ | show Exists _ | show callX _ _ _ _ _)))) <;> (try exact cl5)
  refine Wpc.loop (α := {i : Nat // i ≤ l.length ∧ ∀ j w, j < i → l[j]? = some w → q w = false}) mixed [0, 1, 4, 5, 7, 8, 9, 16] (fun i => ⟨[(0, .p (eP l)), (1, .p (.fn (.func f) [] cs)), (4, .p (eI 0)), (7, .p (eI l.length)), (8, .p (eI i.1))], [], 64, 0⟩) (fun i => l.length - i.1) ⟨0, by omega, by intro j w h; omega⟩ ?_ ?_
  · refine Ent.of [] [] ?_ ?_ (by decide) (by simp) (by first | decide | simp) rfl <;> (repeat' (first | exact trivial | refine HpLe.dd ?_ | refine HpLe.mk rfl (by simp) rfl (fun h => AObj.noConfusion h) ?_ ?_ | refine And.intro ?_ ?_ | exact cl9 | refine VLe.pe ?_ | refine VLe.agg ?_ | refine VLe.tup ?_ | refine VLe.fn ?_ ?_ | refine VLeL.cons ?_ ?_ | exact VLeL.nil | exact OLe.row _ _ | rfl | refine VLe.rsle rfl ?_ ?_ ?_ | refine OLe.rowe2 ?_ ?_ | refine OLe.mape ?_ ?_ | refine OLe.iter0 ?_ | refine OLe.itere ?_ ?_))
    simp [eI]
  intro i
  obtain ⟨hi, hq⟩ := i.2
  repeat' (first | exact cl1 | ((with_reducible show Exists _); refine exU8 ?_) | ((with_reducible show callX _ _ _ _ _); (first | refine call_p (h _) hf rfl ?_)) | ((fail_if_success with_reducible first | show LeG _ _ | show Lp _ _ _ _ | show Exists _ | show callX _ _ _ _ _ | show (_ : Int) ≤ _ | show (_ : Int) < _ | show (_ : Nat) ≤ _ | show (_ : Nat) < _); (conv => whnf) <;> (first | exact cl2 | refine XAlt.l ?_ | refine Sq.pr ?_ | refine Br.dec (fun hc => ?_) (fun hc => ?_) | refine Br.tt ?_ | refine Br.ff ?_ | refine Br.not ?_ | refine Br.mk (fun hc => ?_) (fun hc => ?_) | refine Opt.nn ?_ | refine Opt.ss ?_ | refine AltA.l ?_ | exact PV.leL_nil | refine PV.leL_cons ?_ ?_ | refine And.intro ?_ ?_ | refine ix_map (fun x hx => ?_) | refine exU8 ?_ | refine nilc (fun hn => ?_) ?_ | refine call_p (h _) hf rfl ?_ | exact cl3 | refine imp0 (fun hpos => ?_) | refine fits_i64 ?_ ?_ | exact rfl | (with_reducible first | show LeG _ _ | show Lp _ _ _ _ | show Exists _ | show callX _ _ _ _ _)))) <;> (try exact cl5)
  · rw [fIx_some hx hc hq]; exact LeG.refl _
  · refine ⟨⟨i.1 + 1, by omega, fun j w hj hw => ?_⟩, by show l.length - (i.1 + 1) < _; omega, ?_⟩
    · rcases Nat.lt_succ_iff_lt_or_eq.1 hj with h | h
      · exact hq j w h hw
      · subst h; rw [show ((i.1 : Int).toNat) = i.1 from rfl, hw] at hx; injection hx with hx; rw [hx]; exact hc
    · refine Ent.of [] [] ?_ ?_ (by decide) (by simp) (by first | decide | simp) rfl <;> (repeat' (first | exact trivial | refine HpLe.dd ?_ | refine HpLe.mk rfl (by simp) rfl (fun h => AObj.noConfusion h) ?_ ?_ | refine And.intro ?_ ?_ | exact cl9 | refine VLe.pe ?_ | refine VLe.agg ?_ | refine VLe.tup ?_ | refine VLe.fn ?_ ?_ | refine VLeL.cons ?_ ?_ | exact VLeL.nil | exact OLe.row _ _ | rfl | refine VLe.rsle rfl ?_ ?_ ?_ | refine OLe.rowe2 ?_ ?_ | refine OLe.mape ?_ ?_ | refine OLe.iter0 ?_ | refine OLe.itere ?_ ?_))
  · have := fIx_none (q := q) (l := l) fun j w hj hw => hq j w (by omega) hw
    rw [this]; exact LeG.refl _
theorem indexB_calls (f : FuncId) (cs : List PV) (q : Bs → Bool) (h : ∀ w, PCalls Try.prog f (eB w :: cs) (.bool (q w))) (hf : enters Try.prog f = true) (l : List Bs) (hl : l.length < 1000000) :
    PCalls Try.prog 71 [eS l, .fn (.func f) [] cs] (eI (fIx q l)) := by
  refine PCalls.of (N := 19) (res := [.tmp 4]) mixed Try.func71 rfl rfl rfl (by kernel_rfl) (by simp) [0, 1, 4, 5, 7, 8, 9, 16] ?_
  repeat' (first | exact cl1 | ((with_reducible show Exists _); refine exU8 ?_) | ((fail_if_success with_reducible first | show LeG _ _ | show Lp _ _ _ _ | show Exists _ | show callX _ _ _ _ _ | show (_ : Int) ≤ _ | show (_ : Int) < _ | show (_ : Nat) ≤ _ | show (_ : Nat) < _); (conv => whnf) <;> (first | exact cl2 | refine XAlt.l ?_ | refine Sq.pr ?_ | refine Br.dec (fun hc => ?_) (fun hc => ?_) | refine Br.tt ?_ | refine Br.ff ?_ | refine Br.not ?_ | refine Br.mk (fun hc => ?_) (fun hc => ?_) | refine Opt.nn ?_ | refine Opt.ss ?_ | refine AltA.l ?_ | exact PV.leL_nil | refine PV.leL_cons ?_ ?_ | refine And.intro ?_ ?_ | refine ix_map (fun x hx => ?_) | refine exU8 ?_ | refine nilc (fun hn => ?_) ?_ | exact cl3 | refine imp0 (fun hpos => ?_) | refine fits_i64 ?_ ?_ | exact rfl | (with_reducible first | show LeG _ _ | show Lp _ _ _ _ | show Exists _ | show callX _ _ _ _ _)))) <;> (try exact cl5)
  refine Wpc.loop (α := {i : Nat // i ≤ l.length ∧ ∀ j w, j < i → l[j]? = some w → q w = false}) mixed [0, 1, 4, 5, 7, 8, 9, 16] (fun i => ⟨[(0, .p (eS l)), (1, .p (.fn (.func f) [] cs)), (4, .p (eI 0)), (7, .p (eI l.length)), (8, .p (eI i.1))], [], 64, 0⟩) (fun i => l.length - i.1) ⟨0, by omega, by intro j w h; omega⟩ ?_ ?_
  · refine Ent.of [] [] ?_ ?_ (by decide) (by simp) (by first | decide | simp) rfl <;> (repeat' (first | exact trivial | refine HpLe.dd ?_ | refine HpLe.mk rfl (by simp) rfl (fun h => AObj.noConfusion h) ?_ ?_ | refine And.intro ?_ ?_ | exact cl9 | refine VLe.pe ?_ | refine VLe.agg ?_ | refine VLe.tup ?_ | refine VLe.fn ?_ ?_ | refine VLeL.cons ?_ ?_ | exact VLeL.nil | exact OLe.row _ _ | rfl | refine VLe.rsle rfl ?_ ?_ ?_ | refine OLe.rowe2 ?_ ?_ | refine OLe.mape ?_ ?_ | refine OLe.iter0 ?_ | refine OLe.itere ?_ ?_))
    simp [eI]
  intro i
  obtain ⟨hi, hq⟩ := i.2
  repeat' (first | exact cl1 | ((with_reducible show Exists _); refine exU8 ?_) | ((with_reducible show callX _ _ _ _ _); (first | refine call_p (h _) hf rfl ?_)) | ((fail_if_success with_reducible first | show LeG _ _ | show Lp _ _ _ _ | show Exists _ | show callX _ _ _ _ _ | show (_ : Int) ≤ _ | show (_ : Int) < _ | show (_ : Nat) ≤ _ | show (_ : Nat) < _); (conv => whnf) <;> (first | exact cl2 | refine XAlt.l ?_ | refine Sq.pr ?_ | refine Br.dec (fun hc => ?_) (fun hc => ?_) | refine Br.tt ?_ | refine Br.ff ?_ | refine Br.not ?_ | refine Br.mk (fun hc => ?_) (fun hc => ?_) | refine Opt.nn ?_ | refine Opt.ss ?_ | refine AltA.l ?_ | exact PV.leL_nil | refine PV.leL_cons ?_ ?_ | refine And.intro ?_ ?_ | refine ix_map (fun x hx => ?_) | refine exU8 ?_ | refine nilc (fun hn => ?_) ?_ | refine call_p (h _) hf rfl ?_ | exact cl3 | refine imp0 (fun hpos => ?_) | refine fits_i64 ?_ ?_ | exact rfl | (with_reducible first | show LeG _ _ | show Lp _ _ _ _ | show Exists _ | show callX _ _ _ _ _)))) <;> (try exact cl5)
  · rw [fIx_some hx hc hq]; exact LeG.refl _
  · refine ⟨⟨i.1 + 1, by omega, fun j w hj hw => ?_⟩, by show l.length - (i.1 + 1) < _; omega, ?_⟩
    · rcases Nat.lt_succ_iff_lt_or_eq.1 hj with h | h
      · exact hq j w h hw
      · subst h; rw [show ((i.1 : Int).toNat) = i.1 from rfl, hw] at hx; injection hx with hx; rw [hx]; exact hc
    · refine Ent.of [] [] ?_ ?_ (by decide) (by simp) (by first | decide | simp) rfl <;> (repeat' (first | exact trivial | refine HpLe.dd ?_ | refine HpLe.mk rfl (by simp) rfl (fun h => AObj.noConfusion h) ?_ ?_ | refine And.intro ?_ ?_ | exact cl9 | refine VLe.pe ?_ | refine VLe.agg ?_ | refine VLe.tup ?_ | refine VLe.fn ?_ ?_ | refine VLeL.cons ?_ ?_ | exact VLeL.nil | exact OLe.row _ _ | rfl | refine VLe.rsle rfl ?_ ?_ ?_ | refine OLe.rowe2 ?_ ?_ | refine OLe.mape ?_ ?_ | refine OLe.iter0 ?_ | refine OLe.itere ?_ ?_))
  · have := fIx_none (q := q) (l := l) fun j w hj hw => hq j w (by omega) hw
    rw [this]; exact LeG.refl _
theorem fIx_any {α : Type} (q : α → Bool) (l : List α) : decide (fIx q l ≥ 0) = l.any q := by
  unfold fIx
  cases h : l.findIdx? q with
  | none =>
    rw [List.findIdx?_eq_none_iff] at h
    simp only [ge_iff_le]
    have : l.any q = false := by rw [List.any_eq_false]; intro x hx; rw [h x hx]; simp
    rw [this]; rfl
  | some i =>
    obtain ⟨h1, h2, _⟩ := List.findIdx?_eq_some_iff_getElem.1 h
    have : l.any q = true := List.any_eq_true.2 ⟨_, List.getElem_mem h1, h2⟩
    rw [this]; simp
theorem hasW_calls (f : FuncId) (cs : List PV) (q : Wr → Bool) (h : ∀ w, PCalls Try.prog f (eW w :: cs) (.bool (q w))) (hf : enters Try.prog f = true) (l : List Wr) (hl : l.length < 1000000) :
    PCalls Try.prog 57 [eP l, .fn (.func f) [] cs] (.bool (l.any q)) := by
  rw [← fIx_any]
  refine PCalls.of (N := 9) (res := [.tmp 4]) mixed Try.func57 rfl rfl rfl (by kernel_rfl) (by simp) [0, 1, 4] ?_
  repeat' (first | exact cl1 | ((with_reducible show Exists _); refine exU8 ?_) | ((with_reducible show callX _ _ _ _ _); (first | refine call_p (indexW_calls f cs q h hf _ hl) (by kernel_rfl) rfl ?_)) | ((fail_if_success with_reducible first | show LeG _ _ | show Lp _ _ _ _ | show Exists _ | show callX _ _ _ _ _ | show (_ : Int) ≤ _ | show (_ : Int) < _ | show (_ : Nat) ≤ _ | show (_ : Nat) < _); (conv => whnf) <;> (first | exact cl2 | refine XAlt.l ?_ | refine Sq.pr ?_ | refine Br.dec (fun hc => ?_) (fun hc => ?_) | refine Br.tt ?_ | refine Br.ff ?_ | refine Br.not ?_ | refine Br.mk (fun hc => ?_) (fun hc => ?_) | refine Opt.nn ?_ | refine Opt.ss ?_ | refine AltA.l ?_ | exact PV.leL_nil | refine PV.leL_cons ?_ ?_ | refine And.intro ?_ ?_ | refine ix_map (fun x hx => ?_) | refine exU8 ?_ | refine nilc (fun hn => ?_) ?_ | exact cl3 | refine imp0 (fun hpos => ?_) | refine fits_i64 ?_ ?_ | exact rfl | (with_reducible first | show LeG _ _ | show Lp _ _ _ _ | show Exists _ | show callX _ _ _ _ _)))) <;> (try exact cl5)
theorem hasB_calls (f : FuncId) (cs : List PV) (q : Bs → Bool) (h : ∀ w, PCalls Try.prog f (eB w :: cs) (.bool (q w))) (hf : enters Try.prog f = true) (l : List Bs) (hl : l.length < 1000000) :
    PCalls Try.prog 58 [eS l, .fn (.func f) [] cs] (.bool (l.any q)) := by
  rw [← fIx_any]
  refine PCalls.of (N := 9) (res := [.tmp 4]) mixed Try.func58 rfl rfl rfl (by kernel_rfl) (by simp) [0, 1, 4] ?_
  repeat' (first | exact cl1 | ((with_reducible show Exists _); refine exU8 ?_) | ((with_reducible show callX _ _ _ _ _); (first | refine call_p (indexB_calls f cs q h hf _ hl) (by kernel_rfl) rfl ?_)) | ((fail_if_success with_reducible first | show LeG _ _ | show Lp _ _ _ _ | show Exists _ | show callX _ _ _ _ _ | show (_ : Int) ≤ _ | show (_ : Int) < _ | show (_ : Nat) ≤ _ | show (_ : Nat) < _); (conv => whnf) <;> (first | exact cl2 | refine XAlt.l ?_ | refine Sq.pr ?_ | refine Br.dec (fun hc => ?_) (fun hc => ?_) | refine Br.tt ?_ | refine Br.ff ?_ | refine Br.not ?_ | refine Br.mk (fun hc => ?_) (fun hc => ?_) | refine Opt.nn ?_ | refine Opt.ss ?_ | refine AltA.l ?_ | exact PV.leL_nil | refine PV.leL_cons ?_ ?_ | refine And.intro ?_ ?_ | refine ix_map (fun x hx => ?_) | refine exU8 ?_ | refine nilc (fun hn => ?_) ?_ | exact cl3 | refine imp0 (fun hpos => ?_) | refine fits_i64 ?_ ?_ | exact rfl | (with_reducible first | show LeG _ _ | show Lp _ _ _ _ | show Exists _ | show callX _ _ _ _ _)))) <;> (try exact cl5)
def okD (d : Dk) : Bool := if ((d.secs.map eB).length : Int) < 1 then false else if 4096 < ((d.secs.map eB).length : Int) then false else if 4096 < ((d.pend.map eW).length : Int) then false else if d.left < -1 then false else if 65536 < d.left then false
  else if d.pend.any (badW d.secs.length) then false else !d.secs.any (fun b => !isS b)
def eE (n : Int) : PV := .int .i64 n
theorem check_calls (d : Dk) (h1 : d.secs.length < 1000000) (h2 : d.pend.length < 1000000) : PCalls Try.prog 31 [eD d] (eE (if okD d then 0 else 40)) := by
  refine PCalls.of (N := 40) (res := [.tmp 2]) mixed Try.func31 rfl rfl rfl (by kernel_rfl) (by simp) [0, 1, 2, 3, 4, 36, 39] ?_
  repeat' (first | exact cl1 | ((with_reducible show Exists _); refine exU8 ?_) | ((with_reducible show callX _ _ _ _ _); (first | refine call_z (hasW_calls 55 [.ro [eI d.secs.length]] (badW d.secs.length) (bad1_calls _) (by kernel_rfl) d.pend h2) (by kernel_rfl) rfl ?_ | refine call_p (hasB_calls 59 [] (fun b => !isS b) bad2_calls (by kernel_rfl) d.secs h1) (by kernel_rfl) rfl ?_)) | ((fail_if_success with_reducible first | show LeG _ _ | show Lp _ _ _ _ | show Exists _ | show callX _ _ _ _ _ | show (_ : Int) ≤ _ | show (_ : Int) < _ | show (_ : Nat) ≤ _ | show (_ : Nat) < _); (conv => whnf) <;> (first | exact cl2 | refine XAlt.l ?_ | refine Sq.pr ?_ | refine Br.dec (fun hc => ?_) (fun hc => ?_) | refine Br.tt ?_ | refine Br.ff ?_ | refine Br.not ?_ | refine Br.mk (fun hc => ?_) (fun hc => ?_) | refine Opt.nn ?_ | refine Opt.ss ?_ | refine AltA.l ?_ | exact PV.leL_nil | refine PV.leL_cons ?_ ?_ | refine And.intro ?_ ?_ | refine ix_map (fun x hx => ?_) | refine exU8 ?_ | refine nilc (fun hn => ?_) ?_ | refine call_z (hasW_calls 55 [.ro [eI d.secs.length]] (badW d.secs.length) (bad1_calls _) (by kernel_rfl) d.pend h2) (by kernel_rfl) rfl ?_ | refine call_p (hasB_calls 59 [] (fun b => !isS b) bad2_calls (by kernel_rfl) d.secs h1) (by kernel_rfl) rfl ?_ | exact cl3 | refine imp0 (fun hpos => ?_) | refine fits_i64 ?_ ?_ | exact rfl | (with_reducible first | show LeG _ _ | show Lp _ _ _ _ | show Exists _ | show callX _ _ _ _ _)))) <;> (try exact cl5)
  ((all_goals (try simp only [okD, *, ↓reduceIte, Bool.false_eq_true, Bool.not_true, Bool.not_false, Bool.and_true, Bool.true_and, Bool.and_false, Bool.false_and, List.nil_append, List.drop_zero, Nat.zero_add, List.take_length, Int.toNat_natCast, Int.toNat_zero, List.append_nil]))); ((all_goals (try refine LeG.mk ?_)); (repeat' (first | exact PV.le_refl _ | exact PV.le_nil _ _ _ | exact PV.le_clip _ _ _ | exact PV.le_nilF _ _ _ | refine PV.le_agg ?_ | refine PV.le_tup ?_ | exact PV.leL_nil | refine PV.leL_cons ?_ ?_ | refine PV.le_of ?_ | rfl)))
  simp only [eI, List.length_map]
theorem restart_calls (d : Dk) : PCalls Try.prog 30 [eD d] (eD ⟨d.secs, [], -1, false⟩) := by
  refine PCalls.of (N := 6) (res := [.cell 2 25]) mixed Try.func30 rfl rfl rfl (by kernel_rfl) (by simp) [0, 1, 2] ?_
  repeat' (first | exact cl1 | ((with_reducible show Exists _); refine exU8 ?_) | ((fail_if_success with_reducible first | show LeG _ _ | show Lp _ _ _ _ | show Exists _ | show callX _ _ _ _ _ | show (_ : Int) ≤ _ | show (_ : Int) < _ | show (_ : Nat) ≤ _ | show (_ : Nat) < _); (conv => whnf) <;> (first | exact cl2 | refine XAlt.l ?_ | refine Sq.pr ?_ | refine Br.dec (fun hc => ?_) (fun hc => ?_) | refine Br.tt ?_ | refine Br.ff ?_ | refine Br.not ?_ | refine Br.mk (fun hc => ?_) (fun hc => ?_) | refine Opt.nn ?_ | refine Opt.ss ?_ | refine AltA.l ?_ | exact PV.leL_nil | refine PV.leL_cons ?_ ?_ | refine And.intro ?_ ?_ | refine ix_map (fun x hx => ?_) | refine exU8 ?_ | refine nilc (fun hn => ?_) ?_ | exact cl3 | refine imp0 (fun hpos => ?_) | refine fits_i64 ?_ ?_ | exact rfl | (with_reducible first | show LeG _ _ | show Lp _ _ _ _ | show Exists _ | show callX _ _ _ _ _)))) <;> (try exact cl5)
  ((all_goals (try refine LeG.mk ?_)); (repeat' (first | exact PV.le_refl _ | exact PV.le_nil _ _ _ | exact PV.le_clip _ _ _ | exact PV.le_nilF _ _ _ | refine PV.le_agg ?_ | refine PV.le_tup ?_ | exact PV.leL_nil | refine PV.leL_cons ?_ ?_ | refine PV.le_of ?_ | rfl)))
def d0 : Dk := ⟨[], [], 0, false⟩
def runD (d : Dk) : Bool := okD d && !d.stop
theorem runs_calls (d : Dk) (h1 : d.secs.length < 1000000) (h2 : d.pend.length < 1000000) : PCalls Try.prog 50 [eD d] (.bool (runD d)) := by
  unfold runD
  refine PCalls.of (N := 11) (res := [.tmp 2]) mixed Try.func50 rfl rfl rfl (by kernel_rfl) (by simp) [0, 1, 2] ?_
  repeat' (first | exact cl1 | ((with_reducible show Exists _); refine exU8 ?_) | ((with_reducible show callX _ _ _ _ _); (first | refine call_p (check_calls _ h1 h2) (by kernel_rfl) rfl ?_)) | ((fail_if_success with_reducible first | show LeG _ _ | show Lp _ _ _ _ | show Exists _ | show callX _ _ _ _ _ | show (_ : Int) ≤ _ | show (_ : Int) < _ | show (_ : Nat) ≤ _ | show (_ : Nat) < _); (conv => whnf) <;> (first | exact cl2 | refine XAlt.l ?_ | refine Sq.pr ?_ | refine Br.dec (fun hc => ?_) (fun hc => ?_) | refine Br.tt ?_ | refine Br.ff ?_ | refine Br.not ?_ | refine Br.mk (fun hc => ?_) (fun hc => ?_) | refine Opt.nn ?_ | refine Opt.ss ?_ | refine AltA.l ?_ | exact PV.leL_nil | refine PV.leL_cons ?_ ?_ | refine And.intro ?_ ?_ | refine ix_map (fun x hx => ?_) | refine exU8 ?_ | refine nilc (fun hn => ?_) ?_ | exact cl3 | refine imp0 (fun hpos => ?_) | refine fits_i64 ?_ ?_ | exact rfl | (with_reducible first | show LeG _ _ | show Lp _ _ _ _ | show Exists _ | show callX _ _ _ _ _)))) <;> (try exact cl5)
  all_goals cases hd : okD d <;> simp_all
def hasD (d : Dk) (i : Int) : Bool := decide (0 ≤ i) && decide (i < d.secs.length)
theorem has_calls (d : Dk) (i : Int) : PCalls Try.prog 51 [eD d, eI i] (.bool (hasD d i)) := by
  refine PCalls.of (N := 14) (res := [.tmp 4]) mixed Try.func51 rfl rfl rfl (by kernel_rfl) (by simp) [0, 1, 2, 4] ?_
  repeat' (first | exact cl1 | ((with_reducible show Exists _); refine exU8 ?_) | ((fail_if_success with_reducible first | show LeG _ _ | show Lp _ _ _ _ | show Exists _ | show callX _ _ _ _ _ | show (_ : Int) ≤ _ | show (_ : Int) < _ | show (_ : Nat) ≤ _ | show (_ : Nat) < _); (conv => whnf) <;> (first | exact cl2 | refine XAlt.l ?_ | refine Sq.pr ?_ | refine Br.dec (fun hc => ?_) (fun hc => ?_) | refine Br.tt ?_ | refine Br.ff ?_ | refine Br.not ?_ | refine Br.mk (fun hc => ?_) (fun hc => ?_) | refine Opt.nn ?_ | refine Opt.ss ?_ | refine AltA.l ?_ | exact PV.leL_nil | refine PV.leL_cons ?_ ?_ | refine And.intro ?_ ?_ | refine ix_map (fun x hx => ?_) | refine exU8 ?_ | refine nilc (fun hn => ?_) ?_ | exact cl3 | refine imp0 (fun hpos => ?_) | refine fits_i64 ?_ ?_ | exact rfl | (with_reducible first | show LeG _ _ | show Lp _ _ _ _ | show Exists _ | show callX _ _ _ _ _)))) <;> (try exact cl5)
  all_goals (refine LeG.bool ?_; simp [hasD]; omega)
def stopD (d : Dk) (n : Int) : Dk × Int := if runD d then (if n < 0 then (d0, 1) else if 65536 < n then (d0, 1) else ({ d with left := n }, 0)) else (d0, 40)
def eR (x : Dk × Int) : PV := .tup [eD x.1, eE x.2]
theorem stop_calls (d : Dk) (n : Int) (h1 : d.secs.length < 1000000) (h2 : d.pend.length < 1000000) : PCalls Try.prog 29 [eD d, eI n] (eR (stopD d n)) := by
  refine PCalls.of (N := 22) (res := [.cell 4 25, .tmp 5]) mixed Try.func29 rfl rfl rfl (by kernel_rfl) (by simp) [0, 1, 2, 4, 5, 6, 11] ?_
  repeat' (first | exact cl1 | ((with_reducible show Exists _); refine exU8 ?_) | ((with_reducible show callX _ _ _ _ _); (first | refine call_p (runs_calls _ h1 h2) (by kernel_rfl) rfl ?_)) | ((fail_if_success with_reducible first | show LeG _ _ | show Lp _ _ _ _ | show Exists _ | show callX _ _ _ _ _ | show (_ : Int) ≤ _ | show (_ : Int) < _ | show (_ : Nat) ≤ _ | show (_ : Nat) < _); (conv => whnf) <;> (first | exact cl2 | refine XAlt.l ?_ | refine Sq.pr ?_ | refine Br.dec (fun hc => ?_) (fun hc => ?_) | refine Br.tt ?_ | refine Br.ff ?_ | refine Br.not ?_ | refine Br.mk (fun hc => ?_) (fun hc => ?_) | refine Opt.nn ?_ | refine Opt.ss ?_ | refine AltA.l ?_ | exact PV.leL_nil | refine PV.leL_cons ?_ ?_ | refine And.intro ?_ ?_ | refine ix_map (fun x hx => ?_) | refine exU8 ?_ | refine nilc (fun hn => ?_) ?_ | exact cl3 | refine imp0 (fun hpos => ?_) | refine fits_i64 ?_ ?_ | exact rfl | (with_reducible first | show LeG _ _ | show Lp _ _ _ _ | show Exists _ | show callX _ _ _ _ _)))) <;> (try exact cl5)
  ((all_goals (try simp only [stopD, *, ↓reduceIte, Bool.false_eq_true, Bool.not_true, Bool.not_false, Bool.and_true, Bool.true_and, Bool.and_false, Bool.false_and, List.nil_append, List.drop_zero, Nat.zero_add, List.take_length, Int.toNat_natCast, Int.toNat_zero, List.append_nil]))); ((all_goals (try refine LeG.mk ?_)); (repeat' (first | exact PV.le_refl _ | exact PV.le_nil _ _ _ | exact PV.le_clip _ _ _ | exact PV.le_nilF _ _ _ | refine PV.le_agg ?_ | refine PV.le_tup ?_ | exact PV.leL_nil | refine PV.leL_cons ?_ ?_ | refine PV.le_of ?_ | rfl)))
theorem cloneW_calls (l : List Wr) (hl : l.length < 1000000) : PCalls Try.prog 53 [eP l] (eP l) := by
  refine PCalls.of (N := 8) (res := [.tmp 2]) mixed Try.func53 rfl rfl rfl (by kernel_rfl) (by simp) [0, 2, 4] ?_
  repeat' (first | exact cl1 | ((with_reducible show Exists _); refine exU8 ?_) | ((fail_if_success with_reducible first | show LeG _ _ | show Lp _ _ _ _ | show Exists _ | show callX _ _ _ _ _ | show (_ : Int) ≤ _ | show (_ : Int) < _ | show (_ : Nat) ≤ _ | show (_ : Nat) < _); (conv => whnf) <;> (first | exact cl2 | refine XAlt.l ?_ | refine Sq.pr ?_ | refine Br.dec (fun hc => ?_) (fun hc => ?_) | refine Br.tt ?_ | refine Br.ff ?_ | refine Br.not ?_ | refine Br.mk (fun hc => ?_) (fun hc => ?_) | refine Opt.nn ?_ | refine Opt.ss ?_ | refine AltA.l ?_ | exact PV.leL_nil | refine PV.leL_cons ?_ ?_ | refine And.intro ?_ ?_ | refine ix_map (fun x hx => ?_) | refine exU8 ?_ | refine nilc (fun hn => ?_) ?_ | exact cl3 | refine imp0 (fun hpos => ?_) | refine fits_i64 ?_ ?_ | exact rfl | (with_reducible first | show LeG _ _ | show Lp _ _ _ _ | show Exists _ | show callX _ _ _ _ _)))) <;> (try exact cl5)
  ((all_goals (try simp only [eP, *, ↓reduceIte, Bool.false_eq_true, Bool.not_true, Bool.not_false, Bool.and_true, Bool.true_and, Bool.and_false, Bool.false_and, List.nil_append, List.drop_zero, Nat.zero_add, List.take_length, Int.toNat_natCast, Int.toNat_zero, List.append_nil]))); ((all_goals (try refine LeG.mk ?_)); (repeat' (first | exact PV.le_refl _ | exact PV.le_nil _ _ _ | exact PV.le_clip _ _ _ | exact PV.le_nilF _ _ _ | refine PV.le_agg ?_ | refine PV.le_tup ?_ | exact PV.leL_nil | refine PV.leL_cons ?_ ?_ | refine PV.le_of ?_ | rfl)))
theorem cloneB_calls (l : Bs) (hl : l.length < 1000000) : PCalls Try.prog 38 [eB l] (eB l) := by
  refine PCalls.of (N := 8) (res := [.tmp 2]) mixed Try.func38 rfl rfl rfl (by kernel_rfl) (by simp) [0, 2, 4] ?_
  repeat' (first | exact cl1 | ((with_reducible show Exists _); refine exU8 ?_) | ((fail_if_success with_reducible first | show LeG _ _ | show Lp _ _ _ _ | show Exists _ | show callX _ _ _ _ _ | show (_ : Int) ≤ _ | show (_ : Int) < _ | show (_ : Nat) ≤ _ | show (_ : Nat) < _); (conv => whnf) <;> (first | exact cl2 | refine XAlt.l ?_ | refine Sq.pr ?_ | refine Br.dec (fun hc => ?_) (fun hc => ?_) | refine Br.tt ?_ | refine Br.ff ?_ | refine Br.not ?_ | refine Br.mk (fun hc => ?_) (fun hc => ?_) | refine Opt.nn ?_ | refine Opt.ss ?_ | refine AltA.l ?_ | exact PV.leL_nil | refine PV.leL_cons ?_ ?_ | refine And.intro ?_ ?_ | refine ix_map (fun x hx => ?_) | refine exU8 ?_ | refine nilc (fun hn => ?_) ?_ | exact cl3 | refine imp0 (fun hpos => ?_) | refine fits_i64 ?_ ?_ | exact rfl | (with_reducible first | show LeG _ _ | show Lp _ _ _ _ | show Exists _ | show callX _ _ _ _ _)))) <;> (try exact cl5)
  ((all_goals (try simp only [eB, *, ↓reduceIte, Bool.false_eq_true, Bool.not_true, Bool.not_false, Bool.and_true, Bool.true_and, Bool.and_false, Bool.false_and, List.nil_append, List.drop_zero, Nat.zero_add, List.take_length, Int.toNat_natCast, Int.toNat_zero, List.append_nil]))); ((all_goals (try refine LeG.mk ?_)); (repeat' (first | exact PV.le_refl _ | exact PV.le_nil _ _ _ | exact PV.le_clip _ _ _ | exact PV.le_nilF _ _ _ | refine PV.le_agg ?_ | refine PV.le_tup ?_ | exact PV.leL_nil | refine PV.leL_cons ?_ ?_ | refine PV.le_of ?_ | rfl)))
theorem cloneS_calls (l : List Bs) (hl : l.length < 1000000) : PCalls Try.prog 69 [eS l] (eS l) := by
  refine PCalls.of (N := 8) (res := [.tmp 2]) mixed Try.func69 rfl rfl rfl (by kernel_rfl) (by simp) [0, 2, 4] ?_
  repeat' (first | exact cl1 | ((with_reducible show Exists _); refine exU8 ?_) | ((fail_if_success with_reducible first | show LeG _ _ | show Lp _ _ _ _ | show Exists _ | show callX _ _ _ _ _ | show (_ : Int) ≤ _ | show (_ : Int) < _ | show (_ : Nat) ≤ _ | show (_ : Nat) < _); (conv => whnf) <;> (first | exact cl2 | refine XAlt.l ?_ | refine Sq.pr ?_ | refine Br.dec (fun hc => ?_) (fun hc => ?_) | refine Br.tt ?_ | refine Br.ff ?_ | refine Br.not ?_ | refine Br.mk (fun hc => ?_) (fun hc => ?_) | refine Opt.nn ?_ | refine Opt.ss ?_ | refine AltA.l ?_ | exact PV.leL_nil | refine PV.leL_cons ?_ ?_ | refine And.intro ?_ ?_ | refine ix_map (fun x hx => ?_) | refine exU8 ?_ | refine nilc (fun hn => ?_) ?_ | exact cl3 | refine imp0 (fun hpos => ?_) | refine fits_i64 ?_ ?_ | exact rfl | (with_reducible first | show LeG _ _ | show Lp _ _ _ _ | show Exists _ | show callX _ _ _ _ _)))) <;> (try exact cl5)
  ((all_goals (try simp only [eS, *, ↓reduceIte, Bool.false_eq_true, Bool.not_true, Bool.not_false, Bool.and_true, Bool.true_and, Bool.and_false, Bool.false_and, List.nil_append, List.drop_zero, Nat.zero_add, List.take_length, Int.toNat_natCast, Int.toNat_zero, List.append_nil]))); ((all_goals (try refine LeG.mk ?_)); (repeat' (first | exact PV.le_refl _ | exact PV.le_nil _ _ _ | exact PV.le_clip _ _ _ | exact PV.le_nilF _ _ _ | refine PV.le_agg ?_ | refine PV.le_tup ?_ | exact PV.leL_nil | refine PV.leL_cons ?_ ?_ | refine PV.le_of ?_ | rfl)))
theorem clip_calls (l : List Wr) : PCalls Try.prog 52 [eP l] (.sl 2 true (l.map eW)) := by
  refine PCalls.of (N := 9) (res := [.tmp 2]) mixed Try.func52 rfl rfl rfl (by kernel_rfl) (by simp) [0, 2] ?_
  repeat' (first | exact cl1 | ((with_reducible show Exists _); refine exU8 ?_) | ((fail_if_success with_reducible first | show LeG _ _ | show Lp _ _ _ _ | show Exists _ | show callX _ _ _ _ _ | show (_ : Int) ≤ _ | show (_ : Int) < _ | show (_ : Nat) ≤ _ | show (_ : Nat) < _); (conv => whnf) <;> (first | exact cl2 | refine XAlt.l ?_ | refine Sq.pr ?_ | refine Br.dec (fun hc => ?_) (fun hc => ?_) | refine Br.tt ?_ | refine Br.ff ?_ | refine Br.not ?_ | refine Br.mk (fun hc => ?_) (fun hc => ?_) | refine Opt.nn ?_ | refine Opt.ss ?_ | refine AltA.l ?_ | exact PV.leL_nil | refine PV.leL_cons ?_ ?_ | refine And.intro ?_ ?_ | refine ix_map (fun x hx => ?_) | refine exU8 ?_ | refine nilc (fun hn => ?_) ?_ | exact cl3 | refine imp0 (fun hpos => ?_) | refine fits_i64 ?_ ?_ | exact rfl | (with_reducible first | show LeG _ _ | show Lp _ _ _ _ | show Exists _ | show callX _ _ _ _ _)))) <;> (try exact cl5)
  ((all_goals (try simp only [eP, *, ↓reduceIte, Bool.false_eq_true, Bool.not_true, Bool.not_false, Bool.and_true, Bool.true_and, Bool.and_false, Bool.false_and, List.nil_append, List.drop_zero, Nat.zero_add, List.take_length, Int.toNat_natCast, Int.toNat_zero, List.append_nil]))); ((all_goals (try refine LeG.mk ?_)); (repeat' (first | exact PV.le_refl _ | exact PV.le_nil _ _ _ | exact PV.le_clip _ _ _ | exact PV.le_nilF _ _ _ | refine PV.le_agg ?_ | refine PV.le_tup ?_ | exact PV.leL_nil | refine PV.leL_cons ?_ ?_ | refine PV.le_of ?_ | rfl)))
end Go.Proofs.Ytijkiolobmkhhaa

namespace Go.Proofs.Ytijkiolobmkhhaa
open Go Go.Sg
set_option maxRecDepth 100000
set_option maxHeartbeats 4000000
theorem same_calls (d : Dk) (h1 : d.secs.length < 1000000) (h2 : d.pend.length < 1000000) : PCalls Try.prog 23 [eD d, eD d] (.bool true) := by
  refine PCalls.of (N := 94) (res := [.tmp 4]) mixed Try.func23 rfl rfl rfl (by kernel_rfl) (by simp) [0, 1, 2, 3, 4, 5, 6, 36, 41, 56, 61, 93] ?_
  repeat' (first | exact cl1 | ((with_reducible show Exists _); refine exU8 ?_) | ((fail_if_success with_reducible first | show LeG _ _ | show Lp _ _ _ _ | show Exists _ | show callX _ _ _ _ _ | show (_ : Int) ≤ _ | show (_ : Int) < _ | show (_ : Nat) ≤ _ | show (_ : Nat) < _); (conv => whnf) <;> (first | exact cl2 | refine XAlt.l ?_ | refine Sq.pr ?_ | refine Br.dec (fun hc => ?_) (fun hc => ?_) | refine Br.tt ?_ | refine Br.ff ?_ | refine Br.not ?_ | refine Br.mk (fun hc => ?_) (fun hc => ?_) | refine Opt.nn ?_ | refine Opt.ss ?_ | refine AltA.l ?_ | exact PV.leL_nil | refine PV.leL_cons ?_ ?_ | refine And.intro ?_ ?_ | refine ix_map (fun x hx => ?_) | refine exU8 ?_ | refine nilc (fun hn => ?_) ?_ | exact cl3 | refine imp0 (fun hpos => ?_) | refine fits_i64 ?_ ?_ | exact rfl | (with_reducible first | show LeG _ _ | show Lp _ _ _ _ | show Exists _ | show callX _ _ _ _ _)))) <;> (try exact cl5)
  all_goals try (exfalso; exact hc rfl)
  · refine Wpc.loopB (α := {i : Nat // i ≤ d.secs.length}) mixed [0, 1, 2, 3, 4, 5, 6, 36, 41, 56, 61, 93] (fun i => [(5, .p (eI i.1))]) (fun i => d.secs.length - i.1) ⟨0, by omega⟩ ?_ ?_
    · (first | refine Ent.ofA [] ?_ | refine Ent.ofC [] ?_) <;> (repeat' (first | exact trivial | refine HpLe.dd ?_ | refine HpLe.mk rfl (by simp) rfl (fun h => AObj.noConfusion h) ?_ ?_ | refine And.intro ?_ ?_ | exact cl9 | refine VLe.pe ?_ | refine VLe.agg ?_ | refine VLe.tup ?_ | refine VLe.fn ?_ ?_ | refine VLeL.cons ?_ ?_ | exact VLeL.nil | exact OLe.row _ _ | rfl | refine VLe.rsle rfl ?_ ?_ ?_ | refine OLe.rowe2 ?_ ?_ | refine OLe.mape ?_ ?_ | refine OLe.iter0 ?_ | refine OLe.itere ?_ ?_)) <;> try (first | (simp; done) | (congr 1; omega) | (congr 1; (first | (simp; done) | (simp; omega))))
    intro i
    have i1 := i.2
    repeat' (first | exact cl1 | ((with_reducible show Exists _); refine exU8 ?_) | ((fail_if_success with_reducible first | show LeG _ _ | show Lp _ _ _ _ | show Exists _ | show callX _ _ _ _ _ | show (_ : Int) ≤ _ | show (_ : Int) < _ | show (_ : Nat) ≤ _ | show (_ : Nat) < _); (conv => whnf) <;> (first | exact cl2 | refine XAlt.l ?_ | refine Sq.pr ?_ | refine Br.dec (fun hc => ?_) (fun hc => ?_) | refine Br.tt ?_ | refine Br.ff ?_ | refine Br.not ?_ | refine Br.mk (fun hc => ?_) (fun hc => ?_) | refine Opt.nn ?_ | refine Opt.ss ?_ | refine AltA.l ?_ | exact PV.leL_nil | refine PV.leL_cons ?_ ?_ | refine And.intro ?_ ?_ | refine ix_map (fun x hx => ?_) | refine exU8 ?_ | refine nilc (fun hn => ?_) ?_ | exact cl3 | refine imp0 (fun hpos => ?_) | refine fits_i64 ?_ ?_ | exact rfl | (with_reducible first | show LeG _ _ | show Lp _ _ _ _ | show Exists _ | show callX _ _ _ _ _)))) <;> (try exact cl5)
    · rename_i hx1
      rw [hx1] at hx; injection hx with hx; subst hx; exact absurd rfl hc
    · refine ⟨⟨i.1 + 1, by simp only [List.length_map] at *; omega⟩, by show d.secs.length - (i.1 + 1) < d.secs.length - i.1; simp only [List.length_map] at *; omega, ?_⟩
      (first | refine Ent.ofA [] ?_ | refine Ent.ofC [] ?_) <;> (repeat' (first | exact trivial | refine HpLe.dd ?_ | refine HpLe.mk rfl (by simp) rfl (fun h => AObj.noConfusion h) ?_ ?_ | refine And.intro ?_ ?_ | exact cl9 | refine VLe.pe ?_ | refine VLe.agg ?_ | refine VLe.tup ?_ | refine VLe.fn ?_ ?_ | refine VLeL.cons ?_ ?_ | exact VLeL.nil | exact OLe.row _ _ | rfl | refine VLe.rsle rfl ?_ ?_ ?_ | refine OLe.rowe2 ?_ ?_ | refine OLe.mape ?_ ?_ | refine OLe.iter0 ?_ | refine OLe.itere ?_ ?_)) <;> try (first | (simp; done) | (congr 1; omega) | (congr 1; (first | (simp; done) | (simp; omega))))
    refine Wpc.loopB (α := {i : Nat // i ≤ d.pend.length}) mixed [0, 1, 2, 3, 4, 5, 6, 36, 41, 56, 61, 93] (fun i => [(6, .p (eI i.1))]) (fun i => d.pend.length - i.1) ⟨0, by omega⟩ ?_ ?_
    · (first | refine Ent.ofA [] ?_ | refine Ent.ofC [] ?_) <;> (repeat' (first | exact trivial | refine HpLe.dd ?_ | refine HpLe.mk rfl (by simp) rfl (fun h => AObj.noConfusion h) ?_ ?_ | refine And.intro ?_ ?_ | exact cl9 | refine VLe.pe ?_ | refine VLe.agg ?_ | refine VLe.tup ?_ | refine VLe.fn ?_ ?_ | refine VLeL.cons ?_ ?_ | exact VLeL.nil | exact OLe.row _ _ | rfl | refine VLe.rsle rfl ?_ ?_ ?_ | refine OLe.rowe2 ?_ ?_ | refine OLe.mape ?_ ?_ | refine OLe.iter0 ?_ | refine OLe.itere ?_ ?_)) <;> try (first | (simp; done) | (congr 1; omega) | (congr 1; (first | (simp; done) | (simp; omega))))
    intro i
    have i1 := i.2
    repeat' (first | exact cl1 | ((with_reducible show Exists _); refine exU8 ?_) | ((fail_if_success with_reducible first | show LeG _ _ | show Lp _ _ _ _ | show Exists _ | show callX _ _ _ _ _ | show (_ : Int) ≤ _ | show (_ : Int) < _ | show (_ : Nat) ≤ _ | show (_ : Nat) < _); (conv => whnf) <;> (first | exact cl2 | refine XAlt.l ?_ | refine Sq.pr ?_ | refine Br.dec (fun hc => ?_) (fun hc => ?_) | refine Br.tt ?_ | refine Br.ff ?_ | refine Br.not ?_ | refine Br.mk (fun hc => ?_) (fun hc => ?_) | refine Opt.nn ?_ | refine Opt.ss ?_ | refine AltA.l ?_ | exact PV.leL_nil | refine PV.leL_cons ?_ ?_ | refine And.intro ?_ ?_ | refine ix_map (fun x hx => ?_) | refine exU8 ?_ | refine nilc (fun hn => ?_) ?_ | exact cl3 | refine imp0 (fun hpos => ?_) | refine fits_i64 ?_ ?_ | exact rfl | (with_reducible first | show LeG _ _ | show Lp _ _ _ _ | show Exists _ | show callX _ _ _ _ _)))) <;> (try exact cl5)
    · rename_i hx1
      rw [hx1] at hx; injection hx with hx; subst hx; exact absurd rfl hc
    · rename_i hx1
      rw [hx1] at hx; injection hx with hx; subst hx; exact absurd rfl hc
    · refine ⟨⟨i.1 + 1, by simp only [List.length_map] at *; omega⟩, by show d.pend.length - (i.1 + 1) < d.pend.length - i.1; simp only [List.length_map] at *; omega, ?_⟩
      (first | refine Ent.ofA [] ?_ | refine Ent.ofC [] ?_) <;> (repeat' (first | exact trivial | refine HpLe.dd ?_ | refine HpLe.mk rfl (by simp) rfl (fun h => AObj.noConfusion h) ?_ ?_ | refine And.intro ?_ ?_ | exact cl9 | refine VLe.pe ?_ | refine VLe.agg ?_ | refine VLe.tup ?_ | refine VLe.fn ?_ ?_ | refine VLeL.cons ?_ ?_ | exact VLeL.nil | exact OLe.row _ _ | rfl | refine VLe.rsle rfl ?_ ?_ ?_ | refine OLe.rowe2 ?_ ?_ | refine OLe.mape ?_ ?_ | refine OLe.iter0 ?_ | refine OLe.itere ?_ ?_)) <;> try (first | (simp; done) | (congr 1; omega) | (congr 1; (first | (simp; done) | (simp; omega))))
end Go.Proofs.Ytijkiolobmkhhaa

namespace Go.Proofs.Ytijkiolobmkhhaa
open Go Go.Sg
set_option maxRecDepth 100000
set_option maxHeartbeats 4000000
def zB : Bs := List.replicate 128 0
def fillB (b : Bs) : Bs := b ++ List.replicate (128 - b.length) 0
def writeD (d : Dk) (i : Int) (b : Bs) : Dk × Int := if runD d then (if hasD d i then (if 128 < ((b.map (PV.int .u8)).length : Int) then (d0, 1) else if ((d.pend.map eW).length : Int) = 4096 then (d0, 2) else ({ d with pend := d.pend ++ [⟨i, fillB b⟩] }, 0)) else (d0, 40)) else (d0, 40)
theorem fill_eq (b : Bs) (hb : b.length ≤ 128) : List.take 128 (List.take 0 (List.replicate 128 (PV.int .u8 0)) ++ List.take (min (b.map (PV.int .u8)).length 128) (b.map (PV.int .u8)) ++ List.drop (min (b.map (PV.int .u8)).length 128) (List.replicate 128 (PV.int .u8 0))) = (fillB b).map (PV.int .u8) := by
  simp only [fillB, List.length_map, List.take_zero, List.nil_append, List.map_append, List.map_replicate]
  rw [Nat.min_eq_left hb, List.take_of_length_le (l := b.map _) (by simp), List.drop_replicate, List.take_of_length_le (by simp; omega)]
theorem write_calls (d : Dk) (i : Int) (b : Bs) (h1 : d.secs.length < 1000000) (h2 : d.pend.length < 1000000) (h3 : b.length < 1000000) : PCalls Try.prog 26 [eD d, eI i, eB b] (eR (writeD d i b)) := by
  refine PCalls.of (N := 46) (res := [.cell 6 25, .tmp 7]) mixed Try.func26 rfl rfl rfl (by kernel_rfl) (by simp) [0, 1, 2, 3, 6, 7, 8, 9, 20, 25] ?_
  repeat' (first | exact cl1 | ((with_reducible show Exists _); refine exU8 ?_) | ((with_reducible show callX _ _ _ _ _); (first | refine call_p (runs_calls _ h1 h2) (by kernel_rfl) rfl ?_ | refine call_p (has_calls _ _) (by kernel_rfl) rfl ?_ | refine call_p (cloneW_calls _ h2) (by kernel_rfl) rfl ?_ | refine call_p (clip_calls _) (by kernel_rfl) rfl ?_)) | ((fail_if_success with_reducible first | show LeG _ _ | show Lp _ _ _ _ | show Exists _ | show callX _ _ _ _ _ | show (_ : Int) ≤ _ | show (_ : Int) < _ | show (_ : Nat) ≤ _ | show (_ : Nat) < _); (conv => whnf) <;> (first | exact cl2 | refine Sq.fz (id := 9) [(8, false)] ?_ | refine XAlt.l ?_ | refine Sq.pr ?_ | refine Br.dec (fun hc => ?_) (fun hc => ?_) | refine Br.tt ?_ | refine Br.ff ?_ | refine Br.not ?_ | refine Br.mk (fun hc => ?_) (fun hc => ?_) | refine Opt.nn ?_ | refine Opt.ss ?_ | refine AltA.l ?_ | exact PV.leL_nil | refine PV.leL_cons ?_ ?_ | refine And.intro ?_ ?_ | refine ix_map (fun x hx => ?_) | refine exU8 ?_ | refine nilc (fun hn => ?_) ?_ | exact cl3 | refine imp0 (fun hpos => ?_) | refine fits_i64 ?_ ?_ | exact rfl | (with_reducible first | show LeG _ _ | show Lp _ _ _ _ | show Exists _ | show callX _ _ _ _ _)))) <;> (try exact cl5)
  ((all_goals (try simp only [writeD, *, ↓reduceIte, Bool.false_eq_true, Bool.not_true, Bool.not_false, Bool.and_true, Bool.true_and, Bool.and_false, Bool.false_and, List.nil_append, List.drop_zero, Nat.zero_add, List.take_length, Int.toNat_natCast, Int.toNat_zero, List.append_nil]))); ((all_goals (try refine LeG.mk ?_)); (repeat' (first | exact PV.le_refl _ | exact PV.le_nil _ _ _ | exact PV.le_clip _ _ _ | exact PV.le_nilF _ _ _ | refine PV.le_agg ?_ | refine PV.le_tup ?_ | exact PV.leL_nil | refine PV.leL_cons ?_ ?_ | refine PV.le_of ?_ | rfl)))
  show PV.sl 2 false _ = PV.sl 2 false (List.map eW (d.pend ++ [⟨i, fillB b⟩]))
  rw [List.take_of_length_le (by simp), List.map_append]
  congr 2
  show [PV.agg [eI i, PV.sl 1 false (List.take 128 (List.take 0 (List.replicate 128 (PV.int .u8 0)) ++ List.take (min (b.map (PV.int .u8)).length 128) (b.map (PV.int .u8)) ++ List.drop (min (b.map (PV.int .u8)).length 128) (List.replicate 128 (PV.int .u8 0))))]] = [PV.agg [eI i, .sl 1 false ((fillB b).map (PV.int .u8))]]
  rw [fill_eq b (by simp only [List.length_map] at *; omega)]
end Go.Proofs.Ytijkiolobmkhhaa

namespace Go.Proofs.Ytijkiolobmkhhaa
open Go Go.Sg
set_option maxRecDepth 100000
set_option maxHeartbeats 4000000
def perf (ss : List Bs) (l : List Wr) : List Bs := l.foldl (fun ss w => ss.set w.pos.toNat w.data) ss
theorem perf_len (l : List Wr) : ∀ ss : List Bs, (perf ss l).length = ss.length := by
  induction l with
  | nil => intro ss; rfl
  | cons w l ih => intro ss; simp only [perf, List.foldl_cons]; exact (ih _).trans (by simp)
theorem perf_take (ss : List Bs) (l : List Wr) (k : Nat) (x : Wr) (h : l[k]? = some x) : perf ss (l.take (k + 1)) = (perf ss (l.take k)).set x.pos.toNat x.data := by
  rw [List.take_add_one, h]; simp [perf, List.foldl_append]
theorem cloneS_icalls (ss : List Bs) (h1 : ss.length < 1000000) (h0 : 0 < ss.length) : ICalls Try.prog 69 0 [] [.p (eS ss)] (.rsl 0 1 0 ss.length) [(0, .row 1 (ss.map eB))] := by
  refine ICalls.of (N := 8) (res := [.tmp 2]) mixed Try.func69 rfl rfl rfl (by kernel_rfl) (by simp) [0, 2, 4] (Nat.le_refl _) ?_
  repeat' (first | exact cl1 | ((with_reducible show Exists _); refine exU8 ?_) | ((fail_if_success with_reducible first | show LeG _ _ | show Lp _ _ _ _ | show Exists _ | show callX _ _ _ _ _ | show (_ : Int) ≤ _ | show (_ : Int) < _ | show (_ : Nat) ≤ _ | show (_ : Nat) < _); (conv => whnf) <;> (first | exact cl2 | refine XAlt.l ?_ | refine Sq.pr ?_ | refine Br.dec (fun hc => ?_) (fun hc => ?_) | refine Br.tt ?_ | refine Br.ff ?_ | refine Br.not ?_ | refine Br.mk (fun hc => ?_) (fun hc => ?_) | refine Opt.nn ?_ | refine Opt.ss ?_ | refine AltA.l ?_ | exact PV.leL_nil | refine PV.leL_cons ?_ ?_ | refine And.intro ?_ ?_ | refine ix_map (fun x hx => ?_) | refine exU8 ?_ | refine nilc (fun hn => ?_) ?_ | exact cl3 | refine imp0 (fun hpos => ?_) | refine fits_i64 ?_ ?_ | exact rfl | (with_reducible first | show LeG _ _ | show Lp _ _ _ _ | show Exists _ | show callX _ _ _ _ _)))) <;> (try exact cl5)
  · simp at hn; subst hn; simp at h0
  · refine ⟨[], [(0, 320)], ?_, ?_, by decide, by decide, fun i hi => by omega⟩ <;> (repeat' (first | exact trivial | refine HpLe.dd ?_ | refine HpLe.mk rfl (by simp) rfl (fun h => AObj.noConfusion h) ?_ ?_ | refine And.intro ?_ ?_ | exact cl9 | refine VLe.pe ?_ | refine VLe.agg ?_ | refine VLe.tup ?_ | refine VLe.fn ?_ ?_ | refine VLeL.cons ?_ ?_ | exact VLeL.nil | exact OLe.row _ _ | rfl | refine VLe.rsle rfl ?_ ?_ ?_ | refine OLe.rowe2 ?_ ?_ | refine OLe.mape ?_ ?_ | refine OLe.iter0 ?_ | refine OLe.itere ?_ ?_)) <;> simp
theorem and32 {a : Int} (h0 : 0 ≤ a) (h1 : a < 4294967296) : bitsI .and .u64 a 4294967295 = a := by
  obtain ⟨n, rfl⟩ := Int.eq_ofNat_of_zero_le h0
  have hn : n < 4294967296 := by omega
  have e : (BitVec.ofInt 64 (n : Int) &&& BitVec.ofInt 64 4294967295).toNat = n := by
    rw [BitVec.toNat_and]
    have e1 : (BitVec.ofInt 64 (n : Int)).toNat = n := by simp [BitVec.toNat_ofInt]; omega
    have e2 : (BitVec.ofInt 64 4294967295).toNat = 2 ^ 32 - 1 := by decide
    rw [e1, e2, Nat.and_two_pow_sub_one_eq_mod, Nat.mod_eq_of_lt (by omega)]
  show IntKind.u64.wrap (((BitVec.ofInt 64 (n : Int) &&& BitVec.ofInt 64 4294967295).toNat : Nat) : Int) = _
  rw [e]
  exact fits_u64 (by omega) (by omega)
theorem shr32 {a : Int} (h0 : 0 ≤ a) (h1 : a < 4294967296) : a.fdiv (2 ^ min (Int.toNat 32) IntKind.u64.bits) = 0 := by
  show a.fdiv (2 ^ 32) = 0
  rw [Int.fdiv_eq_ediv_of_nonneg _ (by omega)]
  exact Int.ediv_eq_zero_of_lt h0 (by omega)
theorem mul64_calls (a b : Int) (ha : 0 ≤ a ∧ a < 4294967296) (hb : 0 ≤ b ∧ b < 4294967296) (hab : 0 ≤ a * b ∧ a * b < 4294967296) : PCalls Try.prog 74 [.int .u64 a, .int .u64 b] (.tup [.int .u64 0, .int .u64 (a * b)]) := by
  refine PCalls.of (N := 51) (res := [.tmp 4, .tmp 5]) mixed Try.func74 rfl rfl rfl (by kernel_rfl) (by simp) [0, 1, 4, 5, 6, 7, 8, 9, 10, 11, 12, 13] ?_
  repeat' (first | exact cl1 | ((with_reducible show Exists _); refine exU8 ?_) | ((fail_if_success with_reducible first | show LeG _ _ | show Lp _ _ _ _ | show Exists _ | show callX _ _ _ _ _ | show (_ : Int) ≤ _ | show (_ : Int) < _ | show (_ : Nat) ≤ _ | show (_ : Nat) < _); (conv => whnf) <;> (first | exact cl2 | refine XAlt.l ?_ | refine Sq.pr ?_ | refine Br.dec (fun hc => ?_) (fun hc => ?_) | refine Br.tt ?_ | refine Br.ff ?_ | refine Br.not ?_ | refine Br.mk (fun hc => ?_) (fun hc => ?_) | refine Opt.nn ?_ | refine Opt.ss ?_ | refine AltA.l ?_ | exact PV.leL_nil | refine PV.leL_cons ?_ ?_ | refine And.intro ?_ ?_ | refine ix_map (fun x hx => ?_) | refine exU8 ?_ | refine nilc (fun hn => ?_) ?_ | exact cl3 | refine imp0 (fun hpos => ?_) | refine fits_i64 ?_ ?_ | exact rfl | (with_reducible first | show LeG _ _ | show Lp _ _ _ _ | show Exists _ | show callX _ _ _ _ _)))) <;> (try exact cl5)
  all_goals try simp only [and32 ha.1 ha.2, and32 hb.1 hb.2, shr32 ha.1 ha.2, shr32 hb.1 hb.2, shr32 hab.1 hab.2, Int.zero_mul, Int.mul_zero, Int.add_zero, Int.zero_add, and32 (Int.le_refl 0) (show (0 : Int) < 4294967296 by decide), shr32 (Int.le_refl 0) (show (0 : Int) < 4294967296 by decide), LeG.refl]
  all_goals exact fits_u64 (by omega) (by omega)
theorem mul_calls (a b : Int) (ha : 0 ≤ a ∧ a < 4294967296) (hb : 0 ≤ b ∧ b < 4294967296) (hab : 0 ≤ a * b ∧ a * b < 4294967296) : PCalls Try.prog 68 [.int .u64 a, .int .u64 b] (.tup [.int .u64 0, .int .u64 (a * b)]) := by
  refine PCalls.of (N := 30) (res := [.tmp 4, .tmp 5]) mixed Try.func68 rfl rfl rfl (by kernel_rfl) (by simp) [0, 1, 4, 5, 6, 7, 8, 9] ?_
  repeat' (first | exact cl1 | ((with_reducible show Exists _); refine exU8 ?_) | ((with_reducible show callX _ _ _ _ _); (first | refine call_p (mul64_calls a b ha hb hab) (by kernel_rfl) rfl ?_)) | ((fail_if_success with_reducible first | show LeG _ _ | show Lp _ _ _ _ | show Exists _ | show callX _ _ _ _ _ | show (_ : Int) ≤ _ | show (_ : Int) < _ | show (_ : Nat) ≤ _ | show (_ : Nat) < _); (conv => whnf) <;> (first | exact cl2 | refine XAlt.l ?_ | refine Sq.pr ?_ | refine Br.dec (fun hc => ?_) (fun hc => ?_) | refine Br.tt ?_ | refine Br.ff ?_ | refine Br.not ?_ | refine Br.mk (fun hc => ?_) (fun hc => ?_) | refine Opt.nn ?_ | refine Opt.ss ?_ | refine AltA.l ?_ | exact PV.leL_nil | refine PV.leL_cons ?_ ?_ | refine And.intro ?_ ?_ | refine ix_map (fun x hx => ?_) | refine exU8 ?_ | refine nilc (fun hn => ?_) ?_ | exact cl3 | refine imp0 (fun hpos => ?_) | refine fits_i64 ?_ ?_ | exact rfl | (with_reducible first | show LeG _ _ | show Lp _ _ _ _ | show Exists _ | show callX _ _ _ _ _)))) <;> (try exact cl5)
theorem perform_icalls (ss : List Bs) (l : List Wr) (c : Bool) (pl : List PV) (hpe : pl = l.map eW) (h0 : 0 < ss.length) (h1 : ss.length < 1000000) (h2 : l.length < 1000000) (hp : ∀ w ∈ l, 0 ≤ w.pos ∧ w.pos < ss.length) : ICalls Try.prog 54 0 [] [.p (eS ss), .p (.sl 2 c pl)] (.rsl 0 1 0 ss.length) [(0, .row 1 ((perf ss l).map eB))] := by
  subst hpe
  refine ICalls.of (N := 24) (res := [.tmp 4]) mixed Try.func54 rfl rfl rfl (by kernel_rfl) (by simp) [0, 1, 4, 5, 7, 10, 11, 12, 13] (Nat.le_refl _) ?_
  repeat' (first | exact cl1 | ((with_reducible show Exists _); refine exU8 ?_) | ((with_reducible show callX _ _ _ _ _); (first | refine call_i [] (cloneS_icalls ss h1 h0) (by kernel_rfl) rfl rfl (by simp) (by simp) (by simp) (fun _ _ => rfl) (by simp) (by simp [keys]) ?_)) | ((fail_if_success with_reducible first | show LeG _ _ | show Lp _ _ _ _ | show Exists _ | show callX _ _ _ _ _ | show (_ : Int) ≤ _ | show (_ : Int) < _ | show (_ : Nat) ≤ _ | show (_ : Nat) < _); (conv => whnf) <;> (first | exact cl2 | refine XAlt.l ?_ | refine Sq.pr ?_ | refine Br.dec (fun hc => ?_) (fun hc => ?_) | refine Br.tt ?_ | refine Br.ff ?_ | refine Br.not ?_ | refine Br.mk (fun hc => ?_) (fun hc => ?_) | refine Opt.nn ?_ | refine Opt.ss ?_ | refine AltA.l ?_ | exact PV.leL_nil | refine PV.leL_cons ?_ ?_ | refine And.intro ?_ ?_ | refine ix_map (fun x hx => ?_) | refine exU8 ?_ | refine nilc (fun hn => ?_) ?_ | refine call_i [] (cloneS_icalls ss h1 h0) (by kernel_rfl) rfl rfl (by simp) (by simp) (by simp) (fun _ _ => rfl) (by simp) (by simp [keys]) ?_ | exact cl3 | refine imp0 (fun hpos => ?_) | refine fits_i64 ?_ ?_ | exact rfl | (with_reducible first | show LeG _ _ | show Lp _ _ _ _ | show Exists _ | show callX _ _ _ _ _)))) <;> (try exact cl5)
  refine Wpc.loop (α := {k : Nat // k ≤ l.length}) mixed [0, 1, 4, 5, 7, 10, 11, 12, 13] (fun k => ⟨[(5, .rsl 128 1 0 ss.length), (10, .p (.sl 2 c (l.map eW))), (11, .p (eI l.length)), (12, .p (eI k.1))], [(128, .row 1 ((perf ss (l.take k.1)).map eB))], 448, 0⟩) (fun k => l.length - k.1) ⟨0, by omega⟩ ?_ ?_
  · refine Ent.of [] [(128,128)] ?_ ?_ (by decide) (by simp) (by first | decide | simp) rfl <;> (repeat' (first | exact trivial | refine HpLe.dd ?_ | refine HpLe.mk rfl (by simp) rfl (fun h => AObj.noConfusion h) ?_ ?_ | refine And.intro ?_ ?_ | exact cl9 | refine VLe.pe ?_ | refine VLe.agg ?_ | refine VLe.tup ?_ | refine VLe.fn ?_ ?_ | refine VLeL.cons ?_ ?_ | exact VLeL.nil | exact OLe.row _ _ | rfl | refine VLe.rsle rfl ?_ ?_ ?_ | refine OLe.rowe2 ?_ ?_ | refine OLe.mape ?_ ?_ | refine OLe.iter0 ?_ | refine OLe.itere ?_ ?_))
    all_goals simp [eI, perf]
  intro k
  have hk := k.2
  have hpl : ((perf ss (l.take k.1)).map eB).length = ss.length := by rw [List.length_map, perf_len]
  repeat' (first | exact cl1 | ((with_reducible show Exists _); refine exU8 ?_) | ((fail_if_success with_reducible first | show LeG _ _ | show Lp _ _ _ _ | show Exists _ | show callX _ _ _ _ _ | show (_ : Int) ≤ _ | show (_ : Int) < _ | show (_ : Nat) ≤ _ | show (_ : Nat) < _); (conv => whnf) <;> (first | exact cl2 | refine XAlt.l ?_ | refine Sq.pr ?_ | refine Br.dec (fun hc => ?_) (fun hc => ?_) | refine Br.tt ?_ | refine Br.ff ?_ | refine Br.not ?_ | refine Br.mk (fun hc => ?_) (fun hc => ?_) | refine Opt.nn ?_ | refine Opt.ss ?_ | refine AltA.l ?_ | exact PV.leL_nil | refine PV.leL_cons ?_ ?_ | refine And.intro ?_ ?_ | refine ix_map (fun x hx => ?_) | refine exU8 ?_ | refine nilc (fun hn => ?_) ?_ | exact cl3 | refine imp0 (fun hpos => ?_) | refine fits_i64 ?_ ?_ | exact rfl | (with_reducible first | show LeG _ _ | show Lp _ _ _ _ | show Exists _ | show callX _ _ _ _ _)))) <;> (try exact cl5)
  · exact (hp x (List.mem_of_getElem? hx)).1
  · exact (hp x (List.mem_of_getElem? hx)).2
  · have := hp x (List.mem_of_getElem? hx)
    rw [hpl]; omega
  · refine ⟨⟨k.1 + 1, by omega⟩, by show l.length - (k.1 + 1) < _; omega, ?_⟩
    refine Ent.of [] [(128,128)] ?_ ?_ (by decide) (by simp) (by first | decide | simp) rfl <;> (repeat' (first | exact trivial | refine HpLe.dd ?_ | refine HpLe.mk rfl (by simp) rfl (fun h => AObj.noConfusion h) ?_ ?_ | refine And.intro ?_ ?_ | exact cl9 | refine VLe.pe ?_ | refine VLe.agg ?_ | refine VLe.tup ?_ | refine VLe.fn ?_ ?_ | refine VLeL.cons ?_ ?_ | exact VLeL.nil | exact OLe.row _ _ | rfl | refine VLe.rsle rfl ?_ ?_ ?_ | refine OLe.rowe2 ?_ ?_ | refine OLe.mape ?_ ?_ | refine OLe.iter0 ?_ | refine OLe.itere ?_ ?_))
    show ((perf ss (l.take k.1)).map eB).set (0 + x.pos.toNat) (eB x.data) = (perf ss (l.take (k.1 + 1))).map eB
    rw [perf_take ss l k.1 x hx, List.map_set, Nat.zero_add]
  · have : l.take k.1 = l := List.take_of_length_le (by omega)
    rw [this] at hpl ⊢
    refine ⟨[], [(0, 128)], ?_, ?_, by decide, by decide, fun i hi => by omega⟩ <;> (repeat' (first | exact trivial | refine HpLe.dd ?_ | refine HpLe.mk rfl (by simp) rfl (fun h => AObj.noConfusion h) ?_ ?_ | refine And.intro ?_ ?_ | exact cl9 | refine VLe.pe ?_ | refine VLe.agg ?_ | refine VLe.tup ?_ | refine VLe.fn ?_ ?_ | refine VLeL.cons ?_ ?_ | exact VLeL.nil | exact OLe.row _ _ | rfl | refine VLe.rsle rfl ?_ ?_ ?_ | refine OLe.rowe2 ?_ ?_ | refine OLe.mape ?_ ?_ | refine OLe.iter0 ?_ | refine OLe.itere ?_ ?_))
end Go.Proofs.Ytijkiolobmkhhaa

namespace Go.Proofs.Ytijkiolobmkhhaa
open Go Go.Sg
set_option maxRecDepth 100000
set_option maxHeartbeats 4000000
theorem rep_step (a z : PV) (i N : Nat) (h : i ≤ N) : List.take (0 + i) (List.replicate i a ++ List.replicate (N - i) z) ++ List.take (min (i - 0) (N - i)) (List.drop (0 + 0) (List.replicate i a ++ List.replicate (N - i) z)) ++ List.drop (0 + i + min (i - 0) (N - i)) (List.replicate i a ++ List.replicate (N - i) z) =
    List.replicate (i + min (N - i) i) a ++ List.replicate (N - (i + min (N - i) i)) z := by
  simp only [Nat.zero_add, Nat.sub_zero, List.drop_zero]
  rw [List.take_left' (by simp), ← List.drop_drop, List.drop_left' (by simp), List.take_append_of_le_length (by simp; omega), List.take_replicate, List.drop_replicate, List.replicate_append_replicate]
  congr 2 <;> omega
theorem repeat_calls (b : Bs) (n : Int) (hn : 1 ≤ n ∧ n < 1000000) : PCalls Try.prog 49 [eS [b], eI n] (eS (List.replicate n.toNat b)) := by
  have hw : IntKind.u64.wrap n = n := fits_u64 (by omega) (by omega)
  have hw1 : IntKind.u64.wrap 1 = 1 := fits_u64 (by omega) (by omega)
  have hm : IntKind.i64.wrap (IntKind.u64.wrap 1 * IntKind.u64.wrap n) = n := by rw [hw, hw1, Int.one_mul]; exact fits_i64 (by omega) (by omega)
  refine PCalls.of (N := 48) (res := [.tmp 4]) mixed Try.func49 rfl rfl rfl (by kernel_rfl) (by simp) [0, 1, 4, 5, 6, 7, 8, 10, 26, 37] ?_
  repeat' (first | exact cl1 | ((with_reducible show Exists _); refine exU8 ?_) | ((with_reducible show callX _ _ _ _ _); (first | refine call_p (mul_calls (IntKind.u64.wrap 1) (IntKind.u64.wrap n) (by omega) (by omega) (by rw [hw, hw1]; omega)) (by kernel_rfl) rfl ?_)) | ((fail_if_success with_reducible first | show LeG _ _ | show Lp _ _ _ _ | show Exists _ | show callX _ _ _ _ _ | show (_ : Int) ≤ _ | show (_ : Int) < _ | show (_ : Nat) ≤ _ | show (_ : Nat) < _); (conv => whnf) <;> (first | exact cl2 | refine XAlt.l ?_ | refine Sq.pr ?_ | refine Br.dec (fun hc => ?_) (fun hc => ?_) | refine Br.tt ?_ | refine Br.ff ?_ | refine Br.not ?_ | refine Br.mk (fun hc => ?_) (fun hc => ?_) | refine Opt.nn ?_ | refine Opt.ss ?_ | refine AltA.l ?_ | exact PV.leL_nil | refine PV.leL_cons ?_ ?_ | refine And.intro ?_ ?_ | refine ix_map (fun x hx => ?_) | refine exU8 ?_ | refine nilc (fun hn => ?_) ?_ | refine call_p (mul_calls (IntKind.u64.wrap 1) (IntKind.u64.wrap n) (by omega) (by omega) (by rw [hw, hw1]; omega)) (by kernel_rfl) rfl ?_ | exact cl3 | refine imp0 (fun hpos => ?_) | refine fits_i64 ?_ ?_ | exact rfl | (with_reducible first | show LeG _ _ | show Lp _ _ _ _ | show Exists _ | show callX _ _ _ _ _)))) <;> (try exact cl5)
  · exfalso; rw [hw, hw1] at hc; omega
  refine Wpc.loop (α := {i : Nat // 1 ≤ i ∧ i ≤ n.toNat}) mixed [0, 1, 4, 5, 6, 7, 8, 10, 26, 37] (fun i => ⟨[(7, .rsl 1408 1 0 n.toNat), (8, .p (eI i.1))], [(1408, .row 1 (List.replicate i.1 (eB b) ++ List.replicate (n.toNat - i.1) (.sl 0 true [])))], 1792, 0⟩) (fun i => n.toNat - i.1) ⟨1, by omega, by omega⟩ ?_ ?_
  · refine Ent.of [] [(1408,1408)] ?_ ?_ (by decide) (by simp) (by first | decide | simp) rfl <;> (repeat' (first | exact trivial | refine HpLe.dd ?_ | refine HpLe.mk rfl (by simp) rfl (fun h => AObj.noConfusion h) ?_ ?_ | refine And.intro ?_ ?_ | exact cl9 | refine VLe.pe ?_ | refine VLe.agg ?_ | refine VLe.tup ?_ | refine VLe.fn ?_ ?_ | refine VLeL.cons ?_ ?_ | exact VLeL.nil | exact OLe.row _ _ | rfl | refine VLe.rsle rfl ?_ ?_ ?_ | refine OLe.rowe2 ?_ ?_ | refine OLe.mape ?_ ?_ | refine OLe.iter0 ?_ | refine OLe.itere ?_ ?_))
    · rw [hm]
    · rw [hm]; simp only [eI]; congr 1; simp; omega
    · show List.take 0 _ ++ List.take (min 1 _) [eB b] ++ List.drop (0 + min 1 _) (List.replicate _ (PV.sl 0 true [])) = List.replicate 1 (eB b) ++ List.replicate (n.toNat - 1) (PV.sl 0 true [])
      rw [hm]
      have : min 1 n.toNat = 1 := by omega
      simp [this]
  intro i
  obtain ⟨i1, i2⟩ := i.2
  repeat' (first | exact cl1 | ((with_reducible show Exists _); refine exU8 ?_) | ((fail_if_success with_reducible first | show LeG _ _ | show Lp _ _ _ _ | show Exists _ | show callX _ _ _ _ _ | show (_ : Int) ≤ _ | show (_ : Int) < _ | show (_ : Nat) ≤ _ | show (_ : Nat) < _); (conv => whnf) <;> (first | exact cl2 | refine XAlt.l ?_ | refine Sq.pr ?_ | refine Br.dec (fun hc => ?_) (fun hc => ?_) | refine Br.tt ?_ | refine Br.ff ?_ | refine Br.not ?_ | refine Br.mk (fun hc => ?_) (fun hc => ?_) | refine Opt.nn ?_ | refine Opt.ss ?_ | refine AltA.l ?_ | exact PV.leL_nil | refine PV.leL_cons ?_ ?_ | refine And.intro ?_ ?_ | refine ix_map (fun x hx => ?_) | refine exU8 ?_ | refine nilc (fun hn => ?_) ?_ | exact cl3 | refine imp0 (fun hpos => ?_) | refine fits_i64 ?_ ?_ | exact rfl | (with_reducible first | show LeG _ _ | show Lp _ _ _ _ | show Exists _ | show callX _ _ _ _ _)))) <;> (try exact cl5)
  · refine ⟨⟨i.1 + min (n.toNat - i.1) i.1, by omega, by omega⟩, by show n.toNat - (i.1 + min (n.toNat - i.1) i.1) < _; omega, ?_⟩
    refine Ent.of [] [(1408,1408)] ?_ ?_ (by decide) (by simp) (by first | decide | simp) rfl <;> (repeat' (first | exact trivial | refine HpLe.dd ?_ | refine HpLe.mk rfl (by simp) rfl (fun h => AObj.noConfusion h) ?_ ?_ | refine And.intro ?_ ?_ | exact cl9 | refine VLe.pe ?_ | refine VLe.agg ?_ | refine VLe.tup ?_ | refine VLe.fn ?_ ?_ | refine VLeL.cons ?_ ?_ | exact VLeL.nil | exact OLe.row _ _ | rfl | refine VLe.rsle rfl ?_ ?_ ?_ | refine OLe.rowe2 ?_ ?_ | refine OLe.mape ?_ ?_ | refine OLe.iter0 ?_ | refine OLe.itere ?_ ?_))
    · simp only [eI]; congr 1
      show (i.1 : Int) + ((min (i.1 - 0) (n.toNat - i.1) : Nat) : Int) = ((i.1 + min (n.toNat - i.1) i.1 : Nat) : Int)
      omega
    · exact rep_step (eB b) (.sl 0 true []) i.1 n.toNat i2
  · have : i.1 = n.toNat := by omega
    rw [this]
    simp [eS]
end Go.Proofs.Ytijkiolobmkhhaa

namespace Go.Proofs.Ytijkiolobmkhhaa
open Go Go.Sg
set_option maxRecDepth 100000
set_option maxHeartbeats 4000000
def newD (n : Int) : Dk × Int := if n < 1 then (d0, 1) else if 4096 < n then (d0, 1) else (⟨List.replicate n.toNat zB, [], -1, false⟩, 0)
theorem new_calls (n : Int) : PCalls Try.prog 25 [eI n] (eR (newD n)) := by
  by_cases h1 : n < 1
  · refine PCalls.of (N := 18) (res := [.cell 2 25, .tmp 3]) mixed Try.func25 rfl rfl rfl (by kernel_rfl) (by simp) [0, 2, 3, 4, 10] ?_
    repeat' (first | exact cl1 | ((with_reducible show Exists _); refine exU8 ?_) | ((fail_if_success with_reducible first | show LeG _ _ | show Lp _ _ _ _ | show Exists _ | show callX _ _ _ _ _ | show (_ : Int) ≤ _ | show (_ : Int) < _ | show (_ : Nat) ≤ _ | show (_ : Nat) < _); (conv => whnf) <;> (first | exact cl2 | refine XAlt.l ?_ | refine Sq.pr ?_ | refine Br.dec (fun hc => ?_) (fun hc => ?_) | refine Br.tt ?_ | refine Br.ff ?_ | refine Br.not ?_ | refine Br.mk (fun hc => ?_) (fun hc => ?_) | refine Opt.nn ?_ | refine Opt.ss ?_ | refine AltA.l ?_ | exact PV.leL_nil | refine PV.leL_cons ?_ ?_ | refine And.intro ?_ ?_ | refine ix_map (fun x hx => ?_) | refine exU8 ?_ | refine nilc (fun hn => ?_) ?_ | exact cl3 | refine imp0 (fun hpos => ?_) | refine fits_i64 ?_ ?_ | exact rfl | (with_reducible first | show LeG _ _ | show Lp _ _ _ _ | show Exists _ | show callX _ _ _ _ _)))) <;> (try exact cl5)
    all_goals try (exfalso; omega)
    ((all_goals (try simp only [newD, *, ↓reduceIte, Bool.false_eq_true, Bool.not_true, Bool.not_false, Bool.and_true, Bool.true_and, Bool.and_false, Bool.false_and, List.nil_append, List.drop_zero, Nat.zero_add, List.take_length, Int.toNat_natCast, Int.toNat_zero, List.append_nil]))); ((all_goals (try refine LeG.mk ?_)); (repeat' (first | exact PV.le_refl _ | exact PV.le_nil _ _ _ | exact PV.le_clip _ _ _ | exact PV.le_nilF _ _ _ | refine PV.le_agg ?_ | refine PV.le_tup ?_ | exact PV.leL_nil | refine PV.leL_cons ?_ ?_ | refine PV.le_of ?_ | rfl)))
  by_cases h2 : 4096 < n
  · refine PCalls.of (N := 18) (res := [.cell 2 25, .tmp 3]) mixed Try.func25 rfl rfl rfl (by kernel_rfl) (by simp) [0, 2, 3, 4, 10] ?_
    repeat' (first | exact cl1 | ((with_reducible show Exists _); refine exU8 ?_) | ((fail_if_success with_reducible first | show LeG _ _ | show Lp _ _ _ _ | show Exists _ | show callX _ _ _ _ _ | show (_ : Int) ≤ _ | show (_ : Int) < _ | show (_ : Nat) ≤ _ | show (_ : Nat) < _); (conv => whnf) <;> (first | exact cl2 | refine XAlt.l ?_ | refine Sq.pr ?_ | refine Br.dec (fun hc => ?_) (fun hc => ?_) | refine Br.tt ?_ | refine Br.ff ?_ | refine Br.not ?_ | refine Br.mk (fun hc => ?_) (fun hc => ?_) | refine Opt.nn ?_ | refine Opt.ss ?_ | refine AltA.l ?_ | exact PV.leL_nil | refine PV.leL_cons ?_ ?_ | refine And.intro ?_ ?_ | refine ix_map (fun x hx => ?_) | refine exU8 ?_ | refine nilc (fun hn => ?_) ?_ | exact cl3 | refine imp0 (fun hpos => ?_) | refine fits_i64 ?_ ?_ | exact rfl | (with_reducible first | show LeG _ _ | show Lp _ _ _ _ | show Exists _ | show callX _ _ _ _ _)))) <;> (try exact cl5)
    all_goals try (exfalso; omega)
    ((all_goals (try simp only [newD, *, ↓reduceIte, Bool.false_eq_true, Bool.not_true, Bool.not_false, Bool.and_true, Bool.true_and, Bool.and_false, Bool.false_and, List.nil_append, List.drop_zero, Nat.zero_add, List.take_length, Int.toNat_natCast, Int.toNat_zero, List.append_nil]))); ((all_goals (try refine LeG.mk ?_)); (repeat' (first | exact PV.le_refl _ | exact PV.le_nil _ _ _ | exact PV.le_clip _ _ _ | exact PV.le_nilF _ _ _ | refine PV.le_agg ?_ | refine PV.le_tup ?_ | exact PV.leL_nil | refine PV.leL_cons ?_ ?_ | refine PV.le_of ?_ | rfl)))
  refine PCalls.of (N := 18) (res := [.cell 2 25, .tmp 3]) mixed Try.func25 rfl rfl rfl (by kernel_rfl) (by simp) [0, 2, 3, 4, 10] ?_
  repeat' (first | exact cl1 | ((with_reducible show Exists _); refine exU8 ?_) | ((with_reducible show callX _ _ _ _ _); (first | refine call_z (repeat_calls zB n (by omega)) (by kernel_rfl) rfl ?_)) | ((fail_if_success with_reducible first | show LeG _ _ | show Lp _ _ _ _ | show Exists _ | show callX _ _ _ _ _ | show (_ : Int) ≤ _ | show (_ : Int) < _ | show (_ : Nat) ≤ _ | show (_ : Nat) < _); (conv => whnf) <;> (first | exact cl2 | refine XAlt.l ?_ | refine Sq.pr ?_ | refine Br.dec (fun hc => ?_) (fun hc => ?_) | refine Br.tt ?_ | refine Br.ff ?_ | refine Br.not ?_ | refine Br.mk (fun hc => ?_) (fun hc => ?_) | refine Opt.nn ?_ | refine Opt.ss ?_ | refine AltA.l ?_ | exact PV.leL_nil | refine PV.leL_cons ?_ ?_ | refine And.intro ?_ ?_ | refine ix_map (fun x hx => ?_) | refine exU8 ?_ | refine nilc (fun hn => ?_) ?_ | refine call_z (repeat_calls zB n (by omega)) (by kernel_rfl) rfl ?_ | exact cl3 | refine imp0 (fun hpos => ?_) | refine fits_i64 ?_ ?_ | exact rfl | (with_reducible first | show LeG _ _ | show Lp _ _ _ _ | show Exists _ | show callX _ _ _ _ _)))) <;> (try exact cl5)
  all_goals try (exfalso; omega)
  ((all_goals (try simp only [newD, *, ↓reduceIte, Bool.false_eq_true, Bool.not_true, Bool.not_false, Bool.and_true, Bool.true_and, Bool.and_false, Bool.false_and, List.nil_append, List.drop_zero, Nat.zero_add, List.take_length, Int.toNat_natCast, Int.toNat_zero, List.append_nil]))); ((all_goals (try refine LeG.mk ?_)); (repeat' (first | exact PV.le_refl _ | exact PV.le_nil _ _ _ | exact PV.le_clip _ _ _ | exact PV.le_nilF _ _ _ | refine PV.le_agg ?_ | refine PV.le_tup ?_ | exact PV.leL_nil | refine PV.leL_cons ?_ ?_ | refine PV.le_of ?_ | rfl)))
end Go.Proofs.Ytijkiolobmkhhaa

namespace Go.Proofs.Ytijkiolobmkhhaa
open Go Go.Sg
set_option maxRecDepth 100000
set_option maxHeartbeats 4000000
theorem cloneB_icalls (l : Bs) (h1 : l.length < 1000000) (h0 : 0 < l.length) : ICalls Try.prog 38 0 [] [.p (eB l)] (.rsl 0 1 0 l.length) [(0, .row 1 (l.map (PV.int .u8)))] := by
  refine ICalls.of (N := 8) (res := [.tmp 2]) mixed Try.func38 rfl rfl rfl (by kernel_rfl) (by simp) [0, 2, 4] (Nat.le_refl _) ?_
  repeat' (first | exact cl1 | ((with_reducible show Exists _); refine exU8 ?_) | ((fail_if_success with_reducible first | show LeG _ _ | show Lp _ _ _ _ | show Exists _ | show callX _ _ _ _ _ | show (_ : Int) ≤ _ | show (_ : Int) < _ | show (_ : Nat) ≤ _ | show (_ : Nat) < _); (conv => whnf) <;> (first | exact cl2 | refine XAlt.l ?_ | refine Sq.pr ?_ | refine Br.dec (fun hc => ?_) (fun hc => ?_) | refine Br.tt ?_ | refine Br.ff ?_ | refine Br.not ?_ | refine Br.mk (fun hc => ?_) (fun hc => ?_) | refine Opt.nn ?_ | refine Opt.ss ?_ | refine AltA.l ?_ | exact PV.leL_nil | refine PV.leL_cons ?_ ?_ | refine And.intro ?_ ?_ | refine ix_map (fun x hx => ?_) | refine exU8 ?_ | refine nilc (fun hn => ?_) ?_ | exact cl3 | refine imp0 (fun hpos => ?_) | refine fits_i64 ?_ ?_ | exact rfl | (with_reducible first | show LeG _ _ | show Lp _ _ _ _ | show Exists _ | show callX _ _ _ _ _)))) <;> (try exact cl5)
  · simp at hn; subst hn; simp at h0
  · refine ⟨[], [(0, 320)], ?_, ?_, by decide, by decide, fun i hi => by omega⟩ <;> (repeat' (first | exact trivial | refine HpLe.dd ?_ | refine HpLe.mk rfl (by simp) rfl (fun h => AObj.noConfusion h) ?_ ?_ | refine And.intro ?_ ?_ | exact cl9 | refine VLe.pe ?_ | refine VLe.agg ?_ | refine VLe.tup ?_ | refine VLe.fn ?_ ?_ | refine VLeL.cons ?_ ?_ | exact VLeL.nil | exact OLe.row _ _ | rfl | refine VLe.rsle rfl ?_ ?_ ?_ | refine OLe.rowe2 ?_ ?_ | refine OLe.mape ?_ ?_ | refine OLe.iter0 ?_ | refine OLe.itere ?_ ?_)) <;> simp
theorem okD_spec {d : Dk} (h : okD d = true) : (1 ≤ d.secs.length ∧ d.secs.length ≤ 4096) ∧ d.pend.length ≤ 4096 ∧ (-1 ≤ d.left ∧ d.left ≤ 65536) ∧ (∀ w ∈ d.pend, (0 ≤ w.pos ∧ w.pos < d.secs.length) ∧ w.data.length = 128) ∧ ∀ b ∈ d.secs, b.length = 128 := by
  unfold okD at h
  simp only [List.length_map] at h
  split at h
  · cases h
  split at h
  · cases h
  split at h
  · cases h
  split at h
  · cases h
  split at h
  · cases h
  split at h
  · cases h
  refine ⟨by omega, by omega, by omega, fun w hw => ?_, fun b hb => ?_⟩
  · rename_i h6
    have h7 : ¬ badW d.secs.length w = true := fun e => h6 (List.any_eq_true.2 ⟨w, hw, e⟩)
    simp [badW, isS] at h7
    omega
  · simp [isS] at h
    have := h b hb
    omega
theorem perf_all {Q : Bs → Prop} : ∀ (l : List Wr) (ss : List Bs), (∀ b ∈ ss, Q b) → (∀ w ∈ l, Q w.data) → ∀ b ∈ perf ss l, Q b
  | [], ss, h, _ => h
  | w :: l, ss, h, k => by
    show ∀ b ∈ perf (ss.set w.pos.toNat w.data) l, Q b
    refine perf_all l _ (fun b hb => ?_) (fun v hv => k v (by simp [hv]))
    rcases List.mem_or_eq_of_mem_set hb with hb | hb
    · exact h b hb
    · rw [hb]; exact k w (by simp)
def tornW (ss : List Bs) (w : Wr) : List Bs := ss.set w.pos.toNat (w.data.take 64 ++ (ss.getD w.pos.toNat []).drop 64)
def syncD (d : Dk) : Dk × Int :=
  if runD d then (if 0 ≤ d.left then (if d.left < (d.pend.map eW).length then (⟨tornW (perf d.secs (d.pend.take d.left.toNat)) (d.pend.getD d.left.toNat ⟨0, []⟩), [], 0, true⟩, 40)
    else (⟨perf d.secs d.pend, [], d.left - (d.pend.map eW).length, false⟩, 0)) else (⟨perf d.secs d.pend, [], d.left, false⟩, 0)) else (d0, 40)
theorem torn_eq (w x : Bs) (hw : w.length = 128) (hx : x.length = 128) : List.take x.length (List.drop 0 (List.take (0 + 0) (x.map (PV.int .u8)) ++ List.take (min (w.map (PV.int .u8)).length (64 - 0)) (w.map (PV.int .u8)) ++ List.drop (0 + 0 + min (w.map (PV.int .u8)).length (64 - 0)) (x.map (PV.int .u8)))) = (w.take 64 ++ x.drop 64).map (PV.int .u8) := by
  simp only [List.length_map, hw, hx, List.drop_zero, Nat.add_zero, List.take_zero, List.nil_append, Nat.sub_zero, Nat.zero_add, List.map_append, List.map_take, List.map_drop]
  rw [show min 128 64 = 64 from rfl, List.take_of_length_le (by simp; omega)]
theorem sync_calls (d : Dk) (h1 : d.secs.length < 1000000) (h2 : d.pend.length < 1000000) : PCalls Try.prog 27 [eD d] (eR (syncD d)) := by
  cases hrun : runD d with
  | false =>
    refine PCalls.of (N := 78) (res := [.cell 2 25, .tmp 3]) mixed Try.func27 rfl rfl rfl (by kernel_rfl) (by simp) [0, 1, 2, 3, 4, 5, 6, 7, 10, 23, 71] ?_
    repeat' (first | exact cl1 | ((with_reducible show Exists _); refine exU8 ?_) | ((with_reducible show callX _ _ _ _ _); (first | refine call_p (runs_calls _ h1 h2) (by kernel_rfl) rfl ?_)) | ((fail_if_success with_reducible first | show LeG _ _ | show Lp _ _ _ _ | show Exists _ | show callX _ _ _ _ _ | show (_ : Int) ≤ _ | show (_ : Int) < _ | show (_ : Nat) ≤ _ | show (_ : Nat) < _); (conv => whnf) <;> (first | exact cl2 | refine XAlt.l ?_ | refine Sq.pr ?_ | refine Br.dec (fun hc => ?_) (fun hc => ?_) | refine Br.tt ?_ | refine Br.ff ?_ | refine Br.not ?_ | refine Br.mk (fun hc => ?_) (fun hc => ?_) | refine Opt.nn ?_ | refine Opt.ss ?_ | refine AltA.l ?_ | exact PV.leL_nil | refine PV.leL_cons ?_ ?_ | refine And.intro ?_ ?_ | refine ix_map (fun x hx => ?_) | refine exU8 ?_ | refine nilc (fun hn => ?_) ?_ | refine call_p (runs_calls _ h1 h2) (by kernel_rfl) rfl ?_ | exact cl3 | refine imp0 (fun hpos => ?_) | refine fits_i64 ?_ ?_ | exact rfl | (with_reducible first | show LeG _ _ | show Lp _ _ _ _ | show Exists _ | show callX _ _ _ _ _)))) <;> (try exact cl5)
    all_goals first | (rw [hrun] at *; contradiction) | skip
    ((all_goals (try simp only [syncD, *, ↓reduceIte, Bool.false_eq_true, Bool.not_true, Bool.not_false, Bool.and_true, Bool.true_and, Bool.and_false, Bool.false_and, List.nil_append, List.drop_zero, Nat.zero_add, List.take_length, Int.toNat_natCast, Int.toNat_zero, List.append_nil]))); ((all_goals (try refine LeG.mk ?_)); (repeat' (first | exact PV.le_refl _ | exact PV.le_nil _ _ _ | exact PV.le_clip _ _ _ | exact PV.le_nilF _ _ _ | refine PV.le_agg ?_ | refine PV.le_tup ?_ | exact PV.leL_nil | refine PV.leL_cons ?_ ?_ | refine PV.le_of ?_ | rfl)))
  | true =>
    obtain ⟨⟨k1, k2⟩, k3, k4, k5, k6⟩ := okD_spec (d := d) (by simp [runD] at hrun; exact hrun.1)
    refine PCalls.of (N := 78) (res := [.cell 2 25, .tmp 3]) mixed Try.func27 rfl rfl rfl (by kernel_rfl) (by simp) [0, 1, 2, 3, 4, 5, 6, 7, 10, 23, 71] ?_
    repeat' (first | exact cl1 | ((with_reducible show Exists _); refine exU8 ?_) | ((with_reducible show callX _ _ _ _ _); (first | refine call_p (runs_calls _ h1 h2) (by kernel_rfl) rfl ?_ | refine call_i [] (perform_icalls d.secs (d.pend.take d.left.toNat) true _ (by simp [List.map_take]) k1 h1 (by simp; omega) (fun w hw => (k5 w (List.mem_of_mem_take hw)).1)) (by kernel_rfl) rfl rfl (by simp) (by simp) (by simp) (fun _ _ => rfl) (by simp) (by simp [keys]) ?_ | refine call_i [] (perform_icalls d.secs d.pend false _ rfl k1 h1 h2 (fun w hw => (k5 w hw).1)) (by kernel_rfl) rfl rfl (by simp) (by simp) (by simp) (fun _ _ => rfl) (by simp) (by simp [keys]) ?_)) | ((fail_if_success with_reducible first | show LeG _ _ | show Lp _ _ _ _ | show Exists _ | show callX _ _ _ _ _ | show (_ : Int) ≤ _ | show (_ : Int) < _ | show (_ : Nat) ≤ _ | show (_ : Nat) < _); (conv => whnf) <;> (first | exact cl2 | refine Sq.fz (id := 10) [(7, false)] ?_ | refine XAlt.l ?_ | refine Sq.pr ?_ | refine Br.dec (fun hc => ?_) (fun hc => ?_) | refine Br.tt ?_ | refine Br.ff ?_ | refine Br.not ?_ | refine Br.mk (fun hc => ?_) (fun hc => ?_) | refine Opt.nn ?_ | refine Opt.ss ?_ | refine AltA.l ?_ | exact PV.leL_nil | refine PV.leL_cons ?_ ?_ | refine And.intro ?_ ?_ | refine ix_map (fun x hx => ?_) | refine exU8 ?_ | refine nilc (fun hn => ?_) ?_ | refine call_p (runs_calls _ h1 h2) (by kernel_rfl) rfl ?_ | refine call_i [] (perform_icalls d.secs (d.pend.take d.left.toNat) true _ (by simp [List.map_take]) k1 h1 (by simp; omega) (fun w hw => (k5 w (List.mem_of_mem_take hw)).1)) (by kernel_rfl) rfl rfl (by simp) (by simp) (by simp) (fun _ _ => rfl) (by simp) (by simp [keys]) ?_ | refine call_i [] (perform_icalls d.secs d.pend false _ rfl k1 h1 h2 (fun w hw => (k5 w hw).1)) (by kernel_rfl) rfl rfl (by simp) (by simp) (by simp) (fun _ _ => rfl) (by simp) (by simp [keys]) ?_ | exact cl3 | refine imp0 (fun hpos => ?_) | refine fits_i64 ?_ ?_ | exact rfl | (with_reducible first | show LeG _ _ | show Lp _ _ _ _ | show Exists _ | show callX _ _ _ _ _)))) <;> (try exact cl5)
    · exact (k5 x (List.mem_of_getElem? hx)).1.1
    · exact (k5 x (List.mem_of_getElem? hx)).1.2
    · have := (k5 x (List.mem_of_getElem? hx)).1
      rw [List.length_map, perf_len]; omega
    · rename_i w hw
      have hw5 := k5 w (List.mem_of_getElem? hw)
      have hx128 : x.length = 128 := perf_all (Q := fun b => b.length = 128) _ _ k6 (fun w hw => (k5 w (List.mem_of_mem_take hw)).2) x (List.mem_of_getElem? hx)
      have hpl : ((perf d.secs (d.pend.take d.left.toNat)).map eB).length = d.secs.length := by rw [List.length_map, perf_len]
      repeat' (first | exact cl1 | ((with_reducible show Exists _); refine exU8 ?_) | ((with_reducible show callX _ _ _ _ _); (first | refine call_i [] (cloneB_icalls x (by omega) (by omega)) (by kernel_rfl) rfl rfl (by simp) (by simp) (by simp) (fun _ _ => rfl) (by simp) (by simp [keys]) ?_)) | ((fail_if_success with_reducible first | show LeG _ _ | show Lp _ _ _ _ | show Exists _ | show callX _ _ _ _ _ | show (_ : Int) ≤ _ | show (_ : Int) < _ | show (_ : Nat) ≤ _ | show (_ : Nat) < _); (conv => whnf) <;> (first | exact cl2 | refine Sq.fz (id := 10) [(7, false)] ?_ | refine XAlt.l ?_ | refine Sq.pr ?_ | refine Br.dec (fun hc => ?_) (fun hc => ?_) | refine Br.tt ?_ | refine Br.ff ?_ | refine Br.not ?_ | refine Br.mk (fun hc => ?_) (fun hc => ?_) | refine Opt.nn ?_ | refine Opt.ss ?_ | refine AltA.l ?_ | exact PV.leL_nil | refine PV.leL_cons ?_ ?_ | refine And.intro ?_ ?_ | refine ix_map (fun x hx => ?_) | refine exU8 ?_ | refine nilc (fun hn => ?_) ?_ | refine call_i [] (cloneB_icalls x (by omega) (by omega)) (by kernel_rfl) rfl rfl (by simp) (by simp) (by simp) (fun _ _ => rfl) (by simp) (by simp [keys]) ?_ | exact cl3 | refine imp0 (fun hpos => ?_) | refine fits_i64 ?_ ?_ | exact rfl | (with_reducible first | show LeG _ _ | show Lp _ _ _ _ | show Exists _ | show callX _ _ _ _ _)))) <;> (try exact cl5)
      · rw [List.length_set, hpl]; omega
      · have e1 : d.pend.getD d.left.toNat ⟨0, []⟩ = w := by simp [List.getD, hw]
        have e2 : (perf d.secs (d.pend.take d.left.toNat)).getD w.pos.toNat [] = x := by
          rw [Nat.zero_add] at hx; simp [List.getD, hx]
        have e3 : syncD d = (⟨(perf d.secs (d.pend.take d.left.toNat)).set w.pos.toNat (w.data.take 64 ++ x.drop 64), [], 0, true⟩, 40) := by
          unfold syncD tornW
          rw [if_pos hrun, if_pos (by assumption), if_pos (by assumption), e1, e2]
        rw [e3]
        refine LeG.mk (PV.le_tup (PV.leL_cons (PV.le_agg (PV.leL_cons (PV.le_of ?_) (PV.leL_cons (PV.le_nil _ _ _) (PV.leL_refl _)))) (PV.leL_refl _)))
        rw [List.drop_zero, List.take_of_length_le (by rw [List.length_set, hpl]; exact Nat.le_refl _)]
        show PV.sl 1 false (((perf d.secs (d.pend.take d.left.toNat)).map eB).set (0 + w.pos.toNat) (PV.sl 1 false (List.take x.length (List.drop 0 (List.take (0 + 0) (x.map (PV.int .u8)) ++ List.take (min (w.data.map (PV.int .u8)).length (64 - 0)) (w.data.map (PV.int .u8)) ++ List.drop (0 + 0 + min (w.data.map (PV.int .u8)).length (64 - 0)) (x.map (PV.int .u8))))))) = _
        rw [torn_eq w.data x hw5.2 hx128, Nat.zero_add]
        show _ = PV.sl 1 false (List.map eB ((perf d.secs (d.pend.take d.left.toNat)).set w.pos.toNat (w.data.take 64 ++ x.drop 64)))
        rw [List.map_set]; rfl
    · rw [List.length_map, perf_len]; omega
    · ((all_goals (try simp only [syncD, *, ↓reduceIte, Bool.false_eq_true, Bool.not_true, Bool.not_false, Bool.and_true, Bool.true_and, Bool.and_false, Bool.false_and, List.nil_append, List.drop_zero, Nat.zero_add, List.take_length, Int.toNat_natCast, Int.toNat_zero, List.append_nil]))); ((all_goals (try refine LeG.mk ?_)); (repeat' (first | exact PV.le_refl _ | exact PV.le_nil _ _ _ | exact PV.le_clip _ _ _ | exact PV.le_nilF _ _ _ | refine PV.le_agg ?_ | refine PV.le_tup ?_ | exact PV.leL_nil | refine PV.leL_cons ?_ ?_ | refine PV.le_of ?_ | rfl)))
      rw [List.take_of_length_le (by rw [List.length_map, perf_len]; exact Nat.le_refl _)]; rfl
    · rw [List.length_map, perf_len]; omega
    · ((all_goals (try simp only [syncD, *, ↓reduceIte, Bool.false_eq_true, Bool.not_true, Bool.not_false, Bool.and_true, Bool.true_and, Bool.and_false, Bool.false_and, List.nil_append, List.drop_zero, Nat.zero_add, List.take_length, Int.toNat_natCast, Int.toNat_zero, List.append_nil]))); ((all_goals (try refine LeG.mk ?_)); (repeat' (first | exact PV.le_refl _ | exact PV.le_nil _ _ _ | exact PV.le_clip _ _ _ | exact PV.le_nilF _ _ _ | refine PV.le_agg ?_ | refine PV.le_tup ?_ | exact PV.leL_nil | refine PV.leL_cons ?_ ?_ | refine PV.le_of ?_ | rfl)))
      rw [List.take_of_length_le (by rw [List.length_map, perf_len]; exact Nat.le_refl _)]; rfl
    · rw [hrun] at *; contradiction
end Go.Proofs.Ytijkiolobmkhhaa

namespace Go.Proofs.Ytijkiolobmkhhaa
open Go Go.Sg
set_option maxRecDepth 100000
set_option maxHeartbeats 4000000
theorem okD_of {d : Dk} (h1 : 1 ≤ d.secs.length ∧ d.secs.length ≤ 4096) (h2 : d.pend.length ≤ 4096) (h3 : -1 ≤ d.left ∧ d.left ≤ 65536) (h4 : ∀ w ∈ d.pend, (0 ≤ w.pos ∧ w.pos < d.secs.length) ∧ w.data.length = 128) (h5 : ∀ b ∈ d.secs, b.length = 128) : okD d = true := by
  unfold okD
  simp only [List.length_map]
  rw [if_neg (by omega), if_neg (by omega), if_neg (by omega), if_neg (by omega), if_neg (by omega)]
  have e1 : d.pend.any (badW d.secs.length) = false := by
    rw [List.any_eq_false]
    intro w hw
    have := h4 w hw
    simp [badW, isS]; omega
  have e2 : (d.secs.any fun b => !isS b) = false := by
    rw [List.any_eq_false]
    intro b hb
    have := h5 b hb
    simp [isS]; omega
  rw [e1, e2]; rfl
theorem okE_no {d : Dk} (h : ¬ okD d = true) : LeG (PV.int .i64 40) (eE (if okD d = true then 0 else 40)) := by rw [if_neg h]; exact LeG.refl _
theorem okE_yes {d : Dk} (h : okD d = true) : LeG (PV.int .i64 0) (eE (if okD d = true then 0 else 40)) := by rw [if_pos h]; exact LeG.refl _
theorem rcheck_calls (d : Dk) (h1 : d.secs.length < 1000000) (h2 : d.pend.length < 1000000) : PCalls Try.prog 33 [eD d] (eE (if okD d then 0 else 40)) := by
  refine PCalls.of (N := 71) (res := [.tmp 2]) mixed Try.func33 rfl rfl rfl (by kernel_rfl) (by simp) [0, 1, 2, 3, 4, 5, 6, 31, 34, 43, 48, 70] ?_
  repeat' (first | exact cl1 | ((with_reducible show Exists _); refine exU8 ?_) | ((fail_if_success with_reducible first | show LeG _ _ | show Lp _ _ _ _ | show Exists _ | show callX _ _ _ _ _ | show (_ : Int) ≤ _ | show (_ : Int) < _ | show (_ : Nat) ≤ _ | show (_ : Nat) < _); (conv => whnf) <;> (first | exact cl2 | refine XAlt.l ?_ | refine Sq.pr ?_ | refine Br.dec (fun hc => ?_) (fun hc => ?_) | refine Br.tt ?_ | refine Br.ff ?_ | refine Br.not ?_ | refine Br.mk (fun hc => ?_) (fun hc => ?_) | refine Opt.nn ?_ | refine Opt.ss ?_ | refine AltA.l ?_ | exact PV.leL_nil | refine PV.leL_cons ?_ ?_ | refine And.intro ?_ ?_ | refine ix_map (fun x hx => ?_) | refine exU8 ?_ | refine nilc (fun hn => ?_) ?_ | exact cl3 | refine imp0 (fun hpos => ?_) | refine fits_i64 ?_ ?_ | exact rfl | (with_reducible first | show LeG _ _ | show Lp _ _ _ _ | show Exists _ | show callX _ _ _ _ _)))) <;> (try exact cl5)
  all_goals try (refine okE_no fun h => ?_; obtain ⟨⟨k1, k2⟩, k3, k4, k5, k6⟩ := okD_spec h; simp only [List.length_map] at *; omega)
  refine Wpc.loop (α := {i : Nat // i ≤ d.secs.length ∧ ∀ j b, j < i → d.secs[j]? = some b → b.length = 128}) mixed [0, 1, 2, 3, 4, 5, 6, 31, 34, 43, 48, 70] (fun i => ⟨[(1, .ptr 0 0), (2, .p (eI 0)), (3, .p (eI d.secs.length)), (4, .p (eI i.1))], [(0, .cells [.p (eS d.secs), .p (eP d.pend), .p (eI d.left), .p (.bool d.stop)])], 1856, 0⟩) (fun i => d.secs.length - i.1) ⟨0, by omega, by intro j b h; omega⟩ ?_ ?_
  · refine Ent.of [] [(0,0)] ?_ ?_ (by decide) (by simp) (by first | decide | simp) rfl <;> (repeat' (first | exact trivial | refine HpLe.dd ?_ | refine HpLe.mk rfl (by simp) rfl (fun h => AObj.noConfusion h) ?_ ?_ | refine And.intro ?_ ?_ | exact cl9 | refine VLe.pe ?_ | refine VLe.agg ?_ | refine VLe.tup ?_ | refine VLe.fn ?_ ?_ | refine VLeL.cons ?_ ?_ | exact VLeL.nil | exact OLe.row _ _ | rfl | refine VLe.rsle rfl ?_ ?_ ?_ | refine OLe.rowe2 ?_ ?_ | refine OLe.mape ?_ ?_ | refine OLe.iter0 ?_ | refine OLe.itere ?_ ?_))
    all_goals simp [eI]
  intro i
  obtain ⟨i1, i2⟩ := i.2
  repeat' (first | exact cl1 | ((with_reducible show Exists _); refine exU8 ?_) | ((fail_if_success with_reducible first | show LeG _ _ | show Lp _ _ _ _ | show Exists _ | show callX _ _ _ _ _ | show (_ : Int) ≤ _ | show (_ : Int) < _ | show (_ : Nat) ≤ _ | show (_ : Nat) < _); (conv => whnf) <;> (first | exact cl2 | refine XAlt.l ?_ | refine Sq.pr ?_ | refine Br.dec (fun hc => ?_) (fun hc => ?_) | refine Br.tt ?_ | refine Br.ff ?_ | refine Br.not ?_ | refine Br.mk (fun hc => ?_) (fun hc => ?_) | refine Opt.nn ?_ | refine Opt.ss ?_ | refine AltA.l ?_ | exact PV.leL_nil | refine PV.leL_cons ?_ ?_ | refine And.intro ?_ ?_ | refine ix_map (fun x hx => ?_) | refine exU8 ?_ | refine nilc (fun hn => ?_) ?_ | exact cl3 | refine imp0 (fun hpos => ?_) | refine fits_i64 ?_ ?_ | exact rfl | (with_reducible first | show LeG _ _ | show Lp _ _ _ _ | show Exists _ | show callX _ _ _ _ _)))) <;> (try exact cl5)
  · refine okE_no fun h => ?_
    obtain ⟨_, _, _, _, k6⟩ := okD_spec h
    have := k6 x (List.mem_of_getElem? hx)
    simp only [List.length_map] at *; omega
  · refine ⟨⟨i.1 + 1, by omega, fun j b hj hb => ?_⟩, by show d.secs.length - (i.1 + 1) < _; omega, ?_⟩
    · rcases Nat.lt_succ_iff_lt_or_eq.1 hj with h | h
      · exact i2 j b h hb
      · subst h
        rw [show ((i.1 : Int)).toNat = i.1 from rfl, hb] at hx
        injection hx with hx; subst hx
        simp only [List.length_map] at hc; omega
    · refine Ent.of [] [(0,0)] ?_ ?_ (by decide) (by simp) (by first | decide | simp) rfl <;> (repeat' (first | exact trivial | refine HpLe.dd ?_ | refine HpLe.mk rfl (by simp) rfl (fun h => AObj.noConfusion h) ?_ ?_ | refine And.intro ?_ ?_ | exact cl9 | refine VLe.pe ?_ | refine VLe.agg ?_ | refine VLe.tup ?_ | refine VLe.fn ?_ ?_ | refine VLeL.cons ?_ ?_ | exact VLeL.nil | exact OLe.row _ _ | rfl | refine VLe.rsle rfl ?_ ?_ ?_ | refine OLe.rowe2 ?_ ?_ | refine OLe.mape ?_ ?_ | refine OLe.iter0 ?_ | refine OLe.itere ?_ ?_))
  have hS : ∀ b ∈ d.secs, b.length = 128 := fun b hb => by
    obtain ⟨j, hj⟩ := List.getElem?_of_mem hb
    have := (List.getElem?_eq_some_iff.1 hj).1
    exact i2 j b (by omega) hj
  refine Wpc.loop (α := {i : Nat // i ≤ d.pend.length ∧ ∀ j w, j < i → d.pend[j]? = some w → (0 ≤ w.pos ∧ w.pos < d.secs.length) ∧ w.data.length = 128}) mixed [0, 1, 2, 3, 4, 5, 6, 31, 34, 43, 48, 70] (fun i => ⟨[(1, .ptr 0 0), (2, .p (eI 0)), (3, .p (eI d.secs.length)), (5, .p (eI i.1))], [(0, .cells [.p (eS d.secs), .p (eP d.pend), .p (eI d.left), .p (.bool d.stop)])], 2112, 0⟩) (fun i => d.pend.length - i.1) ⟨0, by omega, by intro j b h; omega⟩ ?_ ?_
  · refine Ent.of [] [(0,0)] ?_ ?_ (by decide) (by simp) (by first | decide | simp) rfl <;> (repeat' (first | exact trivial | refine HpLe.dd ?_ | refine HpLe.mk rfl (by simp) rfl (fun h => AObj.noConfusion h) ?_ ?_ | refine And.intro ?_ ?_ | exact cl9 | refine VLe.pe ?_ | refine VLe.agg ?_ | refine VLe.tup ?_ | refine VLe.fn ?_ ?_ | refine VLeL.cons ?_ ?_ | exact VLeL.nil | exact OLe.row _ _ | rfl | refine VLe.rsle rfl ?_ ?_ ?_ | refine OLe.rowe2 ?_ ?_ | refine OLe.mape ?_ ?_ | refine OLe.iter0 ?_ | refine OLe.itere ?_ ?_))
  intro m
  obtain ⟨m1, m2⟩ := m.2
  repeat' (first | exact cl1 | ((with_reducible show Exists _); refine exU8 ?_) | ((fail_if_success with_reducible first | show LeG _ _ | show Lp _ _ _ _ | show Exists _ | show callX _ _ _ _ _ | show (_ : Int) ≤ _ | show (_ : Int) < _ | show (_ : Nat) ≤ _ | show (_ : Nat) < _); (conv => whnf) <;> (first | exact cl2 | refine XAlt.l ?_ | refine Sq.pr ?_ | refine Br.dec (fun hc => ?_) (fun hc => ?_) | refine Br.tt ?_ | refine Br.ff ?_ | refine Br.not ?_ | refine Br.mk (fun hc => ?_) (fun hc => ?_) | refine Opt.nn ?_ | refine Opt.ss ?_ | refine AltA.l ?_ | exact PV.leL_nil | refine PV.leL_cons ?_ ?_ | refine And.intro ?_ ?_ | refine ix_map (fun x hx => ?_) | refine exU8 ?_ | refine nilc (fun hn => ?_) ?_ | exact cl3 | refine imp0 (fun hpos => ?_) | refine fits_i64 ?_ ?_ | exact rfl | (with_reducible first | show LeG _ _ | show Lp _ _ _ _ | show Exists _ | show callX _ _ _ _ _)))) <;> (try exact cl5)
  all_goals try (refine okE_no fun h => ?_; obtain ⟨_, _, _, k5, _⟩ := okD_spec h; have := k5 x (List.mem_of_getElem? hx); simp only [List.length_map] at *; omega)
  · have hx' : (0 ≤ x.pos ∧ x.pos < d.secs.length) ∧ x.data.length = 128 := by simp only [List.length_map] at *; omega
    refine ⟨⟨m.1 + 1, by simp only [List.length_map] at *; omega, fun j w hj hw => ?_⟩, by show d.pend.length - (m.1 + 1) < d.pend.length - m.1; simp only [List.length_map] at *; omega, ?_⟩
    · rcases Nat.lt_succ_iff_lt_or_eq.1 hj with h | h
      · exact m2 j w h hw
      · subst h
        rw [show ((m.1 : Int)).toNat = m.1 from rfl, hw] at hx
        injection hx with hx; subst hx
        exact hx'
    · refine Ent.of [] [(0,0)] ?_ ?_ (by decide) (by simp) (by first | decide | simp) rfl <;> (repeat' (first | exact trivial | refine HpLe.dd ?_ | refine HpLe.mk rfl (by simp) rfl (fun h => AObj.noConfusion h) ?_ ?_ | refine And.intro ?_ ?_ | exact cl9 | refine VLe.pe ?_ | refine VLe.agg ?_ | refine VLe.tup ?_ | refine VLe.fn ?_ ?_ | refine VLeL.cons ?_ ?_ | exact VLeL.nil | exact OLe.row _ _ | rfl | refine VLe.rsle rfl ?_ ?_ ?_ | refine OLe.rowe2 ?_ ?_ | refine OLe.mape ?_ ?_ | refine OLe.iter0 ?_ | refine OLe.itere ?_ ?_))
  · simp only [List.length_map] at *
    refine okE_yes (okD_of (by omega) (by omega) (by omega) (fun w hw => ?_) hS)
    obtain ⟨j, hj⟩ := List.getElem?_of_mem hw
    have := (List.getElem?_eq_some_iff.1 hj).1
    exact m2 j w (by omega) hj
end Go.Proofs.Ytijkiolobmkhhaa

namespace Go.Proofs.Ytijkiolobmkhhaa
open Go Go.Sg
set_option maxRecDepth 100000
set_option maxHeartbeats 4000000
theorem rchk_ok {d : Dk} (hd : okD d = true) (h1 : d.secs.length < 1000000) (h2 : d.pend.length < 1000000) : PCalls Try.prog 33 [eD d] (eE 0) := by
  have h := rcheck_calls d h1 h2
  simpa only [hd, ↓reduceIte] using h
theorem rchk_no {d : Dk} (hd : okD d = false) (h1 : d.secs.length < 1000000) (h2 : d.pend.length < 1000000) : PCalls Try.prog 33 [eD d] (eE 40) := by
  have h := rcheck_calls d h1 h2
  simpa only [hd, Bool.false_eq_true, ↓reduceIte] using h
end Go.Proofs.Ytijkiolobmkhhaa

namespace Go.Proofs.Ytijkiolobmkhhaa
open Go Go.Sg
set_option maxRecDepth 100000
set_option maxHeartbeats 4000000
theorem rwrite_calls (d : Dk) (i : Int) (b : Bs) (h1 : d.secs.length < 1000000) (h2 : d.pend.length < 1000000) (h3 : b.length < 1000000) : PCalls Try.prog 46 [eD d, eI i, eB b] (eR (writeD d i b)) := by
  cases hd : okD d with
  | false =>
    refine PCalls.of (N := 57) (res := [.cell 6 25, .tmp 7]) mixed Try.func46 rfl rfl rfl (by kernel_rfl) (by simp) [0, 1, 2, 3, 6, 7, 8, 26, 30, 35, 42] ?_
    repeat' (first | exact cl1 | ((with_reducible show Exists _); refine exU8 ?_) | ((with_reducible show callX _ _ _ _ _); (first | refine call_p (rchk_no hd h1 h2) (by kernel_rfl) rfl ?_)) | ((fail_if_success with_reducible first | show LeG _ _ | show Lp _ _ _ _ | show Exists _ | show callX _ _ _ _ _ | show (_ : Int) ≤ _ | show (_ : Int) < _ | show (_ : Nat) ≤ _ | show (_ : Nat) < _); (conv => whnf) <;> (first | exact cl2 | refine XAlt.l ?_ | refine Sq.pr ?_ | refine Br.dec (fun hc => ?_) (fun hc => ?_) | refine Br.tt ?_ | refine Br.ff ?_ | refine Br.not ?_ | refine Br.mk (fun hc => ?_) (fun hc => ?_) | refine Opt.nn ?_ | refine Opt.ss ?_ | refine AltA.l ?_ | exact PV.leL_nil | refine PV.leL_cons ?_ ?_ | refine And.intro ?_ ?_ | refine ix_map (fun x hx => ?_) | refine exU8 ?_ | refine nilc (fun hn => ?_) ?_ | exact cl3 | refine imp0 (fun hpos => ?_) | refine fits_i64 ?_ ?_ | exact rfl | (with_reducible first | show LeG _ _ | show Lp _ _ _ _ | show Exists _ | show callX _ _ _ _ _)))) <;> (try exact cl5)
    ((all_goals (try simp only [writeD, runD, hd, *, ↓reduceIte, Bool.false_eq_true, Bool.not_true, Bool.not_false, Bool.and_true, Bool.true_and, Bool.and_false, Bool.false_and, List.nil_append, List.drop_zero, Nat.zero_add, List.take_length, Int.toNat_natCast, Int.toNat_zero, List.append_nil]))); ((all_goals (try refine LeG.mk ?_)); (repeat' (first | exact PV.le_refl _ | exact PV.le_nil _ _ _ | exact PV.le_clip _ _ _ | exact PV.le_nilF _ _ _ | refine PV.le_agg ?_ | refine PV.le_tup ?_ | exact PV.leL_nil | refine PV.leL_cons ?_ ?_ | refine PV.le_of ?_ | rfl)))
  | true =>
    refine PCalls.of (N := 57) (res := [.cell 6 25, .tmp 7]) mixed Try.func46 rfl rfl rfl (by kernel_rfl) (by simp) [0, 1, 2, 3, 6, 7, 8, 26, 30, 35, 42] ?_
    repeat' (first | exact cl1 | ((with_reducible show Exists _); refine exU8 ?_) | ((with_reducible show callX _ _ _ _ _); (first | refine call_p (rchk_ok hd h1 h2) (by kernel_rfl) rfl ?_)) | ((fail_if_success with_reducible first | show LeG _ _ | show Lp _ _ _ _ | show Exists _ | show callX _ _ _ _ _ | show (_ : Int) ≤ _ | show (_ : Int) < _ | show (_ : Nat) ≤ _ | show (_ : Nat) < _); (conv => whnf) <;> (first | exact cl2 | refine XAlt.l ?_ | refine Sq.pr ?_ | refine Br.dec (fun hc => ?_) (fun hc => ?_) | refine Br.tt ?_ | refine Br.ff ?_ | refine Br.not ?_ | refine Br.mk (fun hc => ?_) (fun hc => ?_) | refine Opt.nn ?_ | refine Opt.ss ?_ | refine AltA.l ?_ | exact PV.leL_nil | refine PV.leL_cons ?_ ?_ | refine And.intro ?_ ?_ | refine ix_map (fun x hx => ?_) | refine exU8 ?_ | refine nilc (fun hn => ?_) ?_ | exact cl3 | refine imp0 (fun hpos => ?_) | refine fits_i64 ?_ ?_ | exact rfl | (with_reducible first | show LeG _ _ | show Lp _ _ _ _ | show Exists _ | show callX _ _ _ _ _)))) <;> (try exact cl5)
    · ((all_goals (try simp only [writeD, runD, hd, *, ↓reduceIte, Bool.false_eq_true, Bool.not_true, Bool.not_false, Bool.and_true, Bool.true_and, Bool.and_false, Bool.false_and, List.nil_append, List.drop_zero, Nat.zero_add, List.take_length, Int.toNat_natCast, Int.toNat_zero, List.append_nil]))); ((all_goals (try refine LeG.mk ?_)); (repeat' (first | exact PV.le_refl _ | exact PV.le_nil _ _ _ | exact PV.le_clip _ _ _ | exact PV.le_nilF _ _ _ | refine PV.le_agg ?_ | refine PV.le_tup ?_ | exact PV.leL_nil | refine PV.leL_cons ?_ ?_ | refine PV.le_of ?_ | rfl)))
    · have hs : hasD d i = false := by simp only [hasD, Bool.and_eq_false_iff, decide_eq_false_iff_not]; omega
      ((all_goals (try simp only [writeD, runD, hd, hs, *, ↓reduceIte, Bool.false_eq_true, Bool.not_true, Bool.not_false, Bool.and_true, Bool.true_and, Bool.and_false, Bool.false_and, List.nil_append, List.drop_zero, Nat.zero_add, List.take_length, Int.toNat_natCast, Int.toNat_zero, List.append_nil]))); ((all_goals (try refine LeG.mk ?_)); (repeat' (first | exact PV.le_refl _ | exact PV.le_nil _ _ _ | exact PV.le_clip _ _ _ | exact PV.le_nilF _ _ _ | refine PV.le_agg ?_ | refine PV.le_tup ?_ | exact PV.leL_nil | refine PV.leL_cons ?_ ?_ | refine PV.le_of ?_ | rfl)))
    · have hs : hasD d i = false := by simp only [List.length_map, hasD, Bool.and_eq_false_iff, decide_eq_false_iff_not] at *; omega
      ((all_goals (try simp only [writeD, runD, hd, hs, *, ↓reduceIte, Bool.false_eq_true, Bool.not_true, Bool.not_false, Bool.and_true, Bool.true_and, Bool.and_false, Bool.false_and, List.nil_append, List.drop_zero, Nat.zero_add, List.take_length, Int.toNat_natCast, Int.toNat_zero, List.append_nil]))); ((all_goals (try refine LeG.mk ?_)); (repeat' (first | exact PV.le_refl _ | exact PV.le_nil _ _ _ | exact PV.le_clip _ _ _ | exact PV.le_nilF _ _ _ | refine PV.le_agg ?_ | refine PV.le_tup ?_ | exact PV.leL_nil | refine PV.leL_cons ?_ ?_ | refine PV.le_of ?_ | rfl)))
    · have hs : hasD d i = true := by simp only [List.length_map, hasD, Bool.and_eq_true, decide_eq_true_eq] at *; omega
      ((all_goals (try simp only [writeD, runD, hd, hs, *, ↓reduceIte, Bool.false_eq_true, Bool.not_true, Bool.not_false, Bool.and_true, Bool.true_and, Bool.and_false, Bool.false_and, List.nil_append, List.drop_zero, Nat.zero_add, List.take_length, Int.toNat_natCast, Int.toNat_zero, List.append_nil]))); ((all_goals (try refine LeG.mk ?_)); (repeat' (first | exact PV.le_refl _ | exact PV.le_nil _ _ _ | exact PV.le_clip _ _ _ | exact PV.le_nilF _ _ _ | refine PV.le_agg ?_ | refine PV.le_tup ?_ | exact PV.leL_nil | refine PV.leL_cons ?_ ?_ | refine PV.le_of ?_ | rfl)))
    · have hs : hasD d i = true := by simp only [List.length_map, hasD, Bool.and_eq_true, decide_eq_true_eq] at *; omega
      ((all_goals (try simp only [writeD, runD, hd, hs, *, ↓reduceIte, Bool.false_eq_true, Bool.not_true, Bool.not_false, Bool.and_true, Bool.true_and, Bool.and_false, Bool.false_and, List.nil_append, List.drop_zero, Nat.zero_add, List.take_length, Int.toNat_natCast, Int.toNat_zero, List.append_nil]))); ((all_goals (try refine LeG.mk ?_)); (repeat' (first | exact PV.le_refl _ | exact PV.le_nil _ _ _ | exact PV.le_clip _ _ _ | exact PV.le_nilF _ _ _ | refine PV.le_agg ?_ | refine PV.le_tup ?_ | exact PV.leL_nil | refine PV.leL_cons ?_ ?_ | refine PV.le_of ?_ | rfl)))
    have hst : d.stop = false := by assumption
    have hs : hasD d i = true := by simp only [List.length_map, hasD, Bool.and_eq_true, decide_eq_true_eq] at *; omega
    have hb : ¬ 128 < ((b.map (PV.int .u8)).length : Int) := by assumption
    have hp : ¬ ((d.pend.map eW).length : Int) = 4096 := by assumption
    have hw : writeD d i b = ({ d with pend := d.pend ++ [⟨i, fillB b⟩] }, 0) := by
      unfold writeD runD
      rw [hd, hst, hs, if_neg hb, if_neg hp]
      rfl
    rw [hw]
    have hb' : b.length ≤ 128 := by simp only [List.length_map] at hb; omega
    refine Wpc.loopA (α := {k : Nat // k ≤ 128 - b.length}) mixed [0, 1, 2, 3, 6, 7, 8, 26, 30, 35, 42] (fun k => [(8, .rsl 1920 1 0 (b.length + k.1))]) (fun k => [(1920, .row 1 ((b ++ List.replicate k.1 0).map (.int .u8)))]) (fun _ => 0) (fun k => 128 - b.length - k.1) ⟨0, by omega⟩ ?_ ?_
    · (first | refine Ent.ofA [] ?_ | refine Ent.ofC [] ?_) <;> (repeat' (first | exact trivial | refine HpLe.dd ?_ | refine HpLe.mk rfl (by simp) rfl (fun h => AObj.noConfusion h) ?_ ?_ | refine And.intro ?_ ?_ | exact cl9 | refine VLe.pe ?_ | refine VLe.agg ?_ | refine VLe.tup ?_ | refine VLe.fn ?_ ?_ | refine VLeL.cons ?_ ?_ | exact VLeL.nil | exact OLe.row _ _ | rfl | refine VLe.rsle rfl ?_ ?_ ?_ | refine OLe.rowe2 ?_ ?_ | refine OLe.mape ?_ ?_ | refine OLe.iter0 ?_ | refine OLe.itere ?_ ?_)) <;> try (first | (simp; done) | (congr 1; omega) | (congr 1; (first | (simp; done) | (simp; omega))))
      all_goals simp
    rintro ⟨k, hk⟩
    repeat' (first | exact cl1 | ((with_reducible show Exists _); refine exU8 ?_) | ((fail_if_success with_reducible first | show LeG _ _ | show Lp _ _ _ _ | show Exists _ | show callX _ _ _ _ _ | show (_ : Int) ≤ _ | show (_ : Int) < _ | show (_ : Nat) ≤ _ | show (_ : Nat) < _); (conv => whnf) <;> (first | exact cl2 | refine XAlt.l ?_ | refine Sq.pr ?_ | refine Br.dec (fun hc => ?_) (fun hc => ?_) | refine Br.tt ?_ | refine Br.ff ?_ | refine Br.not ?_ | refine Br.mk (fun hc => ?_) (fun hc => ?_) | refine Opt.nn ?_ | refine Opt.ss ?_ | refine AltA.l ?_ | exact PV.leL_nil | refine PV.leL_cons ?_ ?_ | refine And.intro ?_ ?_ | refine ix_map (fun x hx => ?_) | refine exU8 ?_ | refine nilc (fun hn => ?_) ?_ | exact cl3 | refine imp0 (fun hpos => ?_) | refine fits_i64 ?_ ?_ | exact rfl | (with_reducible first | show LeG _ _ | show Lp _ _ _ _ | show Exists _ | show callX _ _ _ _ _)))) <;> (try exact cl5)
    · refine ⟨⟨k + 1, by have hc : ((b.length + k : Nat) : Int) < 128 := hc; omega⟩, by show 128 - b.length - (k + 1) < 128 - b.length - k; have hc : ((b.length + k : Nat) : Int) < 128 := hc; omega, ?_⟩
      (first | refine Ent.ofA [] ?_ | refine Ent.ofC [] ?_) <;> (repeat' (first | exact trivial | refine HpLe.dd ?_ | refine HpLe.mk rfl (by simp) rfl (fun h => AObj.noConfusion h) ?_ ?_ | refine And.intro ?_ ?_ | exact cl9 | refine VLe.pe ?_ | refine VLe.agg ?_ | refine VLe.tup ?_ | refine VLe.fn ?_ ?_ | refine VLeL.cons ?_ ?_ | exact VLeL.nil | exact OLe.row _ _ | rfl | refine VLe.rsle rfl ?_ ?_ ?_ | refine OLe.rowe2 ?_ ?_ | refine OLe.mape ?_ ?_ | refine OLe.iter0 ?_ | refine OLe.itere ?_ ?_)) <;> try (first | (simp; done) | (congr 1; omega) | (congr 1; (first | (simp; done) | (simp; omega))))
      show _ ++ [PV.int .u8 0] = List.map (PV.int .u8) (b ++ List.replicate (k + 1) 0)
      rw [List.replicate_succ', ← List.append_assoc, List.map_append (l₂ := [0])]; rfl
    · have hk2 : k = 128 - b.length := by have hc : ¬ ((b.length + k : Nat) : Int) < 128 := hc; omega
      ((all_goals (try simp only [*, ↓reduceIte, Bool.false_eq_true, Bool.not_true, Bool.not_false, Bool.and_true, Bool.true_and, Bool.and_false, Bool.false_and, List.nil_append, List.drop_zero, Nat.zero_add, List.take_length, Int.toNat_natCast, Int.toNat_zero, List.append_nil]))); ((all_goals (try refine LeG.mk ?_)); (repeat' (first | exact PV.le_refl _ | exact PV.le_nil _ _ _ | exact PV.le_clip _ _ _ | exact PV.le_nilF _ _ _ | refine PV.le_agg ?_ | refine PV.le_tup ?_ | exact PV.leL_nil | refine PV.leL_cons ?_ ?_ | refine PV.le_of ?_ | rfl)))
      show PV.sl 2 false _ = PV.sl 2 false (List.map eW (d.pend ++ [⟨i, fillB b⟩]))
      rw [List.take_of_length_le (by simp)]
      show PV.sl 2 false (d.pend.map eW ++ [PV.agg [eI i, PV.sl 1 false (List.take (b.length + (128 - b.length)) ((fillB b).map (PV.int .u8)))]]) = _
      rw [List.take_of_length_le (by simp [fillB]), List.map_append (f := eW)]; rfl
end Go.Proofs.Ytijkiolobmkhhaa

namespace Go.Proofs.Ytijkiolobmkhhaa
open Go Go.Sg
set_option maxRecDepth 100000
set_option maxHeartbeats 4000000
theorem rsync_calls (d : Dk) (h1 : d.secs.length < 1000000) (h2 : d.pend.length < 1000000) : PCalls Try.prog 48 [eD d] (eR (syncD d)) := by
  cases hd : okD d with
  | false =>
    refine PCalls.of (N := 95) (res := [.cell 2 25, .tmp 3]) mixed Try.func48 rfl rfl rfl (by kernel_rfl) (by simp) [0, 1, 2, 3, 4, 5, 6, 7, 8, 15, 29, 41, 59, 88] ?_
    repeat' (first | exact cl1 | ((with_reducible show Exists _); refine exU8 ?_) | ((with_reducible show callX _ _ _ _ _); (first | refine call_p (rchk_no hd h1 h2) (by kernel_rfl) rfl ?_)) | ((fail_if_success with_reducible first | show LeG _ _ | show Lp _ _ _ _ | show Exists _ | show callX _ _ _ _ _ | show (_ : Int) ≤ _ | show (_ : Int) < _ | show (_ : Nat) ≤ _ | show (_ : Nat) < _); (conv => whnf) <;> (first | exact cl2 | refine XAlt.l ?_ | refine Sq.pr ?_ | refine Br.dec (fun hc => ?_) (fun hc => ?_) | refine Br.tt ?_ | refine Br.ff ?_ | refine Br.not ?_ | refine Br.mk (fun hc => ?_) (fun hc => ?_) | refine Opt.nn ?_ | refine Opt.ss ?_ | refine AltA.l ?_ | exact PV.leL_nil | refine PV.leL_cons ?_ ?_ | refine And.intro ?_ ?_ | refine ix_map (fun x hx => ?_) | refine exU8 ?_ | refine nilc (fun hn => ?_) ?_ | exact cl3 | refine imp0 (fun hpos => ?_) | refine fits_i64 ?_ ?_ | exact rfl | (with_reducible first | show LeG _ _ | show Lp _ _ _ _ | show Exists _ | show callX _ _ _ _ _)))) <;> (try exact cl5)
    ((all_goals (try simp only [syncD, runD, hd, *, ↓reduceIte, Bool.false_eq_true, Bool.not_true, Bool.not_false, Bool.and_true, Bool.true_and, Bool.and_false, Bool.false_and, List.nil_append, List.drop_zero, Nat.zero_add, List.take_length, Int.toNat_natCast, Int.toNat_zero, List.append_nil]))); ((all_goals (try refine LeG.mk ?_)); (repeat' (first | exact PV.le_refl _ | exact PV.le_nil _ _ _ | exact PV.le_clip _ _ _ | exact PV.le_nilF _ _ _ | refine PV.le_agg ?_ | refine PV.le_tup ?_ | exact PV.leL_nil | refine PV.leL_cons ?_ ?_ | refine PV.le_of ?_ | rfl)))
  | true =>
    obtain ⟨⟨k1, k2⟩, k3, k4, k5, k6⟩ := okD_spec hd
    refine PCalls.of (N := 95) (res := [.cell 2 25, .tmp 3]) mixed Try.func48 rfl rfl rfl (by kernel_rfl) (by simp) [0, 1, 2, 3, 4, 5, 6, 7, 8, 15, 29, 41, 59, 88] ?_
    repeat' (first | exact cl1 | ((with_reducible show Exists _); refine exU8 ?_) | ((with_reducible show callX _ _ _ _ _); (first | refine call_p (rchk_ok hd h1 h2) (by kernel_rfl) rfl ?_)) | ((fail_if_success with_reducible first | show LeG _ _ | show Lp _ _ _ _ | show Exists _ | show callX _ _ _ _ _ | show (_ : Int) ≤ _ | show (_ : Int) < _ | show (_ : Nat) ≤ _ | show (_ : Nat) < _); (conv => whnf) <;> (first | exact cl2 | refine XAlt.l ?_ | refine Sq.pr ?_ | refine Br.dec (fun hc => ?_) (fun hc => ?_) | refine Br.tt ?_ | refine Br.ff ?_ | refine Br.not ?_ | refine Br.mk (fun hc => ?_) (fun hc => ?_) | refine Opt.nn ?_ | refine Opt.ss ?_ | refine AltA.l ?_ | exact PV.leL_nil | refine PV.leL_cons ?_ ?_ | refine And.intro ?_ ?_ | refine ix_map (fun x hx => ?_) | refine exU8 ?_ | refine nilc (fun hn => ?_) ?_ | exact cl3 | refine imp0 (fun hpos => ?_) | refine fits_i64 ?_ ?_ | exact rfl | (with_reducible first | show LeG _ _ | show Lp _ _ _ _ | show Exists _ | show callX _ _ _ _ _)))) <;> (try exact cl5)
    · ((all_goals (try simp only [syncD, runD, hd, *, ↓reduceIte, Bool.false_eq_true, Bool.not_true, Bool.not_false, Bool.and_true, Bool.true_and, Bool.and_false, Bool.false_and, List.nil_append, List.drop_zero, Nat.zero_add, List.take_length, Int.toNat_natCast, Int.toNat_zero, List.append_nil]))); ((all_goals (try refine LeG.mk ?_)); (repeat' (first | exact PV.le_refl _ | exact PV.le_nil _ _ _ | exact PV.le_clip _ _ _ | exact PV.le_nilF _ _ _ | refine PV.le_agg ?_ | refine PV.le_tup ?_ | exact PV.leL_nil | refine PV.leL_cons ?_ ?_ | refine PV.le_of ?_ | rfl)))
    · refine Wpc.loopA (α := {i : Nat // i ≤ d.left.toNat}) mixed [0, 1, 2, 3, 4, 5, 6, 7, 8, 15, 29, 41, 59, 88] (fun i => [(7, .p (eI i.1))]) (fun i => [(1984, .row 1 ((perf d.secs (d.pend.take i.1)).map eB))]) (fun _ => 0) (fun i => d.left.toNat - i.1) ⟨0, by omega⟩ ?_ ?_
      · (first | refine Ent.ofA [] ?_ | refine Ent.ofC [] ?_) <;> (repeat' (first | exact trivial | refine HpLe.dd ?_ | refine HpLe.mk rfl (by simp) rfl (fun h => AObj.noConfusion h) ?_ ?_ | refine And.intro ?_ ?_ | exact cl9 | refine VLe.pe ?_ | refine VLe.agg ?_ | refine VLe.tup ?_ | refine VLe.fn ?_ ?_ | refine VLeL.cons ?_ ?_ | exact VLeL.nil | exact OLe.row _ _ | rfl | refine VLe.rsle rfl ?_ ?_ ?_ | refine OLe.rowe2 ?_ ?_ | refine OLe.mape ?_ ?_ | refine OLe.iter0 ?_ | refine OLe.itere ?_ ?_)) <;> try (first | (simp; done) | (congr 1; omega) | (congr 1; (first | (simp; done) | (simp; omega))))
      rintro ⟨i, hi⟩
      have hpl : ((perf d.secs (d.pend.take i)).map eB).length = d.secs.length := by rw [List.length_map, perf_len]
      repeat' (first | exact cl1 | ((with_reducible show Exists _); refine exU8 ?_) | ((fail_if_success with_reducible first | show LeG _ _ | show Lp _ _ _ _ | show Exists _ | show callX _ _ _ _ _ | show (_ : Int) ≤ _ | show (_ : Int) < _ | show (_ : Nat) ≤ _ | show (_ : Nat) < _); (conv => whnf) <;> (first | exact cl2 | refine XAlt.l ?_ | refine Sq.pr ?_ | refine Br.dec (fun hc => ?_) (fun hc => ?_) | refine Br.tt ?_ | refine Br.ff ?_ | refine Br.not ?_ | refine Br.mk (fun hc => ?_) (fun hc => ?_) | refine Opt.nn ?_ | refine Opt.ss ?_ | refine AltA.l ?_ | exact PV.leL_nil | refine PV.leL_cons ?_ ?_ | refine And.intro ?_ ?_ | refine ix_map (fun x hx => ?_) | refine exU8 ?_ | refine nilc (fun hn => ?_) ?_ | exact cl3 | refine imp0 (fun hpos => ?_) | refine fits_i64 ?_ ?_ | exact rfl | (with_reducible first | show LeG _ _ | show Lp _ _ _ _ | show Exists _ | show callX _ _ _ _ _)))) <;> (try exact cl5)
      · rename_i w hw
        exact (k5 w (List.mem_of_getElem? hw)).1.1
      · rename_i w hw
        have := (k5 w (List.mem_of_getElem? hw)).1.2
        simp only [List.length_map, Nat.zero_add]; exact this
      · rename_i w hw
        have h := (k5 w (List.mem_of_getElem? hw)).1
        show 0 + w.pos.toNat < ((perf d.secs (d.pend.take i)).map eB).length
        omega
      · rename_i w hw
        have hw : d.pend[i]? = some w := hw
        have hx : d.pend[i]? = some _ := hx
        rw [hw] at hx; injection hx with hx; subst hx
        have h8 : i < d.left.toNat := by have hc : (i : Int) < d.left := by assumption
                                         omega
        refine ⟨⟨i + 1, h8⟩, by show d.left.toNat - (i + 1) < d.left.toNat - i; omega, ?_⟩
        (first | refine Ent.ofA [] ?_ | refine Ent.ofC [] ?_) <;> (repeat' (first | exact trivial | refine HpLe.dd ?_ | refine HpLe.mk rfl (by simp) rfl (fun h => AObj.noConfusion h) ?_ ?_ | refine And.intro ?_ ?_ | exact cl9 | refine VLe.pe ?_ | refine VLe.agg ?_ | refine VLe.tup ?_ | refine VLe.fn ?_ ?_ | refine VLeL.cons ?_ ?_ | exact VLeL.nil | exact OLe.row _ _ | rfl | refine VLe.rsle rfl ?_ ?_ ?_ | refine OLe.rowe2 ?_ ?_ | refine OLe.mape ?_ ?_ | refine OLe.iter0 ?_ | refine OLe.itere ?_ ?_)) <;> try (first | (simp; done) | (congr 1; omega) | (congr 1; (first | (simp; done) | (simp; omega))))
        show ((perf d.secs (d.pend.take i)).map eB).set (0 + w.pos.toNat) (eB w.data) = (perf d.secs (d.pend.take (i + 1))).map eB
        rw [perf_take _ _ _ _ hw, List.map_set, Nat.zero_add]
      · have := (k5 x (List.mem_of_getElem? hx)).2
        simp only [List.length_map, this]; decide
      · exact (k5 x (List.mem_of_getElem? hx)).1.1
      · have := (k5 x (List.mem_of_getElem? hx)).1.2
        simp only [List.length_map, Nat.zero_add]; exact this
      · have h := (k5 x (List.mem_of_getElem? hx)).1
        show 0 + x.pos.toNat < ((perf d.secs (d.pend.take i)).map eB).length
        omega
      · have h9 : x.length = 128 := perf_all (Q := fun b => b.length = 128) (d.pend.take i) d.secs k6 (fun w hw => (k5 w (List.mem_of_mem_take hw)).2) x (List.mem_of_getElem? hx)
        simp only [List.length_map, h9]; decide
      · rename_i w hw
        have h9 : x.length = 128 := perf_all (Q := fun b => b.length = 128) (d.pend.take i) d.secs k6 (fun w hw => (k5 w (List.mem_of_mem_take hw)).2) x (List.mem_of_getElem? hx)
        have h8 := (k5 w (List.mem_of_getElem? hw)).2
        simp [h9, h8]
      · rename_i w hw
        exact (k5 w (List.mem_of_getElem? hw)).1.1
      · rename_i w hw
        have := (k5 w (List.mem_of_getElem? hw)).1.2
        simp only [List.length_map, Nat.zero_add]; exact this
      · rename_i w hw
        have h := (k5 w (List.mem_of_getElem? hw)).1
        show 0 + w.pos.toNat < ((perf d.secs (d.pend.take i)).map eB).length
        omega
      · rename_i w hw
        show 0 + (0 + (d.secs.map eB).length) ≤ (((perf d.secs (d.pend.take i)).map eB).set _ _).length
        rw [List.length_set, hpl]; simp
      · rename_i w hw
        have h9 : x.length = 128 := perf_all (Q := fun b => b.length = 128) (d.pend.take i) d.secs k6 (fun w hw => (k5 w (List.mem_of_mem_take hw)).2) x (List.mem_of_getElem? hx)
        have h8 := (k5 w (List.mem_of_getElem? hw)).2
        have hst : d.stop = false := by assumption
        have h0 : 0 ≤ d.left := by assumption
        have hl : d.left < ((d.pend.map eW).length : Int) := by assumption
        have hi2 : i = d.left.toNat := by have hc : ¬ (i : Int) < d.left := by assumption
                                          omega
        subst hi2
        have hsd : syncD d = (⟨tornW (perf d.secs (d.pend.take d.left.toNat)) w, [], 0, true⟩, 40) := by
          unfold syncD runD
          rw [hd, hst]
          simp only [Bool.not_false, Bool.and_self, ↓reduceIte, if_pos h0, if_pos hl]
          simp [List.getD, hw]
        rw [hsd]
        ((all_goals (try simp only [*, ↓reduceIte, Bool.false_eq_true, Bool.not_true, Bool.not_false, Bool.and_true, Bool.true_and, Bool.and_false, Bool.false_and, List.nil_append, List.drop_zero, Nat.zero_add, List.take_length, Int.toNat_natCast, Int.toNat_zero, List.append_nil]))); ((all_goals (try refine LeG.mk ?_)); (repeat' (first | exact PV.le_refl _ | exact PV.le_nil _ _ _ | exact PV.le_clip _ _ _ | exact PV.le_nilF _ _ _ | refine PV.le_agg ?_ | refine PV.le_tup ?_ | exact PV.leL_nil | refine PV.leL_cons ?_ ?_ | refine PV.le_of ?_ | rfl)))
        show PV.sl 1 false _ = PV.sl 1 false ((tornW (perf d.secs (d.pend.take d.left.toNat)) w).map eB)
        rw [Nat.zero_add] at hx
        rw [List.take_of_length_le (by simp [perf_len])]
        unfold tornW
        have hx2 : (perf d.secs (d.pend.take d.left.toNat)).getD w.pos.toNat [] = x := by
          have hx2 : (perf d.secs (d.pend.take d.left.toNat))[w.pos.toNat]? = some x := hx
          simp [List.getD, hx2]
        rw [List.map_set, hx2]
        show PV.sl 1 false (List.set _ w.pos.toNat (PV.sl 1 false (List.take ((List.take 64 (w.data.map (PV.int .u8))).length + (List.drop 64 (x.map (PV.int .u8))).length) (List.take 64 (w.data.map (PV.int .u8)) ++ List.drop 64 (x.map (PV.int .u8)))))) = PV.sl 1 false (List.set _ w.pos.toNat (PV.sl 1 false (List.map (PV.int .u8) (w.data.take 64 ++ x.drop 64))))
        rw [List.take_of_length_le (l := List.take 64 (w.data.map (PV.int .u8)) ++ List.drop 64 (x.map (PV.int .u8))) (Nat.le_of_eq List.length_append), List.map_append, List.map_take, List.map_drop]
    · refine Wpc.loopA (α := {i : Nat // i ≤ d.pend.length}) mixed [0, 1, 2, 3, 4, 5, 6, 7, 8, 15, 29, 41, 59, 88] (fun i => [(7, .p (eI i.1))]) (fun i => [(1792, .row 1 ((perf d.secs (d.pend.take i.1)).map eB))]) (fun _ => 0) (fun i => d.pend.length - i.1) ⟨0, by omega⟩ ?_ ?_
      · (first | refine Ent.ofA [] ?_ | refine Ent.ofC [] ?_) <;> (repeat' (first | exact trivial | refine HpLe.dd ?_ | refine HpLe.mk rfl (by simp) rfl (fun h => AObj.noConfusion h) ?_ ?_ | refine And.intro ?_ ?_ | exact cl9 | refine VLe.pe ?_ | refine VLe.agg ?_ | refine VLe.tup ?_ | refine VLe.fn ?_ ?_ | refine VLeL.cons ?_ ?_ | exact VLeL.nil | exact OLe.row _ _ | rfl | refine VLe.rsle rfl ?_ ?_ ?_ | refine OLe.rowe2 ?_ ?_ | refine OLe.mape ?_ ?_ | refine OLe.iter0 ?_ | refine OLe.itere ?_ ?_)) <;> try (first | (simp; done) | (congr 1; omega) | (congr 1; (first | (simp; done) | (simp; omega))))
      rintro ⟨i, hi⟩
      have hpl : ((perf d.secs (d.pend.take i)).map eB).length = d.secs.length := by rw [List.length_map, perf_len]
      repeat' (first | exact cl1 | ((with_reducible show Exists _); refine exU8 ?_) | ((fail_if_success with_reducible first | show LeG _ _ | show Lp _ _ _ _ | show Exists _ | show callX _ _ _ _ _ | show (_ : Int) ≤ _ | show (_ : Int) < _ | show (_ : Nat) ≤ _ | show (_ : Nat) < _); (conv => whnf) <;> (first | exact cl2 | refine XAlt.l ?_ | refine Sq.pr ?_ | refine Br.dec (fun hc => ?_) (fun hc => ?_) | refine Br.tt ?_ | refine Br.ff ?_ | refine Br.not ?_ | refine Br.mk (fun hc => ?_) (fun hc => ?_) | refine Opt.nn ?_ | refine Opt.ss ?_ | refine AltA.l ?_ | exact PV.leL_nil | refine PV.leL_cons ?_ ?_ | refine And.intro ?_ ?_ | refine ix_map (fun x hx => ?_) | refine exU8 ?_ | refine nilc (fun hn => ?_) ?_ | exact cl3 | refine imp0 (fun hpos => ?_) | refine fits_i64 ?_ ?_ | exact rfl | (with_reducible first | show LeG _ _ | show Lp _ _ _ _ | show Exists _ | show callX _ _ _ _ _)))) <;> (try exact cl5)
      · rename_i w hw
        exact (k5 w (List.mem_of_getElem? hw)).1.1
      · rename_i w hw
        have := (k5 w (List.mem_of_getElem? hw)).1.2
        simp only [List.length_map, Nat.zero_add]; exact this
      · rename_i w hw
        have h := (k5 w (List.mem_of_getElem? hw)).1
        show 0 + w.pos.toNat < ((perf d.secs (d.pend.take i)).map eB).length
        omega
      · rename_i w hw
        have hw : d.pend[i]? = some w := hw
        have hx : d.pend[i]? = some _ := hx
        rw [hw] at hx; injection hx with hx; subst hx
        have h8 : i < d.pend.length := by have hc : (i : Int) < ((d.pend.map eW).length : Int) := by assumption
                                          simp only [List.length_map] at hc; omega
        refine ⟨⟨i + 1, h8⟩, by show d.pend.length - (i + 1) < d.pend.length - i; omega, ?_⟩
        (first | refine Ent.ofA [] ?_ | refine Ent.ofC [] ?_) <;> (repeat' (first | exact trivial | refine HpLe.dd ?_ | refine HpLe.mk rfl (by simp) rfl (fun h => AObj.noConfusion h) ?_ ?_ | refine And.intro ?_ ?_ | exact cl9 | refine VLe.pe ?_ | refine VLe.agg ?_ | refine VLe.tup ?_ | refine VLe.fn ?_ ?_ | refine VLeL.cons ?_ ?_ | exact VLeL.nil | exact OLe.row _ _ | rfl | refine VLe.rsle rfl ?_ ?_ ?_ | refine OLe.rowe2 ?_ ?_ | refine OLe.mape ?_ ?_ | refine OLe.iter0 ?_ | refine OLe.itere ?_ ?_)) <;> try (first | (simp; done) | (congr 1; omega) | (congr 1; (first | (simp; done) | (simp; omega))))
        show ((perf d.secs (d.pend.take i)).map eB).set (0 + w.pos.toNat) (eB w.data) = (perf d.secs (d.pend.take (i + 1))).map eB
        rw [perf_take _ _ _ _ hw, List.map_set, Nat.zero_add]
      · show 0 + (0 + (d.secs.map eB).length) ≤ ((perf d.secs (d.pend.take i)).map eB).length
        rw [hpl]; simp
      · have hi2 : i = d.pend.length := by have hc : ¬ (i : Int) < ((d.pend.map eW).length : Int) := by assumption
                                           simp only [List.length_map] at hc; omega
        subst hi2
        ((all_goals (try simp only [syncD, runD, hd, *, ↓reduceIte, Bool.false_eq_true, Bool.not_true, Bool.not_false, Bool.and_true, Bool.true_and, Bool.and_false, Bool.false_and, List.nil_append, List.drop_zero, Nat.zero_add, List.take_length, Int.toNat_natCast, Int.toNat_zero, List.append_nil]))); ((all_goals (try refine LeG.mk ?_)); (repeat' (first | exact PV.le_refl _ | exact PV.le_nil _ _ _ | exact PV.le_clip _ _ _ | exact PV.le_nilF _ _ _ | refine PV.le_agg ?_ | refine PV.le_tup ?_ | exact PV.leL_nil | refine PV.leL_cons ?_ ?_ | refine PV.le_of ?_ | rfl)))
        show PV.sl 1 false _ = PV.sl 1 false ((perf d.secs d.pend).map eB)
        rw [List.take_of_length_le (by simp [perf_len])]
    · refine Wpc.loopA (α := {i : Nat // i ≤ d.pend.length}) mixed [0, 1, 2, 3, 4, 5, 6, 7, 8, 15, 29, 41, 59, 88] (fun i => [(7, .p (eI i.1))]) (fun i => [(1536, .row 1 ((perf d.secs (d.pend.take i.1)).map eB))]) (fun _ => 0) (fun i => d.pend.length - i.1) ⟨0, by omega⟩ ?_ ?_
      · (first | refine Ent.ofA [] ?_ | refine Ent.ofC [] ?_) <;> (repeat' (first | exact trivial | refine HpLe.dd ?_ | refine HpLe.mk rfl (by simp) rfl (fun h => AObj.noConfusion h) ?_ ?_ | refine And.intro ?_ ?_ | exact cl9 | refine VLe.pe ?_ | refine VLe.agg ?_ | refine VLe.tup ?_ | refine VLe.fn ?_ ?_ | refine VLeL.cons ?_ ?_ | exact VLeL.nil | exact OLe.row _ _ | rfl | refine VLe.rsle rfl ?_ ?_ ?_ | refine OLe.rowe2 ?_ ?_ | refine OLe.mape ?_ ?_ | refine OLe.iter0 ?_ | refine OLe.itere ?_ ?_)) <;> try (first | (simp; done) | (congr 1; omega) | (congr 1; (first | (simp; done) | (simp; omega))))
      rintro ⟨i, hi⟩
      have hpl : ((perf d.secs (d.pend.take i)).map eB).length = d.secs.length := by rw [List.length_map, perf_len]
      repeat' (first | exact cl1 | ((with_reducible show Exists _); refine exU8 ?_) | ((fail_if_success with_reducible first | show LeG _ _ | show Lp _ _ _ _ | show Exists _ | show callX _ _ _ _ _ | show (_ : Int) ≤ _ | show (_ : Int) < _ | show (_ : Nat) ≤ _ | show (_ : Nat) < _); (conv => whnf) <;> (first | exact cl2 | refine XAlt.l ?_ | refine Sq.pr ?_ | refine Br.dec (fun hc => ?_) (fun hc => ?_) | refine Br.tt ?_ | refine Br.ff ?_ | refine Br.not ?_ | refine Br.mk (fun hc => ?_) (fun hc => ?_) | refine Opt.nn ?_ | refine Opt.ss ?_ | refine AltA.l ?_ | exact PV.leL_nil | refine PV.leL_cons ?_ ?_ | refine And.intro ?_ ?_ | refine ix_map (fun x hx => ?_) | refine exU8 ?_ | refine nilc (fun hn => ?_) ?_ | exact cl3 | refine imp0 (fun hpos => ?_) | refine fits_i64 ?_ ?_ | exact rfl | (with_reducible first | show LeG _ _ | show Lp _ _ _ _ | show Exists _ | show callX _ _ _ _ _)))) <;> (try exact cl5)
      · rename_i w hw
        exact (k5 w (List.mem_of_getElem? hw)).1.1
      · rename_i w hw
        have := (k5 w (List.mem_of_getElem? hw)).1.2
        simp only [List.length_map, Nat.zero_add]; exact this
      · rename_i w hw
        have h := (k5 w (List.mem_of_getElem? hw)).1
        show 0 + w.pos.toNat < ((perf d.secs (d.pend.take i)).map eB).length
        omega
      · rename_i w hw
        have hw : d.pend[i]? = some w := hw
        have hx : d.pend[i]? = some _ := hx
        rw [hw] at hx; injection hx with hx; subst hx
        have h8 : i < d.pend.length := by have hc : (i : Int) < ((d.pend.map eW).length : Int) := by assumption
                                          simp only [List.length_map] at hc; omega
        refine ⟨⟨i + 1, h8⟩, by show d.pend.length - (i + 1) < d.pend.length - i; omega, ?_⟩
        (first | refine Ent.ofA [] ?_ | refine Ent.ofC [] ?_) <;> (repeat' (first | exact trivial | refine HpLe.dd ?_ | refine HpLe.mk rfl (by simp) rfl (fun h => AObj.noConfusion h) ?_ ?_ | refine And.intro ?_ ?_ | exact cl9 | refine VLe.pe ?_ | refine VLe.agg ?_ | refine VLe.tup ?_ | refine VLe.fn ?_ ?_ | refine VLeL.cons ?_ ?_ | exact VLeL.nil | exact OLe.row _ _ | rfl | refine VLe.rsle rfl ?_ ?_ ?_ | refine OLe.rowe2 ?_ ?_ | refine OLe.mape ?_ ?_ | refine OLe.iter0 ?_ | refine OLe.itere ?_ ?_)) <;> try (first | (simp; done) | (congr 1; omega) | (congr 1; (first | (simp; done) | (simp; omega))))
        show ((perf d.secs (d.pend.take i)).map eB).set (0 + w.pos.toNat) (eB w.data) = (perf d.secs (d.pend.take (i + 1))).map eB
        rw [perf_take _ _ _ _ hw, List.map_set, Nat.zero_add]
      · show 0 + (0 + (d.secs.map eB).length) ≤ ((perf d.secs (d.pend.take i)).map eB).length
        rw [hpl]; simp
      · have hi2 : i = d.pend.length := by have hc : ¬ (i : Int) < ((d.pend.map eW).length : Int) := by assumption
                                           simp only [List.length_map] at hc; omega
        subst hi2
        ((all_goals (try simp only [syncD, runD, hd, *, ↓reduceIte, Bool.false_eq_true, Bool.not_true, Bool.not_false, Bool.and_true, Bool.true_and, Bool.and_false, Bool.false_and, List.nil_append, List.drop_zero, Nat.zero_add, List.take_length, Int.toNat_natCast, Int.toNat_zero, List.append_nil]))); ((all_goals (try refine LeG.mk ?_)); (repeat' (first | exact PV.le_refl _ | exact PV.le_nil _ _ _ | exact PV.le_clip _ _ _ | exact PV.le_nilF _ _ _ | refine PV.le_agg ?_ | refine PV.le_tup ?_ | exact PV.leL_nil | refine PV.leL_cons ?_ ?_ | refine PV.le_of ?_ | rfl)))
        show PV.sl 1 false _ = PV.sl 1 false ((perf d.secs d.pend).map eB)
        rw [List.take_of_length_le (by simp [perf_len])]
end Go.Proofs.Ytijkiolobmkhhaa

namespace Go.Proofs.Ytijkiolobmkhhaa
open Go Go.Sg
set_option maxRecDepth 100000
set_option maxHeartbeats 8000000
/-- A journal. -/
structure Jn where
  recs : List Bs
  many : Int
  sync : Int
def eJ (j : Jn) : PV := .agg [eS j.recs, eI j.many, eI j.sync]
def j0 : Jn := ⟨[], 0, 0⟩
/-- Sectors of so many bytes. -/
def secN (n : Nat) : Nat := max 1 ((n + 111) / 112)
def usedN (l : List Bs) : Nat := (l.map fun b => secN b.length).sum
/-- How much there is of records. -/
def szL (l : List Bs) : Nat := (l.map fun b => b.length + 1).sum
theorem secN_le (n : Nat) : secN n ≤ n + 1 := by unfold secN; omega
theorem secN_pos (n : Nat) : 1 ≤ secN n := by unfold secN; omega
theorem usedN_le (l : List Bs) : usedN l ≤ szL l := by
  induction l with
  | nil => exact Nat.le_refl _
  | cons b r ih =>
    have := secN_le b.length
    simp only [usedN, szL, List.map_cons, List.sum_cons] at ih ⊢; omega
theorem szL_len (l : List Bs) : l.length ≤ szL l := by
  induction l with
  | nil => exact Nat.le_refl _
  | cons b r ih => simp only [szL, List.map_cons, List.sum_cons, List.length_cons] at ih ⊢; omega
theorem szL_mem {l : List Bs} {b : Bs} (h : b ∈ l) : b.length + 1 ≤ szL l := by
  induction l with
  | nil => cases h
  | cons a r ih =>
    simp only [szL, List.map_cons, List.sum_cons] at ih ⊢
    rcases List.mem_cons.1 h with e | e
    · subst e; omega
    · have := ih e; omega
theorem usedN_take {l : List Bs} {i : Nat} {b : Bs} (h : l[i]? = some b) : usedN (l.take (i + 1)) = usedN (l.take i) + secN b.length := by
  unfold usedN
  rw [List.take_add_one, h]; simp
theorem szL_take {l : List Bs} {i : Nat} {b : Bs} (h : l[i]? = some b) : szL (l.take (i + 1)) = szL (l.take i) + (b.length + 1) := by
  unfold szL
  rw [List.take_add_one, h]; simp
theorem szL_takeLe (l : List Bs) (i : Nat) : szL (l.take i) ≤ szL l := by
  conv => rhs; rw [← List.take_append_drop i l]
  unfold szL; rw [List.map_append, List.sum_append]; omega
theorem usedN_takeLe (l : List Bs) (i : Nat) : usedN (l.take i) ≤ usedN l := by
  conv => rhs; rw [← List.take_append_drop i l]
  unfold usedN; rw [List.map_append, List.sum_append]; omega
theorem max_if (a : Int) : (if true = true then (if a > 1 then a else 1) else (if a < 1 then a else 1)) = max 1 a := by
  rw [if_pos rfl]; split <;> omega
theorem sec_div (n : Nat) : max 1 (((n : Int) + 112 - 1).tdiv 112) = ((secN n : Nat) : Int) := by
  rw [Int.tdiv_eq_ediv_of_nonneg (by omega)]; unfold secN; omega
theorem Sectors_calls (n : Nat) (h : n < 4611686018427387904) : PCalls Try.prog 39 [eI n] (eI (secN n)) := by
  have hq : ((n : Int) + 112 - 1).tdiv 112 ≤ (n : Int) + 112 - 1 := by rw [Int.tdiv_eq_ediv_of_nonneg (by omega)]; omega
  have hp : 0 ≤ ((n : Int) + 112 - 1).tdiv 112 := by rw [Int.tdiv_eq_ediv_of_nonneg (by omega)]; omega
  refine PCalls.of (N := 8) (res := [.tmp 2]) mixed Try.func39 rfl rfl rfl (by kernel_rfl) (by simp) [0, 2] ?_
  repeat' (first | exact cl1 | ((with_reducible show Exists _); refine exU8 ?_) | ((fail_if_success with_reducible first | show LeG _ _ | show Lp _ _ _ _ | show Exists _ | show callX _ _ _ _ _ | show (_ : Int) ≤ _ | show (_ : Int) < _ | show (_ : Nat) ≤ _ | show (_ : Nat) < _); (conv => whnf) <;> (first | exact cl2 | refine XAlt.l ?_ | refine Sq.pr ?_ | refine Br.dec (fun hc => ?_) (fun hc => ?_) | refine Br.tt ?_ | refine Br.ff ?_ | refine Br.not ?_ | refine Br.mk (fun hc => ?_) (fun hc => ?_) | refine Opt.nn ?_ | refine Opt.ss ?_ | refine AltA.l ?_ | exact PV.leL_nil | refine PV.leL_cons ?_ ?_ | refine And.intro ?_ ?_ | refine ix_map (fun x hx => ?_) | refine exU8 ?_ | refine nilc (fun hn => ?_) ?_ | exact cl3 | refine imp0 (fun hpos => ?_) | refine fits_i64 ?_ ?_ | exact rfl | (with_reducible first | show LeG _ _ | show Lp _ _ _ _ | show Exists _ | show callX _ _ _ _ _)))) <;> (try exact cl5)
  all_goals first
  | (refine LeG.of (congrArg eI ?_); rw [← sec_div]; exact max_if _)
  | omega
theorem sectors_calls (b : Bs) (h : b.length < 4611686018427387904) : PCalls Try.prog 35 [eB b] (eI (secN b.length)) := by
  have hm : (b.map (PV.int .u8)).length = b.length := List.length_map _
  have hq : ((b.length : Int) + 112 - 1).tdiv 112 ≤ (b.length : Int) + 112 - 1 := by rw [Int.tdiv_eq_ediv_of_nonneg (by omega)]; omega
  have hp : 0 ≤ ((b.length : Int) + 112 - 1).tdiv 112 := by rw [Int.tdiv_eq_ediv_of_nonneg (by omega)]; omega
  rw [← hm] at hq hp
  refine PCalls.of (N := 9) (res := [.tmp 2]) mixed Try.func35 rfl rfl rfl (by kernel_rfl) (by simp) [0, 2] ?_
  repeat' (first | exact cl1 | ((with_reducible show Exists _); refine exU8 ?_) | ((fail_if_success with_reducible first | show LeG _ _ | show Lp _ _ _ _ | show Exists _ | show callX _ _ _ _ _ | show (_ : Int) ≤ _ | show (_ : Int) < _ | show (_ : Nat) ≤ _ | show (_ : Nat) < _); (conv => whnf) <;> (first | exact cl2 | refine XAlt.l ?_ | refine Sq.pr ?_ | refine Br.dec (fun hc => ?_) (fun hc => ?_) | refine Br.tt ?_ | refine Br.ff ?_ | refine Br.not ?_ | refine Br.mk (fun hc => ?_) (fun hc => ?_) | refine Opt.nn ?_ | refine Opt.ss ?_ | refine AltA.l ?_ | exact PV.leL_nil | refine PV.leL_cons ?_ ?_ | refine And.intro ?_ ?_ | refine ix_map (fun x hx => ?_) | refine exU8 ?_ | refine nilc (fun hn => ?_) ?_ | exact cl3 | refine imp0 (fun hpos => ?_) | refine fits_i64 ?_ ?_ | exact rfl | (with_reducible first | show LeG _ _ | show Lp _ _ _ _ | show Exists _ | show callX _ _ _ _ _)))) <;> (try exact cl5)
  all_goals first
  | (refine LeG.of (congrArg eI ?_); rw [← sec_div, ← hm]; exact max_if _)
  | omega
end Go.Proofs.Ytijkiolobmkhhaa

namespace Go.Proofs.Ytijkiolobmkhhaa
open Go Go.Sg
set_option maxRecDepth 100000
set_option maxHeartbeats 8000000
theorem ix_b {l : List Bs} {n : Nat} {x : Bs} {K : PV → Prop} (hx : l[n]? = some x) (k : K (eB x)) : ∀ p, (l.map eB)[n]? = some p → K p := fun p hp => by
  rw [List.getElem?_map, hx] at hp
  injection hp with hp; subst hp; exact k
theorem used_calls (l : List Bs) (h : szL l ≤ 100000000) : PCalls Try.prog 36 [eS l] (eI (usedN l)) := by
  have hl := szL_len l
  refine PCalls.of (N := 17) (res := [.tmp 2]) mixed Try.func36 rfl rfl rfl (by kernel_rfl) (by simp) [0, 2, 4, 5, 6, 7, 8] ?_
  repeat' (first | exact cl1 | ((with_reducible show Exists _); refine exU8 ?_) | ((fail_if_success with_reducible first | show LeG _ _ | show Lp _ _ _ _ | show Exists _ | show callX _ _ _ _ _ | show (_ : Int) ≤ _ | show (_ : Int) < _ | show (_ : Nat) ≤ _ | show (_ : Nat) < _); (conv => whnf) <;> (first | exact cl2 | refine XAlt.l ?_ | refine Sq.pr ?_ | refine Br.dec (fun hc => ?_) (fun hc => ?_) | refine Br.tt ?_ | refine Br.ff ?_ | refine Br.not ?_ | refine Br.mk (fun hc => ?_) (fun hc => ?_) | refine Opt.nn ?_ | refine Opt.ss ?_ | refine AltA.l ?_ | exact PV.leL_nil | refine PV.leL_cons ?_ ?_ | refine And.intro ?_ ?_ | refine ix_map (fun x hx => ?_) | refine exU8 ?_ | refine nilc (fun hn => ?_) ?_ | exact cl3 | refine imp0 (fun hpos => ?_) | refine fits_i64 ?_ ?_ | exact rfl | (with_reducible first | show LeG _ _ | show Lp _ _ _ _ | show Exists _ | show callX _ _ _ _ _)))) <;> (try exact cl5)
  refine Wpc.loopB (α := {i : Nat // i ≤ l.length}) mixed [0, 2, 4, 5, 6, 7, 8] (fun i => [(2, .p (eI (usedN (l.take i.1)))), (7, .p (eI i.1))]) (fun i => l.length - i.1) ⟨0, by omega⟩ ?_ ?_
  · (first | refine Ent.ofA [] ?_ | refine Ent.ofC [] ?_) <;> (repeat' (first | exact trivial | refine HpLe.dd ?_ | refine HpLe.mk rfl (by simp) rfl (fun h => AObj.noConfusion h) ?_ ?_ | refine And.intro ?_ ?_ | exact cl9 | refine VLe.pe ?_ | refine VLe.agg ?_ | refine VLe.tup ?_ | refine VLe.fn ?_ ?_ | refine VLeL.cons ?_ ?_ | exact VLeL.nil | exact OLe.row _ _ | rfl | refine VLe.rsle rfl ?_ ?_ ?_ | refine OLe.rowe2 ?_ ?_ | refine OLe.mape ?_ ?_ | refine OLe.iter0 ?_ | refine OLe.itere ?_ ?_)) <;> try (first | (simp; done) | (congr 1; omega) | (congr 1; (first | (simp; done) | (simp; omega))))
  rintro ⟨i, hi⟩
  have hi : i ≤ l.length := hi
  cases hxi : l[i]? with
  | none =>
    have hge : l.length ≤ i := List.getElem?_eq_none_iff.1 hxi
    have hno : ¬ ((i : Int) < ((l.map eB).length : Int)) := by rw [List.length_map]; omega
    repeat' (first | exact cl1 | ((with_reducible show Exists _); refine exU8 ?_) | ((fail_if_success with_reducible first | show LeG _ _ | show Lp _ _ _ _ | show Exists _ | show callX _ _ _ _ _ | show (_ : Int) ≤ _ | show (_ : Int) < _ | show (_ : Nat) ≤ _ | show (_ : Nat) < _); (conv => whnf) <;> (first | exact cl2 | refine Br.dec (fun hc => absurd hc hno) (fun hc => ?_) | refine XAlt.l ?_ | refine Sq.pr ?_ | refine Br.dec (fun hc => ?_) (fun hc => ?_) | refine Br.tt ?_ | refine Br.ff ?_ | refine Br.not ?_ | refine Br.mk (fun hc => ?_) (fun hc => ?_) | refine Opt.nn ?_ | refine Opt.ss ?_ | refine AltA.l ?_ | exact PV.leL_nil | refine PV.leL_cons ?_ ?_ | refine And.intro ?_ ?_ | refine ix_map (fun x hx => ?_) | refine exU8 ?_ | refine nilc (fun hn => ?_) ?_ | exact cl3 | refine imp0 (fun hpos => ?_) | refine fits_i64 ?_ ?_ | exact rfl | (with_reducible first | show LeG _ _ | show Lp _ _ _ _ | show Exists _ | show callX _ _ _ _ _)))) <;> (try exact cl5)
    rw [List.take_of_length_le hge]
    exact LeG.refl _
  | some x =>
    have hlt : i < l.length := (List.getElem?_eq_some_iff.1 hxi).1
    have hyes : ((i : Int) < ((l.map eB).length : Int)) := by rw [List.length_map]; omega
    have hxm := szL_mem (List.mem_of_getElem? hxi)
    have q := sectors_calls x (by omega)
    have ht := usedN_take hxi
    have h1 := usedN_takeLe l i
    have h2 := usedN_le l
    have h3 := secN_le x.length
    repeat' (first | exact cl1 | ((with_reducible show Exists _); refine exU8 ?_) | ((with_reducible show callX _ _ _ _ _); (first | refine call_p (q) (by kernel_rfl) rfl ?_)) | ((fail_if_success with_reducible first | show LeG _ _ | show Lp _ _ _ _ | show Exists _ | show callX _ _ _ _ _ | show (_ : Int) ≤ _ | show (_ : Int) < _ | show (_ : Nat) ≤ _ | show (_ : Nat) < _); (conv => whnf) <;> (first | exact cl2 | refine Br.dec (fun hc => ?_) (fun hc => absurd hyes hc) | refine ix_b hxi ?_ | refine XAlt.l ?_ | refine Sq.pr ?_ | refine Br.dec (fun hc => ?_) (fun hc => ?_) | refine Br.tt ?_ | refine Br.ff ?_ | refine Br.not ?_ | refine Br.mk (fun hc => ?_) (fun hc => ?_) | refine Opt.nn ?_ | refine Opt.ss ?_ | refine AltA.l ?_ | exact PV.leL_nil | refine PV.leL_cons ?_ ?_ | refine And.intro ?_ ?_ | refine ix_map (fun x hx => ?_) | refine exU8 ?_ | refine nilc (fun hn => ?_) ?_ | exact cl3 | refine imp0 (fun hpos => ?_) | refine fits_i64 ?_ ?_ | exact rfl | (with_reducible first | show LeG _ _ | show Lp _ _ _ _ | show Exists _ | show callX _ _ _ _ _)))) <;> (try exact cl5)
    refine ⟨⟨i + 1, hlt⟩, by show l.length - (i + 1) < l.length - i; omega, ?_⟩
    (first | refine Ent.ofA [] ?_ | refine Ent.ofC [] ?_) <;> (repeat' (first | exact trivial | refine HpLe.dd ?_ | refine HpLe.mk rfl (by simp) rfl (fun h => AObj.noConfusion h) ?_ ?_ | refine And.intro ?_ ?_ | exact cl9 | refine VLe.pe ?_ | refine VLe.agg ?_ | refine VLe.tup ?_ | refine VLe.fn ?_ ?_ | refine VLeL.cons ?_ ?_ | exact VLeL.nil | exact OLe.row _ _ | rfl | refine VLe.rsle rfl ?_ ?_ ?_ | refine OLe.rowe2 ?_ ?_ | refine OLe.mape ?_ ?_ | refine OLe.iter0 ?_ | refine OLe.itere ?_ ?_)) <;> try (first | (simp; done) | (congr 1; omega) | (congr 1; (first | (simp; done) | (simp; omega))))
    all_goals (dsimp only; rw [ht]; rfl)
theorem Used_calls (l : List Bs) (h : szL l ≤ 100000000) : PCalls Try.prog 40 [eS l] (eI (usedN l)) := by
  have hl := szL_len l
  refine PCalls.of (N := 20) (res := [.tmp 2]) mixed Try.func40 rfl rfl rfl (by kernel_rfl) (by simp) [0, 2, 3, 4, 8] ?_
  repeat' (first | exact cl1 | ((with_reducible show Exists _); refine exU8 ?_) | ((fail_if_success with_reducible first | show LeG _ _ | show Lp _ _ _ _ | show Exists _ | show callX _ _ _ _ _ | show (_ : Int) ≤ _ | show (_ : Int) < _ | show (_ : Nat) ≤ _ | show (_ : Nat) < _); (conv => whnf) <;> (first | exact cl2 | refine XAlt.l ?_ | refine Sq.pr ?_ | refine Br.dec (fun hc => ?_) (fun hc => ?_) | refine Br.tt ?_ | refine Br.ff ?_ | refine Br.not ?_ | refine Br.mk (fun hc => ?_) (fun hc => ?_) | refine Opt.nn ?_ | refine Opt.ss ?_ | refine AltA.l ?_ | exact PV.leL_nil | refine PV.leL_cons ?_ ?_ | refine And.intro ?_ ?_ | refine ix_map (fun x hx => ?_) | refine exU8 ?_ | refine nilc (fun hn => ?_) ?_ | exact cl3 | refine imp0 (fun hpos => ?_) | refine fits_i64 ?_ ?_ | exact rfl | (with_reducible first | show LeG _ _ | show Lp _ _ _ _ | show Exists _ | show callX _ _ _ _ _)))) <;> (try exact cl5)
  refine Wpc.loopB (α := {i : Nat // i ≤ l.length}) mixed [0, 2, 3, 4, 8] (fun i => [(3, .p (eI (usedN (l.take i.1)))), (4, .p (eI i.1))]) (fun i => l.length - i.1) ⟨0, by omega⟩ ?_ ?_
  · (first | refine Ent.ofA [] ?_ | refine Ent.ofC [] ?_) <;> (repeat' (first | exact trivial | refine HpLe.dd ?_ | refine HpLe.mk rfl (by simp) rfl (fun h => AObj.noConfusion h) ?_ ?_ | refine And.intro ?_ ?_ | exact cl9 | refine VLe.pe ?_ | refine VLe.agg ?_ | refine VLe.tup ?_ | refine VLe.fn ?_ ?_ | refine VLeL.cons ?_ ?_ | exact VLeL.nil | exact OLe.row _ _ | rfl | refine VLe.rsle rfl ?_ ?_ ?_ | refine OLe.rowe2 ?_ ?_ | refine OLe.mape ?_ ?_ | refine OLe.iter0 ?_ | refine OLe.itere ?_ ?_)) <;> try (first | (simp; done) | (congr 1; omega) | (congr 1; (first | (simp; done) | (simp; omega))))
  rintro ⟨i, hi⟩
  have hi : i ≤ l.length := hi
  cases hxi : l[i]? with
  | none =>
    have hge : l.length ≤ i := List.getElem?_eq_none_iff.1 hxi
    have hno : ¬ ((i : Int) < ((l.map eB).length : Int)) := by rw [List.length_map]; omega
    repeat' (first | exact cl1 | ((with_reducible show Exists _); refine exU8 ?_) | ((fail_if_success with_reducible first | show LeG _ _ | show Lp _ _ _ _ | show Exists _ | show callX _ _ _ _ _ | show (_ : Int) ≤ _ | show (_ : Int) < _ | show (_ : Nat) ≤ _ | show (_ : Nat) < _); (conv => whnf) <;> (first | exact cl2 | refine Br.dec (fun hc => absurd hc hno) (fun hc => ?_) | refine XAlt.l ?_ | refine Sq.pr ?_ | refine Br.dec (fun hc => ?_) (fun hc => ?_) | refine Br.tt ?_ | refine Br.ff ?_ | refine Br.not ?_ | refine Br.mk (fun hc => ?_) (fun hc => ?_) | refine Opt.nn ?_ | refine Opt.ss ?_ | refine AltA.l ?_ | exact PV.leL_nil | refine PV.leL_cons ?_ ?_ | refine And.intro ?_ ?_ | refine ix_map (fun x hx => ?_) | refine exU8 ?_ | refine nilc (fun hn => ?_) ?_ | exact cl3 | refine imp0 (fun hpos => ?_) | refine fits_i64 ?_ ?_ | exact rfl | (with_reducible first | show LeG _ _ | show Lp _ _ _ _ | show Exists _ | show callX _ _ _ _ _)))) <;> (try exact cl5)
    rw [List.take_of_length_le hge]
    exact LeG.refl _
  | some x =>
    have hlt : i < l.length := (List.getElem?_eq_some_iff.1 hxi).1
    have hyes : ((i : Int) < ((l.map eB).length : Int)) := by rw [List.length_map]; omega
    have hxm := szL_mem (List.mem_of_getElem? hxi)
    have q := Sectors_calls x.length (by omega)
    have hm : (x.map (PV.int .u8)).length = x.length := List.length_map _
    rw [← hm] at q
    have ht := usedN_take hxi
    have h1 := usedN_takeLe l i
    have h2 := usedN_le l
    have h3 := secN_le x.length
    have h4 : secN (x.map (PV.int .u8)).length = secN x.length := by rw [List.length_map]
    repeat' (first | exact cl1 | ((with_reducible show Exists _); refine exU8 ?_) | ((with_reducible show callX _ _ _ _ _); (first | refine call_p (q) (by kernel_rfl) rfl ?_)) | ((fail_if_success with_reducible first | show LeG _ _ | show Lp _ _ _ _ | show Exists _ | show callX _ _ _ _ _ | show (_ : Int) ≤ _ | show (_ : Int) < _ | show (_ : Nat) ≤ _ | show (_ : Nat) < _); (conv => whnf) <;> (first | exact cl2 | refine Br.dec (fun hc => ?_) (fun hc => absurd hyes hc) | refine ix_b hxi ?_ | refine XAlt.l ?_ | refine Sq.pr ?_ | refine Br.dec (fun hc => ?_) (fun hc => ?_) | refine Br.tt ?_ | refine Br.ff ?_ | refine Br.not ?_ | refine Br.mk (fun hc => ?_) (fun hc => ?_) | refine Opt.nn ?_ | refine Opt.ss ?_ | refine AltA.l ?_ | exact PV.leL_nil | refine PV.leL_cons ?_ ?_ | refine And.intro ?_ ?_ | refine ix_map (fun x hx => ?_) | refine exU8 ?_ | refine nilc (fun hn => ?_) ?_ | exact cl3 | refine imp0 (fun hpos => ?_) | refine fits_i64 ?_ ?_ | exact rfl | (with_reducible first | show LeG _ _ | show Lp _ _ _ _ | show Exists _ | show callX _ _ _ _ _)))) <;> (try exact cl5)
    refine ⟨⟨i + 1, hlt⟩, by show l.length - (i + 1) < l.length - i; omega, ?_⟩
    (first | refine Ent.ofA [] ?_ | refine Ent.ofC [] ?_) <;> (repeat' (first | exact trivial | refine HpLe.dd ?_ | refine HpLe.mk rfl (by simp) rfl (fun h => AObj.noConfusion h) ?_ ?_ | refine And.intro ?_ ?_ | exact cl9 | refine VLe.pe ?_ | refine VLe.agg ?_ | refine VLe.tup ?_ | refine VLe.fn ?_ ?_ | refine VLeL.cons ?_ ?_ | exact VLeL.nil | exact OLe.row _ _ | rfl | refine VLe.rsle rfl ?_ ?_ ?_ | refine OLe.rowe2 ?_ ?_ | refine OLe.mape ?_ ?_ | refine OLe.iter0 ?_ | refine OLe.itere ?_ ?_)) <;> try (first | (simp; done) | (congr 1; omega) | (congr 1; (first | (simp; done) | (simp; omega))))
    all_goals (dsimp only; rw [ht, ← h4]; rfl)
end Go.Proofs.Ytijkiolobmkhhaa

namespace Go.Proofs.Ytijkiolobmkhhaa
open Go Go.Sg
set_option maxRecDepth 100000
set_option maxHeartbeats 8000000
def B8 (b : Bs) : Prop := ∀ c ∈ b, 0 ≤ c ∧ c ≤ 255
def bytes (s : ByteArray) : List Int := s.data.toList.map fun u => (u.toNat : Int)
theorem bytes_str {l : List Int} (h : B8 l) : bytes (strOfNums l) = l := by
  unfold strOfNums bytes
  simp
  conv => rhs; rw [← List.map_id l]
  apply List.map_congr_left
  intro c hc
  obtain ⟨h0, h1⟩ := h c hc
  simp
  omega
theorem strOf_inj {a b : List Int} (ha : B8 a) (hb : B8 b) : strOfNums a = strOfNums b ↔ a = b :=
  ⟨fun h => by rw [← bytes_str ha, ← bytes_str hb, h], fun h => by rw [h]⟩
theorem str_dec {a b : List Int} (ha : B8 a) (hb : B8 b) : decide (strOfNums a = strOfNums b) = decide (a = b) := by
  rw [Bool.eq_iff_iff, decide_eq_true_iff, decide_eq_true_iff, strOf_inj ha hb]
/-- What can be read, and is not too much. -/
structure okJ (j : Jn) : Prop where
  z : szL j.recs ≤ 50000000
  b : ∀ b ∈ j.recs, B8 b
/-- Journals that Check accepts. -/
def chkJ (j : Jn) : Bool := if j.many < 1 then false else if 4096 < j.many then false else if j.sync < 0 then false else if (j.recs.length : Int) < j.sync then false else if j.many < usedN j.recs then false else true
theorem chkJ_iff {j : Jn} : chkJ j = true ↔ 1 ≤ j.many ∧ j.many ≤ 4096 ∧ 0 ≤ j.sync ∧ j.sync ≤ j.recs.length ∧ (usedN j.recs : Int) ≤ j.many := by
  unfold chkJ
  repeat' split
  all_goals simp
  all_goals omega
theorem check5_calls (j : Jn) (h : szL j.recs ≤ 50000000) : PCalls Try.prog 17 [eJ j] (eE (if chkJ j then 0 else 1)) := by
  have q := used_calls j.recs (by omega)
  have hm : (j.recs.map eB).length = j.recs.length := List.length_map _
  cases hc : chkJ j with
  | false =>
    have hn : ¬ (1 ≤ j.many ∧ j.many ≤ 4096 ∧ 0 ≤ j.sync ∧ j.sync ≤ j.recs.length ∧ (usedN j.recs : Int) ≤ j.many) := fun e => by rw [chkJ_iff.2 e] at hc; cases hc
    rw [if_neg Bool.false_ne_true]
    refine PCalls.of (N := 32) (res := [.tmp 2]) mixed Try.func17 rfl rfl rfl (by kernel_rfl) (by simp) [0, 1, 2, 31] ?_
    repeat' (first | exact cl1 | ((with_reducible show Exists _); refine exU8 ?_) | ((with_reducible show callX _ _ _ _ _); (first | refine call_p (q) (by kernel_rfl) rfl ?_)) | ((fail_if_success with_reducible first | show LeG _ _ | show Lp _ _ _ _ | show Exists _ | show callX _ _ _ _ _ | show (_ : Int) ≤ _ | show (_ : Int) < _ | show (_ : Nat) ≤ _ | show (_ : Nat) < _); (conv => whnf) <;> (first | exact cl2 | refine XAlt.l ?_ | refine Sq.pr ?_ | refine Br.dec (fun hc => ?_) (fun hc => ?_) | refine Br.tt ?_ | refine Br.ff ?_ | refine Br.not ?_ | refine Br.mk (fun hc => ?_) (fun hc => ?_) | refine Opt.nn ?_ | refine Opt.ss ?_ | refine AltA.l ?_ | exact PV.leL_nil | refine PV.leL_cons ?_ ?_ | refine And.intro ?_ ?_ | refine ix_map (fun x hx => ?_) | refine exU8 ?_ | refine nilc (fun hn => ?_) ?_ | exact cl3 | refine imp0 (fun hpos => ?_) | refine fits_i64 ?_ ?_ | exact rfl | (with_reducible first | show LeG _ _ | show Lp _ _ _ _ | show Exists _ | show callX _ _ _ _ _)))) <;> (try exact cl5)
    all_goals (exfalso; omega)
  | true =>
    have hn := chkJ_iff.1 hc
    rw [if_pos rfl]
    refine PCalls.of (N := 32) (res := [.tmp 2]) mixed Try.func17 rfl rfl rfl (by kernel_rfl) (by simp) [0, 1, 2, 31] ?_
    repeat' (first | exact cl1 | ((with_reducible show Exists _); refine exU8 ?_) | ((with_reducible show callX _ _ _ _ _); (first | refine call_p (q) (by kernel_rfl) rfl ?_)) | ((fail_if_success with_reducible first | show LeG _ _ | show Lp _ _ _ _ | show Exists _ | show callX _ _ _ _ _ | show (_ : Int) ≤ _ | show (_ : Int) < _ | show (_ : Nat) ≤ _ | show (_ : Nat) < _); (conv => whnf) <;> (first | exact cl2 | refine XAlt.l ?_ | refine Sq.pr ?_ | refine Br.dec (fun hc => ?_) (fun hc => ?_) | refine Br.tt ?_ | refine Br.ff ?_ | refine Br.not ?_ | refine Br.mk (fun hc => ?_) (fun hc => ?_) | refine Opt.nn ?_ | refine Opt.ss ?_ | refine AltA.l ?_ | exact PV.leL_nil | refine PV.leL_cons ?_ ?_ | refine And.intro ?_ ?_ | refine ix_map (fun x hx => ?_) | refine exU8 ?_ | refine nilc (fun hn => ?_) ?_ | exact cl3 | refine imp0 (fun hpos => ?_) | refine fits_i64 ?_ ?_ | exact rfl | (with_reducible first | show LeG _ _ | show Lp _ _ _ _ | show Exists _ | show callX _ _ _ _ _)))) <;> (try exact cl5)
    all_goals (exfalso; omega)
theorem rcheck5_calls (j : Jn) (h : szL j.recs ≤ 50000000) : PCalls Try.prog 18 [eJ j] (eE (if chkJ j then 0 else 1)) := by
  have q := Used_calls j.recs (by omega)
  have hm : (j.recs.map eB).length = j.recs.length := List.length_map _
  cases hc : chkJ j with
  | false =>
    have hn : ¬ (1 ≤ j.many ∧ j.many ≤ 4096 ∧ 0 ≤ j.sync ∧ j.sync ≤ j.recs.length ∧ (usedN j.recs : Int) ≤ j.many) := fun e => by rw [chkJ_iff.2 e] at hc; cases hc
    rw [if_neg Bool.false_ne_true]
    refine PCalls.of (N := 32) (res := [.tmp 2]) mixed Try.func18 rfl rfl rfl (by kernel_rfl) (by simp) [0, 1, 2, 31] ?_
    repeat' (first | exact cl1 | ((with_reducible show Exists _); refine exU8 ?_) | ((with_reducible show callX _ _ _ _ _); (first | refine call_p (q) (by kernel_rfl) rfl ?_)) | ((fail_if_success with_reducible first | show LeG _ _ | show Lp _ _ _ _ | show Exists _ | show callX _ _ _ _ _ | show (_ : Int) ≤ _ | show (_ : Int) < _ | show (_ : Nat) ≤ _ | show (_ : Nat) < _); (conv => whnf) <;> (first | exact cl2 | refine XAlt.l ?_ | refine Sq.pr ?_ | refine Br.dec (fun hc => ?_) (fun hc => ?_) | refine Br.tt ?_ | refine Br.ff ?_ | refine Br.not ?_ | refine Br.mk (fun hc => ?_) (fun hc => ?_) | refine Opt.nn ?_ | refine Opt.ss ?_ | refine AltA.l ?_ | exact PV.leL_nil | refine PV.leL_cons ?_ ?_ | refine And.intro ?_ ?_ | refine ix_map (fun x hx => ?_) | refine exU8 ?_ | refine nilc (fun hn => ?_) ?_ | exact cl3 | refine imp0 (fun hpos => ?_) | refine fits_i64 ?_ ?_ | exact rfl | (with_reducible first | show LeG _ _ | show Lp _ _ _ _ | show Exists _ | show callX _ _ _ _ _)))) <;> (try exact cl5)
    all_goals (exfalso; omega)
  | true =>
    have hn := chkJ_iff.1 hc
    rw [if_pos rfl]
    refine PCalls.of (N := 32) (res := [.tmp 2]) mixed Try.func18 rfl rfl rfl (by kernel_rfl) (by simp) [0, 1, 2, 31] ?_
    repeat' (first | exact cl1 | ((with_reducible show Exists _); refine exU8 ?_) | ((with_reducible show callX _ _ _ _ _); (first | refine call_p (q) (by kernel_rfl) rfl ?_)) | ((fail_if_success with_reducible first | show LeG _ _ | show Lp _ _ _ _ | show Exists _ | show callX _ _ _ _ _ | show (_ : Int) ≤ _ | show (_ : Int) < _ | show (_ : Nat) ≤ _ | show (_ : Nat) < _); (conv => whnf) <;> (first | exact cl2 | refine XAlt.l ?_ | refine Sq.pr ?_ | refine Br.dec (fun hc => ?_) (fun hc => ?_) | refine Br.tt ?_ | refine Br.ff ?_ | refine Br.not ?_ | refine Br.mk (fun hc => ?_) (fun hc => ?_) | refine Opt.nn ?_ | refine Opt.ss ?_ | refine AltA.l ?_ | exact PV.leL_nil | refine PV.leL_cons ?_ ?_ | refine And.intro ?_ ?_ | refine ix_map (fun x hx => ?_) | refine exU8 ?_ | refine nilc (fun hn => ?_) ?_ | exact cl3 | refine imp0 (fun hpos => ?_) | refine fits_i64 ?_ ?_ | exact rfl | (with_reducible first | show LeG _ _ | show Lp _ _ _ _ | show Exists _ | show callX _ _ _ _ _)))) <;> (try exact cl5)
    all_goals (exfalso; omega)
def roomJ (j : Jn) : Int := if chkJ j then 112 * (j.many - usedN j.recs) else 0
theorem room_calls (j : Jn) (h : szL j.recs ≤ 50000000) : PCalls Try.prog 19 [eJ j] (eI (roomJ j)) := by
  have q := used_calls j.recs (by omega)
  have p := check5_calls j h
  unfold roomJ
  cases hc : chkJ j with
  | false =>
    rw [hc, if_neg Bool.false_ne_true] at p
    rw [if_neg Bool.false_ne_true]
    refine PCalls.of (N := 13) (res := [.tmp 2]) mixed Try.func19 rfl rfl rfl (by kernel_rfl) (by simp) [0, 1, 2, 5] ?_
    repeat' (first | exact cl1 | ((with_reducible show Exists _); refine exU8 ?_) | ((with_reducible show callX _ _ _ _ _); (first | refine call_p (p) (by kernel_rfl) rfl ?_ | refine call_p (q) (by kernel_rfl) rfl ?_)) | ((fail_if_success with_reducible first | show LeG _ _ | show Lp _ _ _ _ | show Exists _ | show callX _ _ _ _ _ | show (_ : Int) ≤ _ | show (_ : Int) < _ | show (_ : Nat) ≤ _ | show (_ : Nat) < _); (conv => whnf) <;> (first | exact cl2 | refine XAlt.l ?_ | refine Sq.pr ?_ | refine Br.dec (fun hc => ?_) (fun hc => ?_) | refine Br.tt ?_ | refine Br.ff ?_ | refine Br.not ?_ | refine Br.mk (fun hc => ?_) (fun hc => ?_) | refine Opt.nn ?_ | refine Opt.ss ?_ | refine AltA.l ?_ | exact PV.leL_nil | refine PV.leL_cons ?_ ?_ | refine And.intro ?_ ?_ | refine ix_map (fun x hx => ?_) | refine exU8 ?_ | refine nilc (fun hn => ?_) ?_ | exact cl3 | refine imp0 (fun hpos => ?_) | refine fits_i64 ?_ ?_ | exact rfl | (with_reducible first | show LeG _ _ | show Lp _ _ _ _ | show Exists _ | show callX _ _ _ _ _)))) <;> (try exact cl5)
  | true =>
    rw [hc, if_pos rfl] at p
    rw [if_pos rfl]
    obtain ⟨h1, h2, h3, h4, h5⟩ := chkJ_iff.1 hc
    refine PCalls.of (N := 13) (res := [.tmp 2]) mixed Try.func19 rfl rfl rfl (by kernel_rfl) (by simp) [0, 1, 2, 5] ?_
    repeat' (first | exact cl1 | ((with_reducible show Exists _); refine exU8 ?_) | ((with_reducible show callX _ _ _ _ _); (first | refine call_p (p) (by kernel_rfl) rfl ?_ | refine call_p (q) (by kernel_rfl) rfl ?_)) | ((fail_if_success with_reducible first | show LeG _ _ | show Lp _ _ _ _ | show Exists _ | show callX _ _ _ _ _ | show (_ : Int) ≤ _ | show (_ : Int) < _ | show (_ : Nat) ≤ _ | show (_ : Nat) < _); (conv => whnf) <;> (first | exact cl2 | refine XAlt.l ?_ | refine Sq.pr ?_ | refine Br.dec (fun hc => ?_) (fun hc => ?_) | refine Br.tt ?_ | refine Br.ff ?_ | refine Br.not ?_ | refine Br.mk (fun hc => ?_) (fun hc => ?_) | refine Opt.nn ?_ | refine Opt.ss ?_ | refine AltA.l ?_ | exact PV.leL_nil | refine PV.leL_cons ?_ ?_ | refine And.intro ?_ ?_ | refine ix_map (fun x hx => ?_) | refine exU8 ?_ | refine nilc (fun hn => ?_) ?_ | exact cl3 | refine imp0 (fun hpos => ?_) | refine fits_i64 ?_ ?_ | exact rfl | (with_reducible first | show LeG _ _ | show Lp _ _ _ _ | show Exists _ | show callX _ _ _ _ _)))) <;> (try exact cl5)
theorem rroom_calls (j : Jn) (h : szL j.recs ≤ 50000000) : PCalls Try.prog 20 [eJ j] (eI (roomJ j)) := by
  have q := Used_calls j.recs (by omega)
  have p := rcheck5_calls j h
  unfold roomJ
  cases hc : chkJ j with
  | false =>
    rw [hc, if_neg Bool.false_ne_true] at p
    rw [if_neg Bool.false_ne_true]
    refine PCalls.of (N := 13) (res := [.tmp 2]) mixed Try.func20 rfl rfl rfl (by kernel_rfl) (by simp) [0, 1, 2, 5] ?_
    repeat' (first | exact cl1 | ((with_reducible show Exists _); refine exU8 ?_) | ((with_reducible show callX _ _ _ _ _); (first | refine call_p (p) (by kernel_rfl) rfl ?_ | refine call_p (q) (by kernel_rfl) rfl ?_)) | ((fail_if_success with_reducible first | show LeG _ _ | show Lp _ _ _ _ | show Exists _ | show callX _ _ _ _ _ | show (_ : Int) ≤ _ | show (_ : Int) < _ | show (_ : Nat) ≤ _ | show (_ : Nat) < _); (conv => whnf) <;> (first | exact cl2 | refine XAlt.l ?_ | refine Sq.pr ?_ | refine Br.dec (fun hc => ?_) (fun hc => ?_) | refine Br.tt ?_ | refine Br.ff ?_ | refine Br.not ?_ | refine Br.mk (fun hc => ?_) (fun hc => ?_) | refine Opt.nn ?_ | refine Opt.ss ?_ | refine AltA.l ?_ | exact PV.leL_nil | refine PV.leL_cons ?_ ?_ | refine And.intro ?_ ?_ | refine ix_map (fun x hx => ?_) | refine exU8 ?_ | refine nilc (fun hn => ?_) ?_ | exact cl3 | refine imp0 (fun hpos => ?_) | refine fits_i64 ?_ ?_ | exact rfl | (with_reducible first | show LeG _ _ | show Lp _ _ _ _ | show Exists _ | show callX _ _ _ _ _)))) <;> (try exact cl5)
  | true =>
    rw [hc, if_pos rfl] at p
    rw [if_pos rfl]
    obtain ⟨h1, h2, h3, h4, h5⟩ := chkJ_iff.1 hc
    refine PCalls.of (N := 13) (res := [.tmp 2]) mixed Try.func20 rfl rfl rfl (by kernel_rfl) (by simp) [0, 1, 2, 5] ?_
    repeat' (first | exact cl1 | ((with_reducible show Exists _); refine exU8 ?_) | ((with_reducible show callX _ _ _ _ _); (first | refine call_p (p) (by kernel_rfl) rfl ?_ | refine call_p (q) (by kernel_rfl) rfl ?_)) | ((fail_if_success with_reducible first | show LeG _ _ | show Lp _ _ _ _ | show Exists _ | show callX _ _ _ _ _ | show (_ : Int) ≤ _ | show (_ : Int) < _ | show (_ : Nat) ≤ _ | show (_ : Nat) < _); (conv => whnf) <;> (first | exact cl2 | refine XAlt.l ?_ | refine Sq.pr ?_ | refine Br.dec (fun hc => ?_) (fun hc => ?_) | refine Br.tt ?_ | refine Br.ff ?_ | refine Br.not ?_ | refine Br.mk (fun hc => ?_) (fun hc => ?_) | refine Opt.nn ?_ | refine Opt.ss ?_ | refine AltA.l ?_ | exact PV.leL_nil | refine PV.leL_cons ?_ ?_ | refine And.intro ?_ ?_ | refine ix_map (fun x hx => ?_) | refine exU8 ?_ | refine nilc (fun hn => ?_) ?_ | exact cl3 | refine imp0 (fun hpos => ?_) | refine fits_i64 ?_ ?_ | exact rfl | (with_reducible first | show LeG _ _ | show Lp _ _ _ _ | show Exists _ | show callX _ _ _ _ _)))) <;> (try exact cl5)
/-- Records that are alike. -/
theorem ne_at {l m : List Bs} {i : Nat} {x y : Bs} (hx : l[i]? = some x) (hy : m[i]? = some y) (h : ¬ x = y) : ¬ l = m := fun e => by
  subst e; rw [hx] at hy; injection hy with hy; exact h hy
theorem eq_take {l m : List Bs} {i : Nat} {x y : Bs} (hx : l[i]? = some x) (hy : m[i]? = some y) (h : x = y) (ht : l.take i = m.take i) : l.take (i + 1) = m.take (i + 1) := by
  rw [List.take_add_one, List.take_add_one, hx, hy, h, ht]
theorem sameR_calls (l m : List Bs) (hl : l.length < 100000000) (hb : ∀ b ∈ l, B8 b) (hb2 : ∀ b ∈ m, B8 b) : PCalls Try.prog 24 [eS l, eS m] (.bool (decide (l = m))) := by
  by_cases hn : l.length = m.length
  · have hn' : ((l.map eB).length : Int) = ((m.map eB).length : Int) := by rw [List.length_map, List.length_map, hn]
    refine PCalls.of (N := 28) (res := [.tmp 4]) mixed Try.func24 rfl rfl rfl (by kernel_rfl) (by simp) [0, 1, 4, 5, 10, 14, 27] ?_
    repeat' (first | exact cl1 | ((with_reducible show Exists _); refine exU8 ?_) | ((fail_if_success with_reducible first | show LeG _ _ | show Lp _ _ _ _ | show Exists _ | show callX _ _ _ _ _ | show (_ : Int) ≤ _ | show (_ : Int) < _ | show (_ : Nat) ≤ _ | show (_ : Nat) < _); (conv => whnf) <;> (first | exact cl2 | refine Br.dec (fun hc => absurd hn' hc) (fun hc => ?_) | refine XAlt.l ?_ | refine Sq.pr ?_ | refine Br.dec (fun hc => ?_) (fun hc => ?_) | refine Br.tt ?_ | refine Br.ff ?_ | refine Br.not ?_ | refine Br.mk (fun hc => ?_) (fun hc => ?_) | refine Opt.nn ?_ | refine Opt.ss ?_ | refine AltA.l ?_ | exact PV.leL_nil | refine PV.leL_cons ?_ ?_ | refine And.intro ?_ ?_ | refine ix_map (fun x hx => ?_) | refine exU8 ?_ | refine nilc (fun hn => ?_) ?_ | exact cl3 | refine imp0 (fun hpos => ?_) | refine fits_i64 ?_ ?_ | exact rfl | (with_reducible first | show LeG _ _ | show Lp _ _ _ _ | show Exists _ | show callX _ _ _ _ _)))) <;> (try exact cl5)
    refine Wpc.loopB (α := {i : Nat // i ≤ l.length ∧ l.take i = m.take i}) mixed [0, 1, 4, 5, 10, 14, 27] (fun i => [(5, .p (eI i.1))]) (fun i => l.length - i.1) ⟨0, by omega, rfl⟩ ?_ ?_
    · (first | refine Ent.ofA [] ?_ | refine Ent.ofC [] ?_) <;> (repeat' (first | exact trivial | refine HpLe.dd ?_ | refine HpLe.mk rfl (by simp) rfl (fun h => AObj.noConfusion h) ?_ ?_ | refine And.intro ?_ ?_ | exact cl9 | refine VLe.pe ?_ | refine VLe.agg ?_ | refine VLe.tup ?_ | refine VLe.fn ?_ ?_ | refine VLeL.cons ?_ ?_ | exact VLeL.nil | exact OLe.row _ _ | rfl | refine VLe.rsle rfl ?_ ?_ ?_ | refine OLe.rowe2 ?_ ?_ | refine OLe.mape ?_ ?_ | refine OLe.iter0 ?_ | refine OLe.itere ?_ ?_)) <;> try (first | (simp; done) | (congr 1; omega) | (congr 1; (first | (simp; done) | (simp; omega))))
    rintro ⟨i, hi, he⟩
    have hi : i ≤ l.length := hi
    cases hxi : l[i]? with
    | none =>
      have hge : l.length ≤ i := List.getElem?_eq_none_iff.1 hxi
      have hno : ¬ ((i : Int) < ((l.map eB).length : Int)) := by rw [List.length_map]; omega
      have he : l.take i = m.take i := he
      have e : l = m := by rw [List.take_of_length_le hge, List.take_of_length_le (by omega)] at he; exact he
      repeat' (first | exact cl1 | ((with_reducible show Exists _); refine exU8 ?_) | ((fail_if_success with_reducible first | show LeG _ _ | show Lp _ _ _ _ | show Exists _ | show callX _ _ _ _ _ | show (_ : Int) ≤ _ | show (_ : Int) < _ | show (_ : Nat) ≤ _ | show (_ : Nat) < _); (conv => whnf) <;> (first | exact cl2 | refine Br.dec (fun hc => absurd hc hno) (fun hc => ?_) | refine XAlt.l ?_ | refine Sq.pr ?_ | refine Br.dec (fun hc => ?_) (fun hc => ?_) | refine Br.tt ?_ | refine Br.ff ?_ | refine Br.not ?_ | refine Br.mk (fun hc => ?_) (fun hc => ?_) | refine Opt.nn ?_ | refine Opt.ss ?_ | refine AltA.l ?_ | exact PV.leL_nil | refine PV.leL_cons ?_ ?_ | refine And.intro ?_ ?_ | refine ix_map (fun x hx => ?_) | refine exU8 ?_ | refine nilc (fun hn => ?_) ?_ | exact cl3 | refine imp0 (fun hpos => ?_) | refine fits_i64 ?_ ?_ | exact rfl | (with_reducible first | show LeG _ _ | show Lp _ _ _ _ | show Exists _ | show callX _ _ _ _ _)))) <;> (try exact cl5)
      exact LeG.bool (decide_eq_true e).symm
    | some x =>
      have hlt : i < l.length := (List.getElem?_eq_some_iff.1 hxi).1
      obtain ⟨y, hyi⟩ : ∃ y, m[i]? = some y := ⟨_, List.getElem?_eq_getElem (by omega)⟩
      have hyes : ((i : Int) < ((l.map eB).length : Int)) := by rw [List.length_map]; omega
      have hxb := hb x (List.mem_of_getElem? hxi)
      have hyb := hb2 y (List.mem_of_getElem? hyi)
      repeat' (first | exact cl1 | ((with_reducible show Exists _); refine exU8 ?_) | ((fail_if_success with_reducible first | show LeG _ _ | show Lp _ _ _ _ | show Exists _ | show callX _ _ _ _ _ | show (_ : Int) ≤ _ | show (_ : Int) < _ | show (_ : Nat) ≤ _ | show (_ : Nat) < _); (conv => whnf) <;> (first | exact cl2 | refine Br.dec (fun hc => ?_) (fun hc => absurd hyes hc) | refine ix_b hxi ?_ | refine ix_b hyi ?_ | refine XAlt.l ?_ | refine Sq.pr ?_ | refine Br.dec (fun hc => ?_) (fun hc => ?_) | refine Br.tt ?_ | refine Br.ff ?_ | refine Br.not ?_ | refine Br.mk (fun hc => ?_) (fun hc => ?_) | refine Opt.nn ?_ | refine Opt.ss ?_ | refine AltA.l ?_ | exact PV.leL_nil | refine PV.leL_cons ?_ ?_ | refine And.intro ?_ ?_ | refine ix_map (fun x hx => ?_) | refine exU8 ?_ | refine nilc (fun hn => ?_) ?_ | exact cl3 | refine imp0 (fun hpos => ?_) | refine fits_i64 ?_ ?_ | exact rfl | (with_reducible first | show LeG _ _ | show Lp _ _ _ _ | show Exists _ | show callX _ _ _ _ _)))) <;> (try exact cl5)
      · exact LeG.bool (decide_eq_false (ne_at hxi hyi fun e => hc (by rw [e]))).symm
      · refine ⟨⟨i + 1, hlt, eq_take hxi hyi ((strOf_inj hxb hyb).1 (Classical.byContradiction hc)) he⟩, by show l.length - (i + 1) < l.length - i; omega, ?_⟩
        (first | refine Ent.ofA [] ?_ | refine Ent.ofC [] ?_) <;> (repeat' (first | exact trivial | refine HpLe.dd ?_ | refine HpLe.mk rfl (by simp) rfl (fun h => AObj.noConfusion h) ?_ ?_ | refine And.intro ?_ ?_ | exact cl9 | refine VLe.pe ?_ | refine VLe.agg ?_ | refine VLe.tup ?_ | refine VLe.fn ?_ ?_ | refine VLeL.cons ?_ ?_ | exact VLeL.nil | exact OLe.row _ _ | rfl | refine VLe.rsle rfl ?_ ?_ ?_ | refine OLe.rowe2 ?_ ?_ | refine OLe.mape ?_ ?_ | refine OLe.iter0 ?_ | refine OLe.itere ?_ ?_)) <;> try (first | (simp; done) | (congr 1; omega) | (congr 1; (first | (simp; done) | (simp; omega))))
  · have hn' : ¬ ((l.map eB).length : Int) = ((m.map eB).length : Int) := by rw [List.length_map, List.length_map]; omega
    rw [decide_eq_false (fun e => hn (by rw [e]))]
    refine PCalls.of (N := 28) (res := [.tmp 4]) mixed Try.func24 rfl rfl rfl (by kernel_rfl) (by simp) [0, 1, 4, 5, 10, 14, 27] ?_
    repeat' (first | exact cl1 | ((with_reducible show Exists _); refine exU8 ?_) | ((fail_if_success with_reducible first | show LeG _ _ | show Lp _ _ _ _ | show Exists _ | show callX _ _ _ _ _ | show (_ : Int) ≤ _ | show (_ : Int) < _ | show (_ : Nat) ≤ _ | show (_ : Nat) < _); (conv => whnf) <;> (first | exact cl2 | refine Br.dec (fun hc => ?_) (fun hc => absurd hn' hc) | refine XAlt.l ?_ | refine Sq.pr ?_ | refine Br.dec (fun hc => ?_) (fun hc => ?_) | refine Br.tt ?_ | refine Br.ff ?_ | refine Br.not ?_ | refine Br.mk (fun hc => ?_) (fun hc => ?_) | refine Opt.nn ?_ | refine Opt.ss ?_ | refine AltA.l ?_ | exact PV.leL_nil | refine PV.leL_cons ?_ ?_ | refine And.intro ?_ ?_ | refine ix_map (fun x hx => ?_) | refine exU8 ?_ | refine nilc (fun hn => ?_) ?_ | exact cl3 | refine imp0 (fun hpos => ?_) | refine fits_i64 ?_ ?_ | exact rfl | (with_reducible first | show LeG _ _ | show Lp _ _ _ _ | show Exists _ | show callX _ _ _ _ _)))) <;> (try exact cl5)
end Go.Proofs.Ytijkiolobmkhhaa

namespace Go.Proofs.Ytijkiolobmkhhaa
open Go Go.Sg
set_option maxRecDepth 100000
set_option maxHeartbeats 8000000
theorem clipS_calls (l : List Bs) : PCalls Try.prog 37 [eS l] (.sl 1 true (l.map eB)) := by
  refine PCalls.of (N := 9) (res := [.tmp 2]) mixed Try.func37 rfl rfl rfl (by kernel_rfl) (by simp) [0, 2] ?_
  repeat' (first | exact cl1 | ((with_reducible show Exists _); refine exU8 ?_) | ((fail_if_success with_reducible first | show LeG _ _ | show Lp _ _ _ _ | show Exists _ | show callX _ _ _ _ _ | show (_ : Int) ≤ _ | show (_ : Int) < _ | show (_ : Nat) ≤ _ | show (_ : Nat) < _); (conv => whnf) <;> (first | exact cl2 | refine XAlt.l ?_ | refine Sq.pr ?_ | refine Br.dec (fun hc => ?_) (fun hc => ?_) | refine Br.tt ?_ | refine Br.ff ?_ | refine Br.not ?_ | refine Br.mk (fun hc => ?_) (fun hc => ?_) | refine Opt.nn ?_ | refine Opt.ss ?_ | refine AltA.l ?_ | exact PV.leL_nil | refine PV.leL_cons ?_ ?_ | refine And.intro ?_ ?_ | refine ix_map (fun x hx => ?_) | refine exU8 ?_ | refine nilc (fun hn => ?_) ?_ | exact cl3 | refine imp0 (fun hpos => ?_) | refine fits_i64 ?_ ?_ | exact rfl | (with_reducible first | show LeG _ _ | show Lp _ _ _ _ | show Exists _ | show callX _ _ _ _ _)))) <;> (try exact cl5)
  ((all_goals (try simp only [*, ↓reduceIte, Bool.false_eq_true, Bool.not_true, Bool.not_false, Bool.and_true, Bool.true_and, Bool.and_false, Bool.false_and, List.nil_append, List.drop_zero, Nat.zero_add, List.take_length, Int.toNat_natCast, Int.toNat_zero, List.append_nil]))); ((all_goals (try refine LeG.mk ?_)); (repeat' (first | exact PV.le_refl _ | exact PV.le_nil _ _ _ | exact PV.le_clip _ _ _ | exact PV.le_nilF _ _ _ | refine PV.le_agg ?_ | refine PV.le_tup ?_ | exact PV.leL_nil | refine PV.leL_cons ?_ ?_ | refine PV.le_of ?_ | rfl)))
def appJ (j : Jn) (b : Bs) : Jn × Int := if chkJ j then (if j.many - usedN j.recs < secN b.length then (j0, 2) else ({ j with recs := j.recs ++ [b] }, 0)) else (j0, 1)
def eJR (x : Jn × Int) : PV := .tup [eJ x.1, eE x.2]
theorem append_calls (j : Jn) (b : Bs) (h : szL j.recs ≤ 50000000) (hb : b.length < 1000000) : PCalls Try.prog 15 [eJ j, eB b] (eJR (appJ j b)) := by
  have q := used_calls j.recs (by omega)
  have p := check5_calls j h
  have s := sectors_calls b (by omega)
  have c1 := clipS_calls j.recs
  have c2 := cloneB_calls b (by omega)
  have hl := szL_len j.recs
  unfold appJ
  cases hc : chkJ j with
  | false =>
    rw [hc, if_neg Bool.false_ne_true] at p
    rw [if_neg Bool.false_ne_true]
    refine PCalls.of (N := 32) (res := [.cell 4 29, .tmp 5]) mixed Try.func15 rfl rfl rfl (by kernel_rfl) (by simp) [0, 1, 2, 4, 5, 6, 10, 21] ?_
    repeat' (first | exact cl1 | ((with_reducible show Exists _); refine exU8 ?_) | ((with_reducible show callX _ _ _ _ _); (first | refine call_p (p) (by kernel_rfl) rfl ?_ | refine call_p (q) (by kernel_rfl) rfl ?_ | refine call_p (s) (by kernel_rfl) rfl ?_ | refine call_p (c1) (by kernel_rfl) rfl ?_ | refine call_p (c2) (by kernel_rfl) rfl ?_)) | ((fail_if_success with_reducible first | show LeG _ _ | show Lp _ _ _ _ | show Exists _ | show callX _ _ _ _ _ | show (_ : Int) ≤ _ | show (_ : Int) < _ | show (_ : Nat) ≤ _ | show (_ : Nat) < _); (conv => whnf) <;> (first | exact cl2 | refine XAlt.l ?_ | refine Sq.pr ?_ | refine Br.dec (fun hc => ?_) (fun hc => ?_) | refine Br.tt ?_ | refine Br.ff ?_ | refine Br.not ?_ | refine Br.mk (fun hc => ?_) (fun hc => ?_) | refine Opt.nn ?_ | refine Opt.ss ?_ | refine AltA.l ?_ | exact PV.leL_nil | refine PV.leL_cons ?_ ?_ | refine And.intro ?_ ?_ | refine ix_map (fun x hx => ?_) | refine exU8 ?_ | refine nilc (fun hn => ?_) ?_ | exact cl3 | refine imp0 (fun hpos => ?_) | refine fits_i64 ?_ ?_ | exact rfl | (with_reducible first | show LeG _ _ | show Lp _ _ _ _ | show Exists _ | show callX _ _ _ _ _)))) <;> (try exact cl5)
    ((all_goals (try simp only [*, ↓reduceIte, Bool.false_eq_true, Bool.not_true, Bool.not_false, Bool.and_true, Bool.true_and, Bool.and_false, Bool.false_and, List.nil_append, List.drop_zero, Nat.zero_add, List.take_length, Int.toNat_natCast, Int.toNat_zero, List.append_nil]))); ((all_goals (try refine LeG.mk ?_)); (repeat' (first | exact PV.le_refl _ | exact PV.le_nil _ _ _ | exact PV.le_clip _ _ _ | exact PV.le_nilF _ _ _ | refine PV.le_agg ?_ | refine PV.le_tup ?_ | exact PV.leL_nil | refine PV.leL_cons ?_ ?_ | refine PV.le_of ?_ | rfl)))
  | true =>
    rw [hc, if_pos rfl] at p
    rw [if_pos rfl]
    obtain ⟨h1, h2, h3, h4, h5⟩ := chkJ_iff.1 hc
    refine PCalls.of (N := 32) (res := [.cell 4 29, .tmp 5]) mixed Try.func15 rfl rfl rfl (by kernel_rfl) (by simp) [0, 1, 2, 4, 5, 6, 10, 21] ?_
    repeat' (first | exact cl1 | ((with_reducible show Exists _); refine exU8 ?_) | ((with_reducible show callX _ _ _ _ _); (first | refine call_p (p) (by kernel_rfl) rfl ?_ | refine call_p (q) (by kernel_rfl) rfl ?_ | refine call_p (s) (by kernel_rfl) rfl ?_ | refine call_p (c1) (by kernel_rfl) rfl ?_ | refine call_p (c2) (by kernel_rfl) rfl ?_)) | ((fail_if_success with_reducible first | show LeG _ _ | show Lp _ _ _ _ | show Exists _ | show callX _ _ _ _ _ | show (_ : Int) ≤ _ | show (_ : Int) < _ | show (_ : Nat) ≤ _ | show (_ : Nat) < _); (conv => whnf) <;> (first | exact cl2 | refine XAlt.l ?_ | refine Sq.pr ?_ | refine Br.dec (fun hc => ?_) (fun hc => ?_) | refine Br.tt ?_ | refine Br.ff ?_ | refine Br.not ?_ | refine Br.mk (fun hc => ?_) (fun hc => ?_) | refine Opt.nn ?_ | refine Opt.ss ?_ | refine AltA.l ?_ | exact PV.leL_nil | refine PV.leL_cons ?_ ?_ | refine And.intro ?_ ?_ | refine ix_map (fun x hx => ?_) | refine exU8 ?_ | refine nilc (fun hn => ?_) ?_ | exact cl3 | refine imp0 (fun hpos => ?_) | refine fits_i64 ?_ ?_ | exact rfl | (with_reducible first | show LeG _ _ | show Lp _ _ _ _ | show Exists _ | show callX _ _ _ _ _)))) <;> (try exact cl5)
    ((all_goals (try simp only [*, ↓reduceIte, Bool.false_eq_true, Bool.not_true, Bool.not_false, Bool.and_true, Bool.true_and, Bool.and_false, Bool.false_and, List.nil_append, List.drop_zero, Nat.zero_add, List.take_length, Int.toNat_natCast, Int.toNat_zero, List.append_nil]))); ((all_goals (try refine LeG.mk ?_)); (repeat' (first | exact PV.le_refl _ | exact PV.le_nil _ _ _ | exact PV.le_clip _ _ _ | exact PV.le_nilF _ _ _ | refine PV.le_agg ?_ | refine PV.le_tup ?_ | exact PV.leL_nil | refine PV.leL_cons ?_ ?_ | refine PV.le_of ?_ | rfl)))
    show PV.sl 1 false _ = PV.sl 1 false ((j.recs ++ [b]).map eB)
    rw [List.take_of_length_le (by simp)]
    simp
theorem rappend_calls (j : Jn) (b : Bs) (h : szL j.recs ≤ 50000000) (hb : b.length < 1000000) : PCalls Try.prog 16 [eJ j, eB b] (eJR (appJ j b)) := by
  have q := Used_calls j.recs (by omega)
  have p := rcheck5_calls j h
  have hm : (b.map (PV.int .u8)).length = b.length := List.length_map _
  have s : PCalls Try.prog 39 [eI ((b.map (PV.int .u8)).length : Nat)] (eI (secN b.length)) := by rw [hm]; exact Sectors_calls b.length (by omega)
  have hl := szL_len j.recs
  unfold appJ
  cases hc : chkJ j with
  | false =>
    rw [hc, if_neg Bool.false_ne_true] at p
    rw [if_neg Bool.false_ne_true]
    refine PCalls.of (N := 33) (res := [.cell 4 29, .tmp 5]) mixed Try.func16 rfl rfl rfl (by kernel_rfl) (by simp) [0, 1, 2, 4, 5, 6, 10, 22] ?_
    repeat' (first | exact cl1 | ((with_reducible show Exists _); refine exU8 ?_) | ((with_reducible show callX _ _ _ _ _); (first | refine call_p (p) (by kernel_rfl) rfl ?_ | refine call_p (q) (by kernel_rfl) rfl ?_ | refine call_p (s) (by kernel_rfl) rfl ?_)) | ((fail_if_success with_reducible first | show LeG _ _ | show Lp _ _ _ _ | show Exists _ | show callX _ _ _ _ _ | show (_ : Int) ≤ _ | show (_ : Int) < _ | show (_ : Nat) ≤ _ | show (_ : Nat) < _); (conv => whnf) <;> (first | exact cl2 | refine XAlt.l ?_ | refine Sq.pr ?_ | refine Br.dec (fun hc => ?_) (fun hc => ?_) | refine Br.tt ?_ | refine Br.ff ?_ | refine Br.not ?_ | refine Br.mk (fun hc => ?_) (fun hc => ?_) | refine Opt.nn ?_ | refine Opt.ss ?_ | refine AltA.l ?_ | exact PV.leL_nil | refine PV.leL_cons ?_ ?_ | refine And.intro ?_ ?_ | refine ix_map (fun x hx => ?_) | refine exU8 ?_ | refine nilc (fun hn => ?_) ?_ | exact cl3 | refine imp0 (fun hpos => ?_) | refine fits_i64 ?_ ?_ | exact rfl | (with_reducible first | show LeG _ _ | show Lp _ _ _ _ | show Exists _ | show callX _ _ _ _ _)))) <;> (try exact cl5)
    ((all_goals (try simp only [*, ↓reduceIte, Bool.false_eq_true, Bool.not_true, Bool.not_false, Bool.and_true, Bool.true_and, Bool.and_false, Bool.false_and, List.nil_append, List.drop_zero, Nat.zero_add, List.take_length, Int.toNat_natCast, Int.toNat_zero, List.append_nil]))); ((all_goals (try refine LeG.mk ?_)); (repeat' (first | exact PV.le_refl _ | exact PV.le_nil _ _ _ | exact PV.le_clip _ _ _ | exact PV.le_nilF _ _ _ | refine PV.le_agg ?_ | refine PV.le_tup ?_ | exact PV.leL_nil | refine PV.leL_cons ?_ ?_ | refine PV.le_of ?_ | rfl)))
  | true =>
    rw [hc, if_pos rfl] at p
    rw [if_pos rfl]
    obtain ⟨h1, h2, h3, h4, h5⟩ := chkJ_iff.1 hc
    refine PCalls.of (N := 33) (res := [.cell 4 29, .tmp 5]) mixed Try.func16 rfl rfl rfl (by kernel_rfl) (by simp) [0, 1, 2, 4, 5, 6, 10, 22] ?_
    repeat' (first | exact cl1 | ((with_reducible show Exists _); refine exU8 ?_) | ((with_reducible show callX _ _ _ _ _); (first | refine call_p (p) (by kernel_rfl) rfl ?_ | refine call_p (q) (by kernel_rfl) rfl ?_ | refine call_p (s) (by kernel_rfl) rfl ?_)) | ((fail_if_success with_reducible first | show LeG _ _ | show Lp _ _ _ _ | show Exists _ | show callX _ _ _ _ _ | show (_ : Int) ≤ _ | show (_ : Int) < _ | show (_ : Nat) ≤ _ | show (_ : Nat) < _); (conv => whnf) <;> (first | exact cl2 | refine XAlt.l ?_ | refine Sq.pr ?_ | refine Br.dec (fun hc => ?_) (fun hc => ?_) | refine Br.tt ?_ | refine Br.ff ?_ | refine Br.not ?_ | refine Br.mk (fun hc => ?_) (fun hc => ?_) | refine Opt.nn ?_ | refine Opt.ss ?_ | refine AltA.l ?_ | exact PV.leL_nil | refine PV.leL_cons ?_ ?_ | refine And.intro ?_ ?_ | refine ix_map (fun x hx => ?_) | refine exU8 ?_ | refine nilc (fun hn => ?_) ?_ | exact cl3 | refine imp0 (fun hpos => ?_) | refine fits_i64 ?_ ?_ | exact rfl | (with_reducible first | show LeG _ _ | show Lp _ _ _ _ | show Exists _ | show callX _ _ _ _ _)))) <;> (try exact cl5)
    ((all_goals (try simp only [*, ↓reduceIte, Bool.false_eq_true, Bool.not_true, Bool.not_false, Bool.and_true, Bool.true_and, Bool.and_false, Bool.false_and, List.nil_append, List.drop_zero, Nat.zero_add, List.take_length, Int.toNat_natCast, Int.toNat_zero, List.append_nil]))); ((all_goals (try refine LeG.mk ?_)); (repeat' (first | exact PV.le_refl _ | exact PV.le_nil _ _ _ | exact PV.le_clip _ _ _ | exact PV.le_nilF _ _ _ | refine PV.le_agg ?_ | refine PV.le_tup ?_ | exact PV.leL_nil | refine PV.leL_cons ?_ ?_ | refine PV.le_of ?_ | rfl)))
    show PV.sl 1 false _ = PV.sl 1 false ((j.recs ++ [b]).map eB)
    rw [List.take_of_length_le (by simp)]
    simp
theorem same5_calls (j k : Jn) (h : szL j.recs ≤ 50000000) (hb : ∀ b ∈ j.recs, B8 b) (hb2 : ∀ b ∈ k.recs, B8 b) : PCalls Try.prog 14 [eJ j, eJ k] (.bool (decide (j.many = k.many ∧ j.sync = k.sync ∧ j.recs = k.recs))) := by
  have hl := szL_len j.recs
  have q := sameR_calls j.recs k.recs (by omega) hb hb2
  refine PCalls.of (N := 24) (res := [.tmp 4]) mixed Try.func14 rfl rfl rfl (by kernel_rfl) (by simp) [0, 1, 2, 3, 4] ?_
  repeat' (first | exact cl1 | ((with_reducible show Exists _); refine exU8 ?_) | ((with_reducible show callX _ _ _ _ _); (first | refine call_p (q) (by kernel_rfl) rfl ?_)) | ((fail_if_success with_reducible first | show LeG _ _ | show Lp _ _ _ _ | show Exists _ | show callX _ _ _ _ _ | show (_ : Int) ≤ _ | show (_ : Int) < _ | show (_ : Nat) ≤ _ | show (_ : Nat) < _); (conv => whnf) <;> (first | exact cl2 | refine XAlt.l ?_ | refine Sq.pr ?_ | refine Br.dec (fun hc => ?_) (fun hc => ?_) | refine Br.tt ?_ | refine Br.ff ?_ | refine Br.not ?_ | refine Br.mk (fun hc => ?_) (fun hc => ?_) | refine Opt.nn ?_ | refine Opt.ss ?_ | refine AltA.l ?_ | exact PV.leL_nil | refine PV.leL_cons ?_ ?_ | refine And.intro ?_ ?_ | refine ix_map (fun x hx => ?_) | refine exU8 ?_ | refine nilc (fun hn => ?_) ?_ | exact cl3 | refine imp0 (fun hpos => ?_) | refine fits_i64 ?_ ?_ | exact rfl | (with_reducible first | show LeG _ _ | show Lp _ _ _ _ | show Exists _ | show callX _ _ _ _ _)))) <;> (try exact cl5)
  all_goals (refine LeG.bool ?_; simp [*])
theorem bytesEq_calls (a b : Bs) (ha : B8 a) (hb : B8 b) : PCalls Try.prog 43 [eB a, eB b] (.bool (decide (a = b))) := by
  rw [← str_dec ha hb]
  refine PCalls.of (N := 10) (res := [.tmp 4]) mixed Try.func43 rfl rfl rfl (by kernel_rfl) (by simp) [0, 1, 4] ?_
  repeat' (first | exact cl1 | ((with_reducible show Exists _); refine exU8 ?_) | ((fail_if_success with_reducible first | show LeG _ _ | show Lp _ _ _ _ | show Exists _ | show callX _ _ _ _ _ | show (_ : Int) ≤ _ | show (_ : Int) < _ | show (_ : Nat) ≤ _ | show (_ : Nat) < _); (conv => whnf) <;> (first | exact cl2 | refine XAlt.l ?_ | refine Sq.pr ?_ | refine Br.dec (fun hc => ?_) (fun hc => ?_) | refine Br.tt ?_ | refine Br.ff ?_ | refine Br.not ?_ | refine Br.mk (fun hc => ?_) (fun hc => ?_) | refine Opt.nn ?_ | refine Opt.ss ?_ | refine AltA.l ?_ | exact PV.leL_nil | refine PV.leL_cons ?_ ?_ | refine And.intro ?_ ?_ | refine ix_map (fun x hx => ?_) | refine exU8 ?_ | refine nilc (fun hn => ?_) ?_ | exact cl3 | refine imp0 (fun hpos => ?_) | refine fits_i64 ?_ ?_ | exact rfl | (with_reducible first | show LeG _ _ | show Lp _ _ _ _ | show Exists _ | show callX _ _ _ _ _)))) <;> (try exact cl5)
end Go.Proofs.Ytijkiolobmkhhaa

namespace Go.Proofs.Ytijkiolobmkhhaa
open Go Go.Sg
set_option maxRecDepth 100000
set_option maxHeartbeats 8000000
theorem equalF_calls (l m : List Bs) (hl : l.length < 100000000) (hb : ∀ b ∈ l, B8 b) (hb2 : ∀ b ∈ m, B8 b) : PCalls Try.prog 42 [eS l, eS m, .fn (.func 43) [] []] (.bool (decide (l = m))) := by
  by_cases hn : l.length = m.length
  · have hn' : ((l.map eB).length : Int) = ((m.map eB).length : Int) := by rw [List.length_map, List.length_map, hn]
    refine PCalls.of (N := 32) (res := [.tmp 6]) mixed Try.func42 rfl rfl rfl (by kernel_rfl) (by simp) [0, 1, 2, 6, 7, 8, 9, 14, 15, 16, 17, 18, 30] ?_
    repeat' (first | exact cl1 | ((with_reducible show Exists _); refine exU8 ?_) | ((fail_if_success with_reducible first | show LeG _ _ | show Lp _ _ _ _ | show Exists _ | show callX _ _ _ _ _ | show (_ : Int) ≤ _ | show (_ : Int) < _ | show (_ : Nat) ≤ _ | show (_ : Nat) < _); (conv => whnf) <;> (first | exact cl2 | refine Br.dec (fun hc => absurd hn' hc) (fun hc => ?_) | refine XAlt.l ?_ | refine Sq.pr ?_ | refine Br.dec (fun hc => ?_) (fun hc => ?_) | refine Br.tt ?_ | refine Br.ff ?_ | refine Br.not ?_ | refine Br.mk (fun hc => ?_) (fun hc => ?_) | refine Opt.nn ?_ | refine Opt.ss ?_ | refine AltA.l ?_ | exact PV.leL_nil | refine PV.leL_cons ?_ ?_ | refine And.intro ?_ ?_ | refine ix_map (fun x hx => ?_) | refine exU8 ?_ | refine nilc (fun hn => ?_) ?_ | exact cl3 | refine imp0 (fun hpos => ?_) | refine fits_i64 ?_ ?_ | exact rfl | (with_reducible first | show LeG _ _ | show Lp _ _ _ _ | show Exists _ | show callX _ _ _ _ _)))) <;> (try exact cl5)
    refine Wpc.loopB (α := {i : Nat // i ≤ l.length ∧ l.take i = m.take i}) mixed [0, 1, 2, 6, 7, 8, 9, 14, 15, 16, 17, 18, 30] (fun i => [(17, .p (eI i.1))]) (fun i => l.length - i.1) ⟨0, by omega, rfl⟩ ?_ ?_
    · (first | refine Ent.ofA [] ?_ | refine Ent.ofC [] ?_) <;> (repeat' (first | exact trivial | refine HpLe.dd ?_ | refine HpLe.mk rfl (by simp) rfl (fun h => AObj.noConfusion h) ?_ ?_ | refine And.intro ?_ ?_ | exact cl9 | refine VLe.pe ?_ | refine VLe.agg ?_ | refine VLe.tup ?_ | refine VLe.fn ?_ ?_ | refine VLeL.cons ?_ ?_ | exact VLeL.nil | exact OLe.row _ _ | rfl | refine VLe.rsle rfl ?_ ?_ ?_ | refine OLe.rowe2 ?_ ?_ | refine OLe.mape ?_ ?_ | refine OLe.iter0 ?_ | refine OLe.itere ?_ ?_)) <;> try (first | (simp; done) | (congr 1; omega) | (congr 1; (first | (simp; done) | (simp; omega))))
    rintro ⟨i, hi, he⟩
    have hi : i ≤ l.length := hi
    cases hxi : l[i]? with
    | none =>
      have hge : l.length ≤ i := List.getElem?_eq_none_iff.1 hxi
      have hno : ¬ ((i : Int) < ((l.map eB).length : Int)) := by rw [List.length_map]; omega
      have he : l.take i = m.take i := he
      have e : l = m := by rw [List.take_of_length_le hge, List.take_of_length_le (by omega)] at he; exact he
      repeat' (first | exact cl1 | ((with_reducible show Exists _); refine exU8 ?_) | ((fail_if_success with_reducible first | show LeG _ _ | show Lp _ _ _ _ | show Exists _ | show callX _ _ _ _ _ | show (_ : Int) ≤ _ | show (_ : Int) < _ | show (_ : Nat) ≤ _ | show (_ : Nat) < _); (conv => whnf) <;> (first | exact cl2 | refine Br.dec (fun hc => absurd hc hno) (fun hc => ?_) | refine XAlt.l ?_ | refine Sq.pr ?_ | refine Br.dec (fun hc => ?_) (fun hc => ?_) | refine Br.tt ?_ | refine Br.ff ?_ | refine Br.not ?_ | refine Br.mk (fun hc => ?_) (fun hc => ?_) | refine Opt.nn ?_ | refine Opt.ss ?_ | refine AltA.l ?_ | exact PV.leL_nil | refine PV.leL_cons ?_ ?_ | refine And.intro ?_ ?_ | refine ix_map (fun x hx => ?_) | refine exU8 ?_ | refine nilc (fun hn => ?_) ?_ | exact cl3 | refine imp0 (fun hpos => ?_) | refine fits_i64 ?_ ?_ | exact rfl | (with_reducible first | show LeG _ _ | show Lp _ _ _ _ | show Exists _ | show callX _ _ _ _ _)))) <;> (try exact cl5)
      exact LeG.bool (decide_eq_true e).symm
    | some x =>
      have hlt : i < l.length := (List.getElem?_eq_some_iff.1 hxi).1
      obtain ⟨y, hyi⟩ : ∃ y, m[i]? = some y := ⟨_, List.getElem?_eq_getElem (by omega)⟩
      have hyes : ((i : Int) < ((l.map eB).length : Int)) := by rw [List.length_map]; omega
      have q := bytesEq_calls x y (hb x (List.mem_of_getElem? hxi)) (hb2 y (List.mem_of_getElem? hyi))
      by_cases hxy : x = y
      · rw [decide_eq_true hxy] at q
        repeat' (first | exact cl1 | ((with_reducible show Exists _); refine exU8 ?_) | ((with_reducible show callX _ _ _ _ _); (first | refine call_p (q) (by kernel_rfl) rfl ?_)) | ((fail_if_success with_reducible first | show LeG _ _ | show Lp _ _ _ _ | show Exists _ | show callX _ _ _ _ _ | show (_ : Int) ≤ _ | show (_ : Int) < _ | show (_ : Nat) ≤ _ | show (_ : Nat) < _); (conv => whnf) <;> (first | exact cl2 | refine Br.dec (fun hc => ?_) (fun hc => absurd hyes hc) | refine ix_b hxi ?_ | refine ix_b hyi ?_ | refine XAlt.l ?_ | refine Sq.pr ?_ | refine Br.dec (fun hc => ?_) (fun hc => ?_) | refine Br.tt ?_ | refine Br.ff ?_ | refine Br.not ?_ | refine Br.mk (fun hc => ?_) (fun hc => ?_) | refine Opt.nn ?_ | refine Opt.ss ?_ | refine AltA.l ?_ | exact PV.leL_nil | refine PV.leL_cons ?_ ?_ | refine And.intro ?_ ?_ | refine ix_map (fun x hx => ?_) | refine exU8 ?_ | refine nilc (fun hn => ?_) ?_ | exact cl3 | refine imp0 (fun hpos => ?_) | refine fits_i64 ?_ ?_ | exact rfl | (with_reducible first | show LeG _ _ | show Lp _ _ _ _ | show Exists _ | show callX _ _ _ _ _)))) <;> (try exact cl5)
        refine ⟨⟨i + 1, hlt, eq_take hxi hyi hxy he⟩, by show l.length - (i + 1) < l.length - i; omega, ?_⟩
        (first | refine Ent.ofA [] ?_ | refine Ent.ofC [] ?_) <;> (repeat' (first | exact trivial | refine HpLe.dd ?_ | refine HpLe.mk rfl (by simp) rfl (fun h => AObj.noConfusion h) ?_ ?_ | refine And.intro ?_ ?_ | exact cl9 | refine VLe.pe ?_ | refine VLe.agg ?_ | refine VLe.tup ?_ | refine VLe.fn ?_ ?_ | refine VLeL.cons ?_ ?_ | exact VLeL.nil | exact OLe.row _ _ | rfl | refine VLe.rsle rfl ?_ ?_ ?_ | refine OLe.rowe2 ?_ ?_ | refine OLe.mape ?_ ?_ | refine OLe.iter0 ?_ | refine OLe.itere ?_ ?_)) <;> try (first | (simp; done) | (congr 1; omega) | (congr 1; (first | (simp; done) | (simp; omega))))
      · rw [decide_eq_false hxy] at q
        repeat' (first | exact cl1 | ((with_reducible show Exists _); refine exU8 ?_) | ((with_reducible show callX _ _ _ _ _); (first | refine call_p (q) (by kernel_rfl) rfl ?_)) | ((fail_if_success with_reducible first | show LeG _ _ | show Lp _ _ _ _ | show Exists _ | show callX _ _ _ _ _ | show (_ : Int) ≤ _ | show (_ : Int) < _ | show (_ : Nat) ≤ _ | show (_ : Nat) < _); (conv => whnf) <;> (first | exact cl2 | refine Br.dec (fun hc => ?_) (fun hc => absurd hyes hc) | refine ix_b hxi ?_ | refine ix_b hyi ?_ | refine XAlt.l ?_ | refine Sq.pr ?_ | refine Br.dec (fun hc => ?_) (fun hc => ?_) | refine Br.tt ?_ | refine Br.ff ?_ | refine Br.not ?_ | refine Br.mk (fun hc => ?_) (fun hc => ?_) | refine Opt.nn ?_ | refine Opt.ss ?_ | refine AltA.l ?_ | exact PV.leL_nil | refine PV.leL_cons ?_ ?_ | refine And.intro ?_ ?_ | refine ix_map (fun x hx => ?_) | refine exU8 ?_ | refine nilc (fun hn => ?_) ?_ | exact cl3 | refine imp0 (fun hpos => ?_) | refine fits_i64 ?_ ?_ | exact rfl | (with_reducible first | show LeG _ _ | show Lp _ _ _ _ | show Exists _ | show callX _ _ _ _ _)))) <;> (try exact cl5)
        exact LeG.bool (decide_eq_false (ne_at hxi hyi hxy)).symm
  · have hn' : ¬ ((l.map eB).length : Int) = ((m.map eB).length : Int) := by rw [List.length_map, List.length_map]; omega
    rw [decide_eq_false (fun e => hn (by rw [e]))]
    refine PCalls.of (N := 32) (res := [.tmp 6]) mixed Try.func42 rfl rfl rfl (by kernel_rfl) (by simp) [0, 1, 2, 6, 7, 8, 9, 14, 15, 16, 17, 18, 30] ?_
    repeat' (first | exact cl1 | ((with_reducible show Exists _); refine exU8 ?_) | ((fail_if_success with_reducible first | show LeG _ _ | show Lp _ _ _ _ | show Exists _ | show callX _ _ _ _ _ | show (_ : Int) ≤ _ | show (_ : Int) < _ | show (_ : Nat) ≤ _ | show (_ : Nat) < _); (conv => whnf) <;> (first | exact cl2 | refine Br.dec (fun hc => ?_) (fun hc => absurd hn' hc) | refine XAlt.l ?_ | refine Sq.pr ?_ | refine Br.dec (fun hc => ?_) (fun hc => ?_) | refine Br.tt ?_ | refine Br.ff ?_ | refine Br.not ?_ | refine Br.mk (fun hc => ?_) (fun hc => ?_) | refine Opt.nn ?_ | refine Opt.ss ?_ | refine AltA.l ?_ | exact PV.leL_nil | refine PV.leL_cons ?_ ?_ | refine And.intro ?_ ?_ | refine ix_map (fun x hx => ?_) | refine exU8 ?_ | refine nilc (fun hn => ?_) ?_ | exact cl3 | refine imp0 (fun hpos => ?_) | refine fits_i64 ?_ ?_ | exact rfl | (with_reducible first | show LeG _ _ | show Lp _ _ _ _ | show Exists _ | show callX _ _ _ _ _)))) <;> (try exact cl5)
def fewJ (d : Dk) (l : List Bs) : Bool := decide (d.secs.length ≤ 40 ∧ d.pend.length ≤ 40 ∧ szL l ≤ 4000)
theorem few5_calls (d : Dk) (l : List Bs) (h : szL l ≤ 100000000) : PCalls Try.prog 11 [eD d, eS l] (.bool (fewJ d l)) := by
  have hl := szL_len l
  have h1 : (d.secs.map eB).length = d.secs.length := List.length_map _
  have h2 : (d.pend.map eW).length = d.pend.length := List.length_map _
  refine PCalls.of (N := 34) (res := [.tmp 4]) mixed Try.func11 rfl rfl rfl (by kernel_rfl) (by simp) [0, 1, 2, 4, 5, 7, 8, 9, 10, 11] ?_
  repeat' (first | exact cl1 | ((with_reducible show Exists _); refine exU8 ?_) | ((fail_if_success with_reducible first | show LeG _ _ | show Lp _ _ _ _ | show Exists _ | show callX _ _ _ _ _ | show (_ : Int) ≤ _ | show (_ : Int) < _ | show (_ : Nat) ≤ _ | show (_ : Nat) < _); (conv => whnf) <;> (first | exact cl2 | refine XAlt.l ?_ | refine Sq.pr ?_ | refine Br.dec (fun hc => ?_) (fun hc => ?_) | refine Br.tt ?_ | refine Br.ff ?_ | refine Br.not ?_ | refine Br.mk (fun hc => ?_) (fun hc => ?_) | refine Opt.nn ?_ | refine Opt.ss ?_ | refine AltA.l ?_ | exact PV.leL_nil | refine PV.leL_cons ?_ ?_ | refine And.intro ?_ ?_ | refine ix_map (fun x hx => ?_) | refine exU8 ?_ | refine nilc (fun hn => ?_) ?_ | exact cl3 | refine imp0 (fun hpos => ?_) | refine fits_i64 ?_ ?_ | exact rfl | (with_reducible first | show LeG _ _ | show Lp _ _ _ _ | show Exists _ | show callX _ _ _ _ _)))) <;> (try exact cl5)
  refine Wpc.loopB (α := {i : Nat // i ≤ l.length}) mixed [0, 1, 2, 4, 5, 7, 8, 9, 10, 11] (fun i => [(5, .p (eI (szL (l.take i.1)))), (10, .p (eI i.1))]) (fun i => l.length - i.1) ⟨0, by omega⟩ ?_ ?_
  · (first | refine Ent.ofA [] ?_ | refine Ent.ofC [] ?_) <;> (repeat' (first | exact trivial | refine HpLe.dd ?_ | refine HpLe.mk rfl (by simp) rfl (fun h => AObj.noConfusion h) ?_ ?_ | refine And.intro ?_ ?_ | exact cl9 | refine VLe.pe ?_ | refine VLe.agg ?_ | refine VLe.tup ?_ | refine VLe.fn ?_ ?_ | refine VLeL.cons ?_ ?_ | exact VLeL.nil | exact OLe.row _ _ | rfl | refine VLe.rsle rfl ?_ ?_ ?_ | refine OLe.rowe2 ?_ ?_ | refine OLe.mape ?_ ?_ | refine OLe.iter0 ?_ | refine OLe.itere ?_ ?_)) <;> try (first | (simp; done) | (congr 1; omega) | (congr 1; (first | (simp; done) | (simp; omega))))
  rintro ⟨i, hi⟩
  have hi : i ≤ l.length := hi
  cases hxi : l[i]? with
  | none =>
    have hge : l.length ≤ i := List.getElem?_eq_none_iff.1 hxi
    have hno : ¬ ((i : Int) < ((l.map eB).length : Int)) := by rw [List.length_map]; omega
    rw [List.take_of_length_le hge]
    unfold fewJ
    repeat' (first | exact cl1 | ((with_reducible show Exists _); refine exU8 ?_) | ((fail_if_success with_reducible first | show LeG _ _ | show Lp _ _ _ _ | show Exists _ | show callX _ _ _ _ _ | show (_ : Int) ≤ _ | show (_ : Int) < _ | show (_ : Nat) ≤ _ | show (_ : Nat) < _); (conv => whnf) <;> (first | exact cl2 | refine Br.dec (fun hc => absurd hc hno) (fun hc => ?_) | refine XAlt.l ?_ | refine Sq.pr ?_ | refine Br.dec (fun hc => ?_) (fun hc => ?_) | refine Br.tt ?_ | refine Br.ff ?_ | refine Br.not ?_ | refine Br.mk (fun hc => ?_) (fun hc => ?_) | refine Opt.nn ?_ | refine Opt.ss ?_ | refine AltA.l ?_ | exact PV.leL_nil | refine PV.leL_cons ?_ ?_ | refine And.intro ?_ ?_ | refine ix_map (fun x hx => ?_) | refine exU8 ?_ | refine nilc (fun hn => ?_) ?_ | exact cl3 | refine imp0 (fun hpos => ?_) | refine fits_i64 ?_ ?_ | exact rfl | (with_reducible first | show LeG _ _ | show Lp _ _ _ _ | show Exists _ | show callX _ _ _ _ _)))) <;> (try exact cl5)
    all_goals refine LeG.bool ?_
    all_goals rw [Bool.eq_iff_iff]
    all_goals simp only [decide_eq_true_iff, Bool.false_eq_true]
    all_goals first
    | omega
    | (constructor
       · exact fun hh => hh.elim
       · intro hh; omega)
  | some x =>
    have hlt : i < l.length := (List.getElem?_eq_some_iff.1 hxi).1
    have hyes : ((i : Int) < ((l.map eB).length : Int)) := by rw [List.length_map]; omega
    have hxm := szL_mem (List.mem_of_getElem? hxi)
    have ht := szL_take hxi
    have hts := szL_takeLe l i
    repeat' (first | exact cl1 | ((with_reducible show Exists _); refine exU8 ?_) | ((fail_if_success with_reducible first | show LeG _ _ | show Lp _ _ _ _ | show Exists _ | show callX _ _ _ _ _ | show (_ : Int) ≤ _ | show (_ : Int) < _ | show (_ : Nat) ≤ _ | show (_ : Nat) < _); (conv => whnf) <;> (first | exact cl2 | refine Br.dec (fun hc => ?_) (fun hc => absurd hyes hc) | refine ix_b hxi ?_ | refine XAlt.l ?_ | refine Sq.pr ?_ | refine Br.dec (fun hc => ?_) (fun hc => ?_) | refine Br.tt ?_ | refine Br.ff ?_ | refine Br.not ?_ | refine Br.mk (fun hc => ?_) (fun hc => ?_) | refine Opt.nn ?_ | refine Opt.ss ?_ | refine AltA.l ?_ | exact PV.leL_nil | refine PV.leL_cons ?_ ?_ | refine And.intro ?_ ?_ | refine ix_map (fun x hx => ?_) | refine exU8 ?_ | refine nilc (fun hn => ?_) ?_ | exact cl3 | refine imp0 (fun hpos => ?_) | refine fits_i64 ?_ ?_ | exact rfl | (with_reducible first | show LeG _ _ | show Lp _ _ _ _ | show Exists _ | show callX _ _ _ _ _)))) <;> (try exact cl5)
    refine ⟨⟨i + 1, hlt⟩, by show l.length - (i + 1) < l.length - i; omega, ?_⟩
    (first | refine Ent.ofA [] ?_ | refine Ent.ofC [] ?_) <;> (repeat' (first | exact trivial | refine HpLe.dd ?_ | refine HpLe.mk rfl (by simp) rfl (fun h => AObj.noConfusion h) ?_ ?_ | refine And.intro ?_ ?_ | exact cl9 | refine VLe.pe ?_ | refine VLe.agg ?_ | refine VLe.tup ?_ | refine VLe.fn ?_ ?_ | refine VLeL.cons ?_ ?_ | exact VLeL.nil | exact OLe.row _ _ | rfl | refine VLe.rsle rfl ?_ ?_ ?_ | refine OLe.rowe2 ?_ ?_ | refine OLe.mape ?_ ?_ | refine OLe.iter0 ?_ | refine OLe.itere ?_ ?_)) <;> try (first | (simp; done) | (congr 1; omega) | (congr 1; (first | (simp; done) | (simp; omega))))
    all_goals (dsimp only; rw [ht]; simp)
end Go.Proofs.Ytijkiolobmkhhaa

namespace Go.Proofs.Ytijkiolobmkhhaa
open Go Go.Sg
set_option maxRecDepth 100000
set_option maxHeartbeats 8000000
def eU (u : Nat) : PV := .int .u64 (u : Int)
def eV (u : Nat) : PV := .int .u32 (u : Int)
def eC (u : Nat) : PV := .int .u8 (u : Int)
/-- A number of some bytes, the most significant first. -/
def numB (b : Bs) : Nat := b.foldl (fun n c => 256 * n + c.toNat) 0
theorem numB_snoc (b : Bs) (c : Int) : numB (b ++ [c]) = 256 * numB b + c.toNat := by unfold numB; simp [List.foldl_append]
theorem numB_take {b : Bs} {i : Nat} {c : Int} (h : b[i]? = some c) : numB (b.take (i + 1)) = 256 * numB (b.take i) + c.toNat := by
  rw [List.take_add_one, h]; exact numB_snoc _ _
theorem numB_lt : ∀ (n : Nat) (b : Bs), b.length = n → B8 b → numB b < 256 ^ n := by
  intro n
  induction n with
  | zero => intro b h _; rw [List.eq_nil_of_length_eq_zero h]; decide
  | succ n ih =>
    intro b h hb
    rcases List.eq_nil_or_concat b with e | ⟨r, c, e⟩
    · subst e; simp at h
    · rw [List.concat_eq_append] at e
      subst e
      rw [List.length_append, List.length_singleton] at h
      have := ih r (by omega) (fun x hx => hb x (by simp [hx]))
      obtain ⟨c0, c1⟩ := hb c (by simp)
      rw [numB_snoc, Nat.pow_succ]; omega
theorem B8.take {b : Bs} (h : B8 b) (n : Nat) : B8 (b.take n) := fun c hc => h c (List.mem_of_mem_take hc)
theorem B8.drop {b : Bs} (h : B8 b) (n : Nat) : B8 (b.drop n) := fun c hc => h c (List.mem_of_mem_drop hc)
theorem B8.get {b : Bs} (h : B8 b) {i : Nat} {c : Int} (hx : b[i]? = some c) : 0 ≤ c ∧ c ≤ 255 := h c (List.mem_of_getElem? hx)
theorem numB_lt7 {b : Bs} (h : B8 b) (hl : b.length ≤ 7) : numB b < 72057594037927936 := by
  have := numB_lt b.length b rfl h
  have h2 : 256 ^ b.length ≤ 256 ^ 7 := Nat.pow_le_pow_right (by decide) hl
  have h3 : (256 : Nat) ^ 7 = 72057594037927936 := by decide
  omega
theorem ix_c {l : Bs} {n : Nat} {x : Int} {K : PV → Prop} (hx : l[n]? = some x) (k : K (.int .u8 x)) : ∀ p, (l.map (PV.int .u8))[n]? = some p → K p := fun p hp => by
  rw [List.getElem?_map, hx] at hp
  injection hp with hp; subst hp; exact k
theorem number_calls (b : Bs) (hb : B8 b) (hl : b.length ≤ 7) : PCalls Try.prog 63 [eB b] (eU (numB b)) := by
  refine PCalls.of (N := 20) (res := [.tmp 2]) mixed Try.func63 rfl rfl rfl (by kernel_rfl) (by simp) [0, 2, 3, 4, 8] ?_
  repeat' (first | exact cl1 | ((with_reducible show Exists _); refine exU8 ?_) | ((fail_if_success with_reducible first | show LeG _ _ | show Lp _ _ _ _ | show Exists _ | show callX _ _ _ _ _ | show (_ : Int) ≤ _ | show (_ : Int) < _ | show (_ : Nat) ≤ _ | show (_ : Nat) < _); (conv => whnf) <;> (first | exact cl2 | refine XAlt.l ?_ | refine Sq.pr ?_ | refine Br.dec (fun hc => ?_) (fun hc => ?_) | refine Br.tt ?_ | refine Br.ff ?_ | refine Br.not ?_ | refine Br.mk (fun hc => ?_) (fun hc => ?_) | refine Opt.nn ?_ | refine Opt.ss ?_ | refine AltA.l ?_ | exact PV.leL_nil | refine PV.leL_cons ?_ ?_ | refine And.intro ?_ ?_ | refine ix_map (fun x hx => ?_) | refine exU8 ?_ | refine nilc (fun hn => ?_) ?_ | exact cl3 | refine imp0 (fun hpos => ?_) | refine fits_i64 ?_ ?_ | exact rfl | (with_reducible first | show LeG _ _ | show Lp _ _ _ _ | show Exists _ | show callX _ _ _ _ _)))) <;> (try exact cl5)
  refine Wpc.loopB (α := {i : Nat // i ≤ b.length}) mixed [0, 2, 3, 4, 8] (fun i => [(3, .p (eU (numB (b.take i.1)))), (4, .p (eI i.1))]) (fun i => b.length - i.1) ⟨0, by omega⟩ ?_ ?_
  · (first | refine Ent.ofA [] ?_ | refine Ent.ofC [] ?_) <;> (repeat' (first | exact trivial | refine HpLe.dd ?_ | refine HpLe.mk rfl (by simp) rfl (fun h => AObj.noConfusion h) ?_ ?_ | refine And.intro ?_ ?_ | exact cl9 | refine VLe.pe ?_ | refine VLe.agg ?_ | refine VLe.tup ?_ | refine VLe.fn ?_ ?_ | refine VLeL.cons ?_ ?_ | exact VLeL.nil | exact OLe.row _ _ | rfl | refine VLe.rsle rfl ?_ ?_ ?_ | refine OLe.rowe2 ?_ ?_ | refine OLe.mape ?_ ?_ | refine OLe.iter0 ?_ | refine OLe.itere ?_ ?_)) <;> try (first | (simp; done) | (congr 1; omega) | (congr 1; (first | (simp; done) | (simp; omega))))
  rintro ⟨i, hi⟩
  have hi : i ≤ b.length := hi
  cases hxi : b[i]? with
  | none =>
    have hge : b.length ≤ i := List.getElem?_eq_none_iff.1 hxi
    have hno : ¬ ((i : Int) < ((b.map (PV.int .u8)).length : Int)) := by rw [List.length_map]; omega
    rw [List.take_of_length_le hge]
    repeat' (first | exact cl1 | ((with_reducible show Exists _); refine exU8 ?_) | ((fail_if_success with_reducible first | show LeG _ _ | show Lp _ _ _ _ | show Exists _ | show callX _ _ _ _ _ | show (_ : Int) ≤ _ | show (_ : Int) < _ | show (_ : Nat) ≤ _ | show (_ : Nat) < _); (conv => whnf) <;> (first | exact cl2 | refine Br.dec (fun hc => absurd hc hno) (fun hc => ?_) | refine XAlt.l ?_ | refine Sq.pr ?_ | refine Br.dec (fun hc => ?_) (fun hc => ?_) | refine Br.tt ?_ | refine Br.ff ?_ | refine Br.not ?_ | refine Br.mk (fun hc => ?_) (fun hc => ?_) | refine Opt.nn ?_ | refine Opt.ss ?_ | refine AltA.l ?_ | exact PV.leL_nil | refine PV.leL_cons ?_ ?_ | refine And.intro ?_ ?_ | refine ix_map (fun x hx => ?_) | refine exU8 ?_ | refine nilc (fun hn => ?_) ?_ | exact cl3 | refine imp0 (fun hpos => ?_) | refine fits_i64 ?_ ?_ | exact rfl | (with_reducible first | show LeG _ _ | show Lp _ _ _ _ | show Exists _ | show callX _ _ _ _ _)))) <;> (try exact cl5)
    all_goals exact LeG.refl _
  | some x =>
    have hlt : i < b.length := (List.getElem?_eq_some_iff.1 hxi).1
    have hyes : ((i : Int) < ((b.map (PV.int .u8)).length : Int)) := by rw [List.length_map]; omega
    obtain ⟨x0, x1⟩ := hb.get hxi
    have ht := numB_take hxi
    have hB := numB_lt7 (hb.take i) (by rw [List.length_take]; omega)
    have hB2 := numB_lt7 (hb.take (i + 1)) (by rw [List.length_take]; omega)
    have hw : IntKind.u64.wrap x = x := by rw [wrap_u64]; omega
    repeat' (first | exact cl1 | ((with_reducible show Exists _); refine exU8 ?_) | ((fail_if_success with_reducible first | show LeG _ _ | show Lp _ _ _ _ | show Exists _ | show callX _ _ _ _ _ | show (_ : Int) ≤ _ | show (_ : Int) < _ | show (_ : Nat) ≤ _ | show (_ : Nat) < _); (conv => whnf) <;> (first | exact cl2 | refine Br.dec (fun hc => ?_) (fun hc => absurd hyes hc) | refine ix_c hxi ?_ | refine XAlt.l ?_ | refine Sq.pr ?_ | refine Br.dec (fun hc => ?_) (fun hc => ?_) | refine Br.tt ?_ | refine Br.ff ?_ | refine Br.not ?_ | refine Br.mk (fun hc => ?_) (fun hc => ?_) | refine Opt.nn ?_ | refine Opt.ss ?_ | refine AltA.l ?_ | exact PV.leL_nil | refine PV.leL_cons ?_ ?_ | refine And.intro ?_ ?_ | refine ix_map (fun x hx => ?_) | refine exU8 ?_ | refine nilc (fun hn => ?_) ?_ | exact cl3 | refine imp0 (fun hpos => ?_) | refine fits_i64 ?_ ?_ | exact rfl | (with_reducible first | show LeG _ _ | show Lp _ _ _ _ | show Exists _ | show callX _ _ _ _ _)))) <;> (try exact cl5)
    · show Fits .u64 (256 * ((numB (b.take i) : Nat) : Int)); exact fits_u64 (by omega) (by omega)
    · show Fits .u64 (256 * ((numB (b.take i) : Nat) : Int) + _); rw [hw]; exact fits_u64 (by omega) (by omega)
    refine ⟨⟨i + 1, hlt⟩, by show b.length - (i + 1) < b.length - i; omega, ?_⟩
    (first | refine Ent.ofA [] ?_ | refine Ent.ofC [] ?_) <;> (repeat' (first | exact trivial | refine HpLe.dd ?_ | refine HpLe.mk rfl (by simp) rfl (fun h => AObj.noConfusion h) ?_ ?_ | refine And.intro ?_ ?_ | exact cl9 | refine VLe.pe ?_ | refine VLe.agg ?_ | refine VLe.tup ?_ | refine VLe.fn ?_ ?_ | refine VLeL.cons ?_ ?_ | exact VLeL.nil | exact OLe.row _ _ | rfl | refine VLe.rsle rfl ?_ ?_ ?_ | refine OLe.rowe2 ?_ ?_ | refine OLe.mape ?_ ?_ | refine OLe.iter0 ?_ | refine OLe.itere ?_ ?_)) <;> try (first | (simp; done) | (congr 1; omega) | (congr 1; (first | (simp; done) | (simp; omega))))
    all_goals (refine congrArg (PV.int .u64) ?_; show 256 * ((numB (b.take i) : Nat) : Int) + IntKind.u64.wrap x = _; rw [hw, ht]; omega)
theorem or256 {n : Nat} {x : Int} (hn : 256 * n < 18446744073709551616) (h0 : 0 ≤ x) (h1 : x ≤ 255) : bitsI .or .u64 (IntKind.u64.wrap ((n : Int) * 2 ^ min (Int.toNat 8) IntKind.u64.bits)) (IntKind.u64.wrap x) = ((256 * n + x.toNat : Nat) : Int) := by
  have e1 : IntKind.u64.wrap ((n : Int) * 2 ^ min (Int.toNat 8) IntKind.u64.bits) = ((n * 2 ^ 8 : Nat) : Int) := by
    rw [wrap_u64, show min (Int.toNat 8) IntKind.u64.bits = 8 from rfl]
    have : (n : Int) * 2 ^ 8 = ((n * 2 ^ 8 : Nat) : Int) := by push_cast; rfl
    rw [this]; omega
  have e2 : IntKind.u64.wrap x = ((x.toNat : Nat) : Int) := by rw [wrap_u64]; omega
  rw [e1, e2, bits_or rfl (by show n * 2 ^ 8 < 18446744073709551616; omega) (by show x.toNat < 18446744073709551616; omega), Nat.or_comm, or_shift (by omega)]
  omega
theorem get_calls (b : Bs) (hb : B8 b) (hl : b.length ≤ 7) : PCalls Try.prog 41 [eB b] (eU (numB b)) := by
  refine PCalls.of (N := 18) (res := [.tmp 2]) mixed Try.func41 rfl rfl rfl (by kernel_rfl) (by simp) [0, 2, 4, 5, 6, 7, 8] ?_
  repeat' (first | exact cl1 | ((with_reducible show Exists _); refine exU8 ?_) | ((fail_if_success with_reducible first | show LeG _ _ | show Lp _ _ _ _ | show Exists _ | show callX _ _ _ _ _ | show (_ : Int) ≤ _ | show (_ : Int) < _ | show (_ : Nat) ≤ _ | show (_ : Nat) < _); (conv => whnf) <;> (first | exact cl2 | refine XAlt.l ?_ | refine Sq.pr ?_ | refine Br.dec (fun hc => ?_) (fun hc => ?_) | refine Br.tt ?_ | refine Br.ff ?_ | refine Br.not ?_ | refine Br.mk (fun hc => ?_) (fun hc => ?_) | refine Opt.nn ?_ | refine Opt.ss ?_ | refine AltA.l ?_ | exact PV.leL_nil | refine PV.leL_cons ?_ ?_ | refine And.intro ?_ ?_ | refine ix_map (fun x hx => ?_) | refine exU8 ?_ | refine nilc (fun hn => ?_) ?_ | exact cl3 | refine imp0 (fun hpos => ?_) | refine fits_i64 ?_ ?_ | exact rfl | (with_reducible first | show LeG _ _ | show Lp _ _ _ _ | show Exists _ | show callX _ _ _ _ _)))) <;> (try exact cl5)
  refine Wpc.loopB (α := {i : Nat // i ≤ b.length}) mixed [0, 2, 4, 5, 6, 7, 8] (fun i => [(2, .p (eU (numB (b.take i.1)))), (7, .p (eI i.1))]) (fun i => b.length - i.1) ⟨0, by omega⟩ ?_ ?_
  · (first | refine Ent.ofA [] ?_ | refine Ent.ofC [] ?_) <;> (repeat' (first | exact trivial | refine HpLe.dd ?_ | refine HpLe.mk rfl (by simp) rfl (fun h => AObj.noConfusion h) ?_ ?_ | refine And.intro ?_ ?_ | exact cl9 | refine VLe.pe ?_ | refine VLe.agg ?_ | refine VLe.tup ?_ | refine VLe.fn ?_ ?_ | refine VLeL.cons ?_ ?_ | exact VLeL.nil | exact OLe.row _ _ | rfl | refine VLe.rsle rfl ?_ ?_ ?_ | refine OLe.rowe2 ?_ ?_ | refine OLe.mape ?_ ?_ | refine OLe.iter0 ?_ | refine OLe.itere ?_ ?_)) <;> try (first | (simp; done) | (congr 1; omega) | (congr 1; (first | (simp; done) | (simp; omega))))
  rintro ⟨i, hi⟩
  have hi : i ≤ b.length := hi
  cases hxi : b[i]? with
  | none =>
    have hge : b.length ≤ i := List.getElem?_eq_none_iff.1 hxi
    have hno : ¬ ((i : Int) < ((b.map (PV.int .u8)).length : Int)) := by rw [List.length_map]; omega
    rw [List.take_of_length_le hge]
    repeat' (first | exact cl1 | ((with_reducible show Exists _); refine exU8 ?_) | ((fail_if_success with_reducible first | show LeG _ _ | show Lp _ _ _ _ | show Exists _ | show callX _ _ _ _ _ | show (_ : Int) ≤ _ | show (_ : Int) < _ | show (_ : Nat) ≤ _ | show (_ : Nat) < _); (conv => whnf) <;> (first | exact cl2 | refine Br.dec (fun hc => absurd hc hno) (fun hc => ?_) | refine XAlt.l ?_ | refine Sq.pr ?_ | refine Br.dec (fun hc => ?_) (fun hc => ?_) | refine Br.tt ?_ | refine Br.ff ?_ | refine Br.not ?_ | refine Br.mk (fun hc => ?_) (fun hc => ?_) | refine Opt.nn ?_ | refine Opt.ss ?_ | refine AltA.l ?_ | exact PV.leL_nil | refine PV.leL_cons ?_ ?_ | refine And.intro ?_ ?_ | refine ix_map (fun x hx => ?_) | refine exU8 ?_ | refine nilc (fun hn => ?_) ?_ | exact cl3 | refine imp0 (fun hpos => ?_) | refine fits_i64 ?_ ?_ | exact rfl | (with_reducible first | show LeG _ _ | show Lp _ _ _ _ | show Exists _ | show callX _ _ _ _ _)))) <;> (try exact cl5)
    all_goals exact LeG.refl _
  | some x =>
    have hlt : i < b.length := (List.getElem?_eq_some_iff.1 hxi).1
    have hyes : ((i : Int) < ((b.map (PV.int .u8)).length : Int)) := by rw [List.length_map]; omega
    obtain ⟨x0, x1⟩ := hb.get hxi
    have ht := numB_take hxi
    have hB := numB_lt7 (hb.take i) (by rw [List.length_take]; omega)
    have hB2 := numB_lt7 (hb.take (i + 1)) (by rw [List.length_take]; omega)
    have hw : IntKind.u64.wrap x = x := by rw [wrap_u64]; omega
    repeat' (first | exact cl1 | ((with_reducible show Exists _); refine exU8 ?_) | ((fail_if_success with_reducible first | show LeG _ _ | show Lp _ _ _ _ | show Exists _ | show callX _ _ _ _ _ | show (_ : Int) ≤ _ | show (_ : Int) < _ | show (_ : Nat) ≤ _ | show (_ : Nat) < _); (conv => whnf) <;> (first | exact cl2 | refine Br.dec (fun hc => ?_) (fun hc => absurd hyes hc) | refine ix_c hxi ?_ | refine XAlt.l ?_ | refine Sq.pr ?_ | refine Br.dec (fun hc => ?_) (fun hc => ?_) | refine Br.tt ?_ | refine Br.ff ?_ | refine Br.not ?_ | refine Br.mk (fun hc => ?_) (fun hc => ?_) | refine Opt.nn ?_ | refine Opt.ss ?_ | refine AltA.l ?_ | exact PV.leL_nil | refine PV.leL_cons ?_ ?_ | refine And.intro ?_ ?_ | refine ix_map (fun x hx => ?_) | refine exU8 ?_ | refine nilc (fun hn => ?_) ?_ | exact cl3 | refine imp0 (fun hpos => ?_) | refine fits_i64 ?_ ?_ | exact rfl | (with_reducible first | show LeG _ _ | show Lp _ _ _ _ | show Exists _ | show callX _ _ _ _ _)))) <;> (try exact cl5)
    refine ⟨⟨i + 1, hlt⟩, by show b.length - (i + 1) < b.length - i; omega, ?_⟩
    (first | refine Ent.ofA [] ?_ | refine Ent.ofC [] ?_) <;> (repeat' (first | exact trivial | refine HpLe.dd ?_ | refine HpLe.mk rfl (by simp) rfl (fun h => AObj.noConfusion h) ?_ ?_ | refine And.intro ?_ ?_ | exact cl9 | refine VLe.pe ?_ | refine VLe.agg ?_ | refine VLe.tup ?_ | refine VLe.fn ?_ ?_ | refine VLeL.cons ?_ ?_ | exact VLeL.nil | exact OLe.row _ _ | rfl | refine VLe.rsle rfl ?_ ?_ ?_ | refine OLe.rowe2 ?_ ?_ | refine OLe.mape ?_ ?_ | refine OLe.iter0 ?_ | refine OLe.itere ?_ ?_)) <;> try (first | (simp; done) | (congr 1; omega) | (congr 1; (first | (simp; done) | (simp; omega))))
    all_goals (refine congrArg (PV.int .u64) ?_; rw [ht]; exact or256 (n := numB (b.take i)) (by omega) x0 x1)
end Go.Proofs.Ytijkiolobmkhhaa

namespace Go.Proofs.Ytijkiolobmkhhaa
open Go Go.Sg
set_option maxRecDepth 100000
set_option maxHeartbeats 8000000
/-- So many bytes of a number. -/
def nrl (n : Nat) : Nat → Bs
  | 0 => []
  | i + 1 => ((n / 256 ^ i % 256 : Nat) : Int) :: nrl n i
theorem nrl_len (n : Nat) : ∀ i, (nrl n i).length = i
  | 0 => rfl
  | i + 1 => by rw [nrl, List.length_cons, nrl_len n i]
theorem nrl_B8 (n : Nat) : ∀ i, B8 (nrl n i)
  | 0 => fun c hc => by cases hc
  | i + 1 => fun c hc => by
    rcases List.mem_cons.1 hc with e | e
    · subst e; omega
    · exact nrl_B8 n i c e
/-- What put leaves. -/
def putB (L : Bs) (off len n : Nat) : Bs := L.take off ++ nrl n len ++ L.drop (off + len)
def putI (L : Bs) (off len n i : Nat) : Bs := L.take (off + (len - i)) ++ nrl n i ++ L.drop (off + len)
theorem putI_len {L : Bs} {off len n i : Nat} (h : off + len ≤ L.length) (hi : i ≤ len) : (putI L off len n i).length = L.length := by
  unfold putI; simp only [List.length_append, List.length_take, List.length_drop, nrl_len]; omega
theorem putI_zero {L : Bs} {off len n : Nat} : putI L off len n 0 = L := by
  unfold putI nrl; rw [List.append_nil, Nat.sub_zero, List.take_append_drop]
theorem putI_end {L : Bs} {off len n : Nat} : putI L off len n len = putB L off len n := by
  unfold putI putB; rw [Nat.sub_self, Nat.add_zero]
theorem putI_set {L : Bs} {off len n i : Nat} (h : off + len ≤ L.length) (hi : i < len) {c : Int} (hc : c = ((n / 256 ^ i % 256 : Nat) : Int)) : (putI L off len n i).set (off + (len - 1 - i)) c = putI L off len n (i + 1) := by
  have e1 : off + (len - i) = off + (len - 1 - i) + 1 := by omega
  have e2 : off + (len - (i + 1)) = off + (len - 1 - i) := by omega
  have hlt : off + (len - 1 - i) < L.length := by omega
  unfold putI
  rw [e1, e2, nrl, hc, List.take_succ_eq_append_getElem hlt, List.append_assoc, List.append_assoc, List.append_assoc, List.set_append_right _ _ (by rw [List.length_take]; omega)]
  rw [show off + (len - 1 - i) - (L.take (off + (len - 1 - i))).length = 0 by rw [List.length_take]; omega]
  rfl
theorem shrB {n i : Nat} (hi : i < 8) : IntKind.u8.wrap ((n : Int).fdiv (2 ^ min (Int.toNat (8 * (i : Int))) IntKind.u64.bits)) = ((n / 256 ^ i % 256 : Nat) : Int) := by
  have e1 : min (Int.toNat (8 * (i : Int))) IntKind.u64.bits = 8 * i := by
    show min (Int.toNat (8 * (i : Int))) 64 = 8 * i
    omega
  have e2 : (2 : Int) ^ (8 * i) = ((256 ^ i : Nat) : Int) := by
    rw [Int.natCast_pow]
    show (2 : Int) ^ (8 * i) = (2 ^ 8) ^ i
    rw [← Int.pow_mul]
  rw [e1, e2, fdiv_nat, wrap_u8]; omega
theorem put_icalls (L : Bs) (off len n : Nat) (h : off + len ≤ L.length) (hL : L.length ≤ 1000) (hn : n < 18446744073709551616) (hlen : len ≤ 8) : ICalls Try.prog 64 1 [(0, .row 1 (L.map (.int .u8)))] [.rsl 0 1 off len, .p (eU n)] (.tup []) [(0, .row 1 ((putB L off len n).map (.int .u8)))] := by
  refine ICalls.of (N := 23) (res := []) mixed Try.func64 rfl rfl rfl (by kernel_rfl) (by simp) [0, 1, 4, 6, 7, 8] (Nat.le_refl _) ?_
  repeat' (first | exact cl1 | ((with_reducible show Exists _); refine exU8 ?_) | ((fail_if_success with_reducible first | show LeG _ _ | show Lp _ _ _ _ | show Exists _ | show callX _ _ _ _ _ | show (_ : Int) ≤ _ | show (_ : Int) < _ | show (_ : Nat) ≤ _ | show (_ : Nat) < _); (conv => whnf) <;> (first | exact cl2 | refine XAlt.l ?_ | refine Sq.pr ?_ | refine Br.dec (fun hc => ?_) (fun hc => ?_) | refine Br.tt ?_ | refine Br.ff ?_ | refine Br.not ?_ | refine Br.mk (fun hc => ?_) (fun hc => ?_) | refine Opt.nn ?_ | refine Opt.ss ?_ | refine AltA.l ?_ | exact PV.leL_nil | refine PV.leL_cons ?_ ?_ | refine And.intro ?_ ?_ | refine ix_map (fun x hx => ?_) | refine exU8 ?_ | refine nilc (fun hn => ?_) ?_ | exact cl3 | refine imp0 (fun hpos => ?_) | refine fits_i64 ?_ ?_ | exact rfl | (with_reducible first | show LeG _ _ | show Lp _ _ _ _ | show Exists _ | show callX _ _ _ _ _)))) <;> (try exact cl5)
  refine Wpc.loopA (α := {i : Nat // i ≤ len}) mixed [0, 1, 4, 6, 7, 8] (fun i => [(7, .p (eI i.1))]) (fun i => [(0, .row 1 ((putI L off len n i.1).map (.int .u8)))]) (fun _ => 0) (fun i => len - i.1) ⟨0, by omega⟩ ?_ ?_
  · (refine Ent.ofAK [] ?_) <;> (repeat' (first | exact trivial | refine HpLe.dd ?_ | refine HpLe.mk rfl (by simp) rfl (fun h => AObj.noConfusion h) ?_ ?_ | refine And.intro ?_ ?_ | exact cl9 | refine VLe.pe ?_ | refine VLe.agg ?_ | refine VLe.tup ?_ | refine VLe.fn ?_ ?_ | refine VLeL.cons ?_ ?_ | exact VLeL.nil | exact OLe.row _ _ | rfl | refine VLe.rsle rfl ?_ ?_ ?_ | refine OLe.rowe2 ?_ ?_ | refine OLe.mape ?_ ?_ | refine OLe.iter0 ?_ | refine OLe.itere ?_ ?_)) <;> try (first | (simp; done) | (congr 1; omega) | (congr 1; (first | (simp; done) | (simp; omega))))
    all_goals (dsimp only; rw [putI_zero])
  rintro ⟨i, hi⟩
  have hi : i ≤ len := hi
  have hpl := putI_len (n := n) h hi
  by_cases hlt : i < len
  · have hyes : ((i : Int) < (len : Int)) := by omega
    repeat' (first | exact cl1 | ((with_reducible show Exists _); refine exU8 ?_) | ((fail_if_success with_reducible first | show LeG _ _ | show Lp _ _ _ _ | show Exists _ | show callX _ _ _ _ _ | show (_ : Int) ≤ _ | show (_ : Int) < _ | show (_ : Nat) ≤ _ | show (_ : Nat) < _); (conv => whnf) <;> (first | exact cl2 | refine Br.dec (fun hc => ?_) (fun hc => absurd hyes hc) | refine XAlt.l ?_ | refine Sq.pr ?_ | refine Br.dec (fun hc => ?_) (fun hc => ?_) | refine Br.tt ?_ | refine Br.ff ?_ | refine Br.not ?_ | refine Br.mk (fun hc => ?_) (fun hc => ?_) | refine Opt.nn ?_ | refine Opt.ss ?_ | refine AltA.l ?_ | exact PV.leL_nil | refine PV.leL_cons ?_ ?_ | refine And.intro ?_ ?_ | refine ix_map (fun x hx => ?_) | refine exU8 ?_ | refine nilc (fun hn => ?_) ?_ | exact cl3 | refine imp0 (fun hpos => ?_) | refine fits_i64 ?_ ?_ | exact rfl | (with_reducible first | show LeG _ _ | show Lp _ _ _ _ | show Exists _ | show callX _ _ _ _ _)))) <;> (try exact cl5)
    refine ⟨⟨i + 1, hlt⟩, by show len - (i + 1) < len - i; omega, ?_⟩
    (refine Ent.ofAK [] ?_) <;> (repeat' (first | exact trivial | refine HpLe.dd ?_ | refine HpLe.mk rfl (by simp) rfl (fun h => AObj.noConfusion h) ?_ ?_ | refine And.intro ?_ ?_ | exact cl9 | refine VLe.pe ?_ | refine VLe.agg ?_ | refine VLe.tup ?_ | refine VLe.fn ?_ ?_ | refine VLeL.cons ?_ ?_ | exact VLeL.nil | exact OLe.row _ _ | rfl | refine VLe.rsle rfl ?_ ?_ ?_ | refine OLe.rowe2 ?_ ?_ | refine OLe.mape ?_ ?_ | refine OLe.iter0 ?_ | refine OLe.itere ?_ ?_)) <;> try (first | (simp; done) | (congr 1; omega) | (congr 1; (first | (simp; done) | (simp; omega))))
    all_goals (show ((putI L off len n i).map (PV.int .u8)).set (off + ((len : Int) - 1 - (i : Int)).toNat) (PV.int .u8 (IntKind.u8.wrap ((n : Int).fdiv (2 ^ min (Int.toNat (8 * (i : Int))) IntKind.u64.bits)))) = (putI L off len n (i + 1)).map (PV.int .u8))
    all_goals rw [← putI_set h hlt (shrB (by omega)), List.map_set, show ((len : Int) - 1 - (i : Int)).toNat = len - 1 - i by omega]
  · have hno : ¬ ((i : Int) < (len : Int)) := by omega
    have e : i = len := by omega
    subst e
    repeat' (first | exact cl1 | ((with_reducible show Exists _); refine exU8 ?_) | ((fail_if_success with_reducible first | show LeG _ _ | show Lp _ _ _ _ | show Exists _ | show callX _ _ _ _ _ | show (_ : Int) ≤ _ | show (_ : Int) < _ | show (_ : Nat) ≤ _ | show (_ : Nat) < _); (conv => whnf) <;> (first | exact cl2 | refine Br.dec (fun hc => absurd hc hno) (fun hc => ?_) | refine XAlt.l ?_ | refine Sq.pr ?_ | refine Br.dec (fun hc => ?_) (fun hc => ?_) | refine Br.tt ?_ | refine Br.ff ?_ | refine Br.not ?_ | refine Br.mk (fun hc => ?_) (fun hc => ?_) | refine Opt.nn ?_ | refine Opt.ss ?_ | refine AltA.l ?_ | exact PV.leL_nil | refine PV.leL_cons ?_ ?_ | refine And.intro ?_ ?_ | refine ix_map (fun x hx => ?_) | refine exU8 ?_ | refine nilc (fun hn => ?_) ?_ | exact cl3 | refine imp0 (fun hpos => ?_) | refine fits_i64 ?_ ?_ | exact rfl | (with_reducible first | show LeG _ _ | show Lp _ _ _ _ | show Exists _ | show callX _ _ _ _ _)))) <;> (try exact cl5)
    refine ⟨[], [(0, 0)], ?_, ?_, by decide, by simp, fun i hi => by match i, hi with | 0, _ => rfl⟩ <;> (repeat' (first | exact trivial | refine HpLe.dd ?_ | refine HpLe.mk rfl (by simp) rfl (fun h => AObj.noConfusion h) ?_ ?_ | refine And.intro ?_ ?_ | exact cl9 | refine VLe.pe ?_ | refine VLe.agg ?_ | refine VLe.tup ?_ | refine VLe.fn ?_ ?_ | refine VLeL.cons ?_ ?_ | exact VLeL.nil | exact OLe.row _ _ | rfl | refine VLe.rsle rfl ?_ ?_ ?_ | refine OLe.rowe2 ?_ ?_ | refine OLe.mape ?_ ?_ | refine OLe.iter0 ?_ | refine OLe.itere ?_ ?_))
    all_goals (dsimp only; rw [putI_end])
end Go.Proofs.Ytijkiolobmkhhaa
