/- A part of the proof: contracts of the functions that the statement reaches. -/
import Derived.Test.YtijkiolobmkhhaaChp0
set_option linter.unusedSimpArgs false
set_option linter.unusedVariables false
set_option linter.unnecessarySimpa false
namespace Go.Proofs.Ytijkiolobmkhhaa
open Go Go.Sg
set_option maxRecDepth 100000
set_option maxHeartbeats 8000000
/-! ### The checksum -/
def crc1 (n : Nat) : Nat := if n % 2 = 1 then (n / 2) ^^^ 3988292384 else n / 2
theorem xor_lt32 {a b : Nat} (ha : a < 4294967296) (hb : b < 4294967296) : a ^^^ b < 4294967296 := Nat.xor_lt_two_pow (n := 32) ha hb
theorem crc1_lt {n : Nat} (h : n < 4294967296) : crc1 n < 4294967296 := by
  unfold crc1
  split
  · exact xor_lt32 (by omega) (by decide)
  · omega
def crcI (m : Nat) : Nat → Nat
  | 0 => m
  | k + 1 => crc1 (crcI m k)
theorem crcI_lt {m : Nat} (h : m < 4294967296) : ∀ k, crcI m k < 4294967296
  | 0 => h
  | k + 1 => crc1_lt (crcI_lt h k)
def crcB (n c : Nat) : Nat := crcI (n ^^^ c) 8
def crcL (n : Nat) (b : Bs) : Nat := b.foldl (fun n c => crcB n c.toNat) n
theorem crcB_lt {n c : Nat} (h : n < 4294967296) (hc : c ≤ 255) : crcB n c < 4294967296 := crcI_lt (xor_lt32 h (by omega)) 8
theorem crcL_lt : ∀ (b : Bs) {n : Nat}, n < 4294967296 → B8 b → crcL n b < 4294967296
  | [], _, h, _ => h
  | c :: r, n, h, hb => by
    have := hb c (by simp)
    exact crcL_lt r (crcB_lt h (by omega)) (fun x hx => hb x (by simp [hx]))
theorem crcL_take {b : Bs} {i n : Nat} {c : Int} (h : b[i]? = some c) : crcL n (b.take (i + 1)) = crcB (crcL n (b.take i)) c.toNat := by
  rw [List.take_add_one, h]; unfold crcL; simp [List.foldl_append]
def sumB (b : Bs) : Nat := 4294967295 - crcL 4294967295 b
theorem sumB_lt (b : Bs) : sumB b < 4294967296 := by unfold sumB; omega
theorem shr1 {n : Nat} (h : n < 4294967296) : ((n : Int).fdiv (2 ^ min (Int.toNat 1) IntKind.u32.bits)) = ((n / 2 : Nat) : Int) := fdiv_nat n 2
theorem and1 {n : Nat} (h : n < 4294967296) : bitsI .and .u32 (n : Int) 1 = ((n % 2 : Nat) : Int) := by
  have := bits_and (k := .u32) (a := n) (b := 1) rfl h (by decide)
  rw [Nat.and_one_is_mod] at this
  exact this
theorem crc_impl {n : Nat} (h : n < 4294967296) : bitsI .xor .u32 ((n : Int).fdiv (2 ^ min (Int.toNat 1) IntKind.u32.bits)) (3988292384 * bitsI .and .u32 (n : Int) 1) = ((crc1 n : Nat) : Int) := by
  rw [shr1 h, and1 h]
  unfold crc1
  rcases Nat.mod_two_eq_zero_or_one n with e | e
  · rw [e, if_neg (by decide)]
    have := bits_xor (k := .u32) (a := n / 2) (b := 0) rfl (by show _ < 4294967296; omega) (by decide)
    rw [Nat.xor_zero] at this
    exact this
  · rw [e, if_pos rfl]
    exact bits_xor (k := .u32) (a := n / 2) (b := 3988292384) rfl (by show _ < 4294967296; omega) (by decide)
theorem crc_odd {n : Nat} (h : n < 4294967296) (e : n % 2 = 1) : bitsI .xor .u32 ((n : Int).fdiv (2 ^ min (Int.toNat 1) IntKind.u32.bits)) 3988292384 = ((crc1 n : Nat) : Int) := by
  rw [shr1 h]
  unfold crc1
  rw [if_pos e]
  exact bits_xor (k := .u32) (a := n / 2) (b := 3988292384) rfl (by show _ < 4294967296; omega) (by decide)
theorem crc_even {n : Nat} (h : n < 4294967296) (e : ¬ n % 2 = 1) : ((n : Int).fdiv (2 ^ min (Int.toNat 1) IntKind.u32.bits)) = ((crc1 n : Nat) : Int) := by
  rw [shr1 h]
  unfold crc1
  rw [if_neg e]
theorem crc_xor {n : Nat} {c : Int} (h : n < 4294967296) (h0 : 0 ≤ c) (h1 : c ≤ 255) : bitsI .xor .u32 (n : Int) (IntKind.u32.wrap c) = ((n ^^^ c.toNat : Nat) : Int) := by
  have e : IntKind.u32.wrap c = ((c.toNat : Nat) : Int) := by rw [wrap_u32]; omega
  rw [e]
  exact bits_xor (k := .u32) rfl h (by show _ < 4294967296; omega)
theorem crc_fin {n : Nat} (h : n < 4294967296) : bitsI .xor .u32 (n : Int) 4294967295 = ((4294967295 - n : Nat) : Int) := by
  have := bits_xor (k := .u32) (a := n) (b := 4294967295) rfl h (by decide)
  rw [show (4294967295 : Nat) = 2 ^ 32 - 1 from rfl, xor_ones h] at this
  exact this
theorem crc_fin' {n : Nat} (h : n < 4294967296) : bitsI .xor .u32 (if IntKind.u32.signed then -1 else IntKind.u32.max) (n : Int) = ((4294967295 - n : Nat) : Int) := by
  have := bits_xor (k := .u32) (a := 4294967295) (b := n) rfl (by decide) h
  rw [Nat.xor_comm, show (4294967295 : Nat) = 2 ^ 32 - 1 from rfl, xor_ones h] at this
  exact this
theorem sum_calls (b : Bs) (hb : B8 b) (hl : b.length ≤ 1000000) : PCalls Try.prog 65 [eB b] (eV (sumB b)) := by
  refine PCalls.of (N := 28) (res := [.tmp 2]) mixed Try.func65 rfl rfl rfl (by kernel_rfl) (by simp) [0, 2, 3, 5, 6, 7, 8, 9, 16, 17] ?_
  repeat' (first | exact cl1 | ((with_reducible show Exists _); refine exU8 ?_) | ((fail_if_success with_reducible first | show LeG _ _ | show Lp _ _ _ _ | show Exists _ | show callX _ _ _ _ _ | show (_ : Int) ≤ _ | show (_ : Int) < _ | show (_ : Nat) ≤ _ | show (_ : Nat) < _); (conv => whnf) <;> (first | exact cl2 | refine XAlt.l ?_ | refine Sq.pr ?_ | refine Br.dec (fun hc => ?_) (fun hc => ?_) | refine Br.tt ?_ | refine Br.ff ?_ | refine Br.not ?_ | refine Br.mk (fun hc => ?_) (fun hc => ?_) | refine Opt.nn ?_ | refine Opt.ss ?_ | refine AltA.l ?_ | exact PV.leL_nil | refine PV.leL_cons ?_ ?_ | refine And.intro ?_ ?_ | refine ix_map (fun x hx => ?_) | refine exU8 ?_ | refine nilc (fun hn => ?_) ?_ | exact cl3 | refine imp0 (fun hpos => ?_) | refine fits_i64 ?_ ?_ | exact rfl | (with_reducible first | show LeG _ _ | show Lp _ _ _ _ | show Exists _ | show callX _ _ _ _ _)))) <;> (try exact cl5)
  refine Wpc.loopB (α := {i : Nat // i ≤ b.length}) mixed [0, 2, 3, 5, 6, 7, 8, 9, 16, 17] (fun i => [(3, .p (eV (crcL 4294967295 (b.take i.1)))), (8, .p (eI i.1))]) (fun i => b.length - i.1) ⟨0, by omega⟩ ?_ ?_
  · (first | refine Ent.ofA [] ?_ | refine Ent.ofC [] ?_) <;> (repeat' (first | exact trivial | refine HpLe.dd ?_ | refine HpLe.mk rfl (by simp) rfl (fun h => AObj.noConfusion h) ?_ ?_ | refine And.intro ?_ ?_ | exact cl9 | refine VLe.pe ?_ | refine VLe.agg ?_ | refine VLe.tup ?_ | refine VLe.fn ?_ ?_ | refine VLeL.cons ?_ ?_ | exact VLeL.nil | exact OLe.row _ _ | rfl | refine VLe.rsle rfl ?_ ?_ ?_ | refine OLe.rowe2 ?_ ?_ | refine OLe.mape ?_ ?_ | refine OLe.iter0 ?_ | refine OLe.itere ?_ ?_)) <;> try (first | (simp; done) | (congr 1; omega) | (congr 1; (first | (simp; done) | (simp; omega))))
  rintro ⟨i, hi⟩
  have hi : i ≤ b.length := hi
  have hcl := crcL_lt (b.take i) (n := 4294967295) (by decide) (hb.take i)
  cases hxi : b[i]? with
  | none =>
    have hge : b.length ≤ i := List.getElem?_eq_none_iff.1 hxi
    have hno : ¬ ((i : Int) < ((b.map (PV.int .u8)).length : Int)) := by rw [List.length_map]; omega
    rw [List.take_of_length_le hge] at hcl ⊢
    repeat' (first | exact cl1 | ((with_reducible show Exists _); refine exU8 ?_) | ((fail_if_success with_reducible first | show LeG _ _ | show Lp _ _ _ _ | show Exists _ | show callX _ _ _ _ _ | show (_ : Int) ≤ _ | show (_ : Int) < _ | show (_ : Nat) ≤ _ | show (_ : Nat) < _); (conv => whnf) <;> (first | exact cl2 | refine Br.dec (fun hc => absurd hc hno) (fun hc => ?_) | refine XAlt.l ?_ | refine Sq.pr ?_ | refine Br.dec (fun hc => ?_) (fun hc => ?_) | refine Br.tt ?_ | refine Br.ff ?_ | refine Br.not ?_ | refine Br.mk (fun hc => ?_) (fun hc => ?_) | refine Opt.nn ?_ | refine Opt.ss ?_ | refine AltA.l ?_ | exact PV.leL_nil | refine PV.leL_cons ?_ ?_ | refine And.intro ?_ ?_ | refine ix_map (fun x hx => ?_) | refine exU8 ?_ | refine nilc (fun hn => ?_) ?_ | exact cl3 | refine imp0 (fun hpos => ?_) | refine fits_i64 ?_ ?_ | exact rfl | (with_reducible first | show LeG _ _ | show Lp _ _ _ _ | show Exists _ | show callX _ _ _ _ _)))) <;> (try exact cl5)
    all_goals exact LeG.of (congrArg (PV.int .u32) (crc_fin' hcl))
  | some x =>
    have hlt : i < b.length := (List.getElem?_eq_some_iff.1 hxi).1
    have hyes : ((i : Int) < ((b.map (PV.int .u8)).length : Int)) := by rw [List.length_map]; omega
    obtain ⟨x0, x1⟩ := hb.get hxi
    have ht := crcL_take (n := 4294967295) hxi
    have hm := xor_lt32 hcl (show x.toNat < 4294967296 by omega)
    repeat' (first | exact cl1 | ((with_reducible show Exists _); refine exU8 ?_) | ((fail_if_success with_reducible first | show LeG _ _ | show Lp _ _ _ _ | show Exists _ | show callX _ _ _ _ _ | show (_ : Int) ≤ _ | show (_ : Int) < _ | show (_ : Nat) ≤ _ | show (_ : Nat) < _); (conv => whnf) <;> (first | exact cl2 | refine Br.dec (fun hc => ?_) (fun hc => absurd hyes hc) | refine ix_c hxi ?_ | refine XAlt.l ?_ | refine Sq.pr ?_ | refine Br.dec (fun hc => ?_) (fun hc => ?_) | refine Br.tt ?_ | refine Br.ff ?_ | refine Br.not ?_ | refine Br.mk (fun hc => ?_) (fun hc => ?_) | refine Opt.nn ?_ | refine Opt.ss ?_ | refine AltA.l ?_ | exact PV.leL_nil | refine PV.leL_cons ?_ ?_ | refine And.intro ?_ ?_ | refine ix_map (fun x hx => ?_) | refine exU8 ?_ | refine nilc (fun hn => ?_) ?_ | exact cl3 | refine imp0 (fun hpos => ?_) | refine fits_i64 ?_ ?_ | exact rfl | (with_reducible first | show LeG _ _ | show Lp _ _ _ _ | show Exists _ | show callX _ _ _ _ _)))) <;> (try exact cl5)
    refine Wpc.loopB (α := {k : Nat // k ≤ 8}) mixed [0, 2, 3, 5, 6, 7, 8, 9, 16, 17] (fun k => [(3, .p (eV (crcI (crcL 4294967295 (b.take i) ^^^ x.toNat) k.1))), (16, .p (eI k.1))]) (fun k => 8 - k.1) ⟨0, by omega⟩ ?_ ?_
    · (first | refine Ent.ofA [] ?_ | refine Ent.ofC [] ?_) <;> (repeat' (first | exact trivial | refine HpLe.dd ?_ | refine HpLe.mk rfl (by simp) rfl (fun h => AObj.noConfusion h) ?_ ?_ | refine And.intro ?_ ?_ | exact cl9 | refine VLe.pe ?_ | refine VLe.agg ?_ | refine VLe.tup ?_ | refine VLe.fn ?_ ?_ | refine VLeL.cons ?_ ?_ | exact VLeL.nil | exact OLe.row _ _ | rfl | refine VLe.rsle rfl ?_ ?_ ?_ | refine OLe.rowe2 ?_ ?_ | refine OLe.mape ?_ ?_ | refine OLe.iter0 ?_ | refine OLe.itere ?_ ?_)) <;> try (first | (simp; done) | (congr 1; omega) | (congr 1; (first | (simp; done) | (simp; omega))))
      all_goals exact congrArg (PV.int .u32) (crc_xor hcl x0 x1)
    rintro ⟨k, hk⟩
    have hk : k ≤ 8 := hk
    have hkl := crcI_lt hm k
    by_cases h8 : k < 8
    · have h8' : (k : Int) < 8 := by omega
      repeat' (first | exact cl1 | ((with_reducible show Exists _); refine exU8 ?_) | ((fail_if_success with_reducible first | show LeG _ _ | show Lp _ _ _ _ | show Exists _ | show callX _ _ _ _ _ | show (_ : Int) ≤ _ | show (_ : Int) < _ | show (_ : Nat) ≤ _ | show (_ : Nat) < _); (conv => whnf) <;> (first | exact cl2 | refine Br.dec (fun hc => ?_) (fun hc => absurd h8' hc) | refine XAlt.l ?_ | refine Sq.pr ?_ | refine Br.dec (fun hc => ?_) (fun hc => ?_) | refine Br.tt ?_ | refine Br.ff ?_ | refine Br.not ?_ | refine Br.mk (fun hc => ?_) (fun hc => ?_) | refine Opt.nn ?_ | refine Opt.ss ?_ | refine AltA.l ?_ | exact PV.leL_nil | refine PV.leL_cons ?_ ?_ | refine And.intro ?_ ?_ | refine ix_map (fun x hx => ?_) | refine exU8 ?_ | refine nilc (fun hn => ?_) ?_ | exact cl3 | refine imp0 (fun hpos => ?_) | refine fits_i64 ?_ ?_ | exact rfl | (with_reducible first | show LeG _ _ | show Lp _ _ _ _ | show Exists _ | show callX _ _ _ _ _)))) <;> (try exact cl5)
      · show Fits .u32 (3988292384 * bitsI .and .u32 ((crcI (crcL 4294967295 (b.take i) ^^^ x.toNat) k : Nat) : Int) 1)
        rw [and1 hkl]; exact fits_u32 (by omega) (by omega)
      refine ⟨⟨k + 1, h8⟩, by show 8 - (k + 1) < 8 - k; omega, ?_⟩
      (first | refine Ent.ofA [] ?_ | refine Ent.ofC [] ?_) <;> (repeat' (first | exact trivial | refine HpLe.dd ?_ | refine HpLe.mk rfl (by simp) rfl (fun h => AObj.noConfusion h) ?_ ?_ | refine And.intro ?_ ?_ | exact cl9 | refine VLe.pe ?_ | refine VLe.agg ?_ | refine VLe.tup ?_ | refine VLe.fn ?_ ?_ | refine VLeL.cons ?_ ?_ | exact VLeL.nil | exact OLe.row _ _ | rfl | refine VLe.rsle rfl ?_ ?_ ?_ | refine OLe.rowe2 ?_ ?_ | refine OLe.mape ?_ ?_ | refine OLe.iter0 ?_ | refine OLe.itere ?_ ?_)) <;> try (first | (simp; done) | (congr 1; omega) | (congr 1; (first | (simp; done) | (simp; omega))))
      all_goals exact congrArg (PV.int .u32) (crc_impl hkl)
    · have h8' : ¬ (k : Int) < 8 := by omega
      have h8e : k = 8 := by omega
      repeat' (first | exact cl1 | ((with_reducible show Exists _); refine exU8 ?_) | ((fail_if_success with_reducible first | show LeG _ _ | show Lp _ _ _ _ | show Exists _ | show callX _ _ _ _ _ | show (_ : Int) ≤ _ | show (_ : Int) < _ | show (_ : Nat) ≤ _ | show (_ : Nat) < _); (conv => whnf) <;> (first | exact cl2 | refine Br.dec (fun hc => absurd hc h8') (fun hc => ?_) | refine XAlt.l ?_ | refine Sq.pr ?_ | refine Br.dec (fun hc => ?_) (fun hc => ?_) | refine Br.tt ?_ | refine Br.ff ?_ | refine Br.not ?_ | refine Br.mk (fun hc => ?_) (fun hc => ?_) | refine Opt.nn ?_ | refine Opt.ss ?_ | refine AltA.l ?_ | exact PV.leL_nil | refine PV.leL_cons ?_ ?_ | refine And.intro ?_ ?_ | refine ix_map (fun x hx => ?_) | refine exU8 ?_ | refine nilc (fun hn => ?_) ?_ | exact cl3 | refine imp0 (fun hpos => ?_) | refine fits_i64 ?_ ?_ | exact rfl | (with_reducible first | show LeG _ _ | show Lp _ _ _ _ | show Exists _ | show callX _ _ _ _ _)))) <;> (try exact cl5)
      refine ⟨⟨i + 1, hlt⟩, by show b.length - (i + 1) < b.length - i; omega, ?_⟩
      (first | refine Ent.ofA [] ?_ | refine Ent.ofC [] ?_) <;> (repeat' (first | exact trivial | refine HpLe.dd ?_ | refine HpLe.mk rfl (by simp) rfl (fun h => AObj.noConfusion h) ?_ ?_ | refine And.intro ?_ ?_ | exact cl9 | refine VLe.pe ?_ | refine VLe.agg ?_ | refine VLe.tup ?_ | refine VLe.fn ?_ ?_ | refine VLeL.cons ?_ ?_ | exact VLeL.nil | exact OLe.row _ _ | rfl | refine VLe.rsle rfl ?_ ?_ ?_ | refine OLe.rowe2 ?_ ?_ | refine OLe.mape ?_ ?_ | refine OLe.iter0 ?_ | refine OLe.itere ?_ ?_)) <;> try (first | (simp; done) | (congr 1; omega) | (congr 1; (first | (simp; done) | (simp; omega))))
      all_goals (dsimp only; rw [ht, h8e]; rfl)
theorem checksum_calls (b : Bs) (hb : B8 b) (hl : b.length ≤ 1000000) : PCalls Try.prog 67 [eB b] (eV (sumB b)) := by
  refine PCalls.of (N := 33) (res := [.tmp 2]) mixed Try.func67 rfl rfl rfl (by kernel_rfl) (by simp) [0, 2, 3, 4, 5, 9, 20, 25] ?_
  repeat' (first | exact cl1 | ((with_reducible show Exists _); refine exU8 ?_) | ((fail_if_success with_reducible first | show LeG _ _ | show Lp _ _ _ _ | show Exists _ | show callX _ _ _ _ _ | show (_ : Int) ≤ _ | show (_ : Int) < _ | show (_ : Nat) ≤ _ | show (_ : Nat) < _); (conv => whnf) <;> (first | exact cl2 | refine XAlt.l ?_ | refine Sq.pr ?_ | refine Br.dec (fun hc => ?_) (fun hc => ?_) | refine Br.tt ?_ | refine Br.ff ?_ | refine Br.not ?_ | refine Br.mk (fun hc => ?_) (fun hc => ?_) | refine Opt.nn ?_ | refine Opt.ss ?_ | refine AltA.l ?_ | exact PV.leL_nil | refine PV.leL_cons ?_ ?_ | refine And.intro ?_ ?_ | refine ix_map (fun x hx => ?_) | refine exU8 ?_ | refine nilc (fun hn => ?_) ?_ | exact cl3 | refine imp0 (fun hpos => ?_) | refine fits_i64 ?_ ?_ | exact rfl | (with_reducible first | show LeG _ _ | show Lp _ _ _ _ | show Exists _ | show callX _ _ _ _ _)))) <;> (try exact cl5)
  refine Wpc.loopB (α := {i : Nat // i ≤ b.length}) mixed [0, 2, 3, 4, 5, 9, 20, 25] (fun i => [(3, .p (eV (crcL 4294967295 (b.take i.1)))), (4, .p (eI i.1))]) (fun i => b.length - i.1) ⟨0, by omega⟩ ?_ ?_
  · (first | refine Ent.ofA [] ?_ | refine Ent.ofC [] ?_) <;> (repeat' (first | exact trivial | refine HpLe.dd ?_ | refine HpLe.mk rfl (by simp) rfl (fun h => AObj.noConfusion h) ?_ ?_ | refine And.intro ?_ ?_ | exact cl9 | refine VLe.pe ?_ | refine VLe.agg ?_ | refine VLe.tup ?_ | refine VLe.fn ?_ ?_ | refine VLeL.cons ?_ ?_ | exact VLeL.nil | exact OLe.row _ _ | rfl | refine VLe.rsle rfl ?_ ?_ ?_ | refine OLe.rowe2 ?_ ?_ | refine OLe.mape ?_ ?_ | refine OLe.iter0 ?_ | refine OLe.itere ?_ ?_)) <;> try (first | (simp; done) | (congr 1; omega) | (congr 1; (first | (simp; done) | (simp; omega))))
  rintro ⟨i, hi⟩
  have hi : i ≤ b.length := hi
  have hcl := crcL_lt (b.take i) (n := 4294967295) (by decide) (hb.take i)
  cases hxi : b[i]? with
  | none =>
    have hge : b.length ≤ i := List.getElem?_eq_none_iff.1 hxi
    have hno : ¬ ((i : Int) < ((b.map (PV.int .u8)).length : Int)) := by rw [List.length_map]; omega
    rw [List.take_of_length_le hge] at hcl ⊢
    repeat' (first | exact cl1 | ((with_reducible show Exists _); refine exU8 ?_) | ((fail_if_success with_reducible first | show LeG _ _ | show Lp _ _ _ _ | show Exists _ | show callX _ _ _ _ _ | show (_ : Int) ≤ _ | show (_ : Int) < _ | show (_ : Nat) ≤ _ | show (_ : Nat) < _); (conv => whnf) <;> (first | exact cl2 | refine Br.dec (fun hc => absurd hc hno) (fun hc => ?_) | refine XAlt.l ?_ | refine Sq.pr ?_ | refine Br.dec (fun hc => ?_) (fun hc => ?_) | refine Br.tt ?_ | refine Br.ff ?_ | refine Br.not ?_ | refine Br.mk (fun hc => ?_) (fun hc => ?_) | refine Opt.nn ?_ | refine Opt.ss ?_ | refine AltA.l ?_ | exact PV.leL_nil | refine PV.leL_cons ?_ ?_ | refine And.intro ?_ ?_ | refine ix_map (fun x hx => ?_) | refine exU8 ?_ | refine nilc (fun hn => ?_) ?_ | exact cl3 | refine imp0 (fun hpos => ?_) | refine fits_i64 ?_ ?_ | exact rfl | (with_reducible first | show LeG _ _ | show Lp _ _ _ _ | show Exists _ | show callX _ _ _ _ _)))) <;> (try exact cl5)
    all_goals exact LeG.of (congrArg (PV.int .u32) (crc_fin hcl))
  | some x =>
    have hlt : i < b.length := (List.getElem?_eq_some_iff.1 hxi).1
    have hyes : ((i : Int) < ((b.map (PV.int .u8)).length : Int)) := by rw [List.length_map]; omega
    obtain ⟨x0, x1⟩ := hb.get hxi
    have ht := crcL_take (n := 4294967295) hxi
    have hm := xor_lt32 hcl (show x.toNat < 4294967296 by omega)
    repeat' (first | exact cl1 | ((with_reducible show Exists _); refine exU8 ?_) | ((fail_if_success with_reducible first | show LeG _ _ | show Lp _ _ _ _ | show Exists _ | show callX _ _ _ _ _ | show (_ : Int) ≤ _ | show (_ : Int) < _ | show (_ : Nat) ≤ _ | show (_ : Nat) < _); (conv => whnf) <;> (first | exact cl2 | refine Br.dec (fun hc => ?_) (fun hc => absurd hyes hc) | refine ix_c hxi ?_ | refine XAlt.l ?_ | refine Sq.pr ?_ | refine Br.dec (fun hc => ?_) (fun hc => ?_) | refine Br.tt ?_ | refine Br.ff ?_ | refine Br.not ?_ | refine Br.mk (fun hc => ?_) (fun hc => ?_) | refine Opt.nn ?_ | refine Opt.ss ?_ | refine AltA.l ?_ | exact PV.leL_nil | refine PV.leL_cons ?_ ?_ | refine And.intro ?_ ?_ | refine ix_map (fun x hx => ?_) | refine exU8 ?_ | refine nilc (fun hn => ?_) ?_ | exact cl3 | refine imp0 (fun hpos => ?_) | refine fits_i64 ?_ ?_ | exact rfl | (with_reducible first | show LeG _ _ | show Lp _ _ _ _ | show Exists _ | show callX _ _ _ _ _)))) <;> (try exact cl5)
    refine Wpc.loopB (α := {k : Nat // k ≤ 8}) mixed [0, 2, 3, 4, 5, 9, 20, 25] (fun k => [(3, .p (eV (crcI (crcL 4294967295 (b.take i) ^^^ x.toNat) k.1))), (5, .p (eI k.1))]) (fun k => 8 - k.1) ⟨0, by omega⟩ ?_ ?_
    · (first | refine Ent.ofA [] ?_ | refine Ent.ofC [] ?_) <;> (repeat' (first | exact trivial | refine HpLe.dd ?_ | refine HpLe.mk rfl (by simp) rfl (fun h => AObj.noConfusion h) ?_ ?_ | refine And.intro ?_ ?_ | exact cl9 | refine VLe.pe ?_ | refine VLe.agg ?_ | refine VLe.tup ?_ | refine VLe.fn ?_ ?_ | refine VLeL.cons ?_ ?_ | exact VLeL.nil | exact OLe.row _ _ | rfl | refine VLe.rsle rfl ?_ ?_ ?_ | refine OLe.rowe2 ?_ ?_ | refine OLe.mape ?_ ?_ | refine OLe.iter0 ?_ | refine OLe.itere ?_ ?_)) <;> try (first | (simp; done) | (congr 1; omega) | (congr 1; (first | (simp; done) | (simp; omega))))
      all_goals exact congrArg (PV.int .u32) (crc_xor hcl x0 x1)
    rintro ⟨k, hk⟩
    have hk : k ≤ 8 := hk
    have hkl := crcI_lt hm k
    by_cases h8 : k < 8
    · have h8' : (k : Int) < 8 := by omega
      have hq : ((crcI (crcL 4294967295 (b.take i) ^^^ x.toNat) k : Nat) : Int).tmod 2 = ((crcI (crcL 4294967295 (b.take i) ^^^ x.toNat) k % 2 : Nat) : Int) := by
        rw [Int.tmod_eq_emod_of_nonneg (by omega)]; omega
      repeat' (first | exact cl1 | ((with_reducible show Exists _); refine exU8 ?_) | ((fail_if_success with_reducible first | show LeG _ _ | show Lp _ _ _ _ | show Exists _ | show callX _ _ _ _ _ | show (_ : Int) ≤ _ | show (_ : Int) < _ | show (_ : Nat) ≤ _ | show (_ : Nat) < _); (conv => whnf) <;> (first | exact cl2 | refine Br.dec (fun hc => ?_) (fun hc => absurd h8' hc) | refine XAlt.l ?_ | refine Sq.pr ?_ | refine Br.dec (fun hc => ?_) (fun hc => ?_) | refine Br.tt ?_ | refine Br.ff ?_ | refine Br.not ?_ | refine Br.mk (fun hc => ?_) (fun hc => ?_) | refine Opt.nn ?_ | refine Opt.ss ?_ | refine AltA.l ?_ | exact PV.leL_nil | refine PV.leL_cons ?_ ?_ | refine And.intro ?_ ?_ | refine ix_map (fun x hx => ?_) | refine exU8 ?_ | refine nilc (fun hn => ?_) ?_ | exact cl3 | refine imp0 (fun hpos => ?_) | refine fits_i64 ?_ ?_ | exact rfl | (with_reducible first | show LeG _ _ | show Lp _ _ _ _ | show Exists _ | show callX _ _ _ _ _)))) <;> (try exact cl5)
      · have hcc : ((crcI (crcL 4294967295 (b.take i) ^^^ x.toNat) k : Nat) : Int).tmod 2 = 1 := hc
        rw [hq] at hcc
        refine ⟨⟨k + 1, h8⟩, by show 8 - (k + 1) < 8 - k; omega, ?_⟩
        (first | refine Ent.ofA [] ?_ | refine Ent.ofC [] ?_) <;> (repeat' (first | exact trivial | refine HpLe.dd ?_ | refine HpLe.mk rfl (by simp) rfl (fun h => AObj.noConfusion h) ?_ ?_ | refine And.intro ?_ ?_ | exact cl9 | refine VLe.pe ?_ | refine VLe.agg ?_ | refine VLe.tup ?_ | refine VLe.fn ?_ ?_ | refine VLeL.cons ?_ ?_ | exact VLeL.nil | exact OLe.row _ _ | rfl | refine VLe.rsle rfl ?_ ?_ ?_ | refine OLe.rowe2 ?_ ?_ | refine OLe.mape ?_ ?_ | refine OLe.iter0 ?_ | refine OLe.itere ?_ ?_)) <;> try (first | (simp; done) | (congr 1; omega) | (congr 1; (first | (simp; done) | (simp; omega))))
        all_goals exact congrArg (PV.int .u32) (crc_odd hkl (show crcI (crcL 4294967295 (b.take i) ^^^ x.toNat) k % 2 = 1 by omega))
      · have hcc : ¬ ((crcI (crcL 4294967295 (b.take i) ^^^ x.toNat) k : Nat) : Int).tmod 2 = 1 := hc
        rw [hq] at hcc
        refine ⟨⟨k + 1, h8⟩, by show 8 - (k + 1) < 8 - k; omega, ?_⟩
        (first | refine Ent.ofA [] ?_ | refine Ent.ofC [] ?_) <;> (repeat' (first | exact trivial | refine HpLe.dd ?_ | refine HpLe.mk rfl (by simp) rfl (fun h => AObj.noConfusion h) ?_ ?_ | refine And.intro ?_ ?_ | exact cl9 | refine VLe.pe ?_ | refine VLe.agg ?_ | refine VLe.tup ?_ | refine VLe.fn ?_ ?_ | refine VLeL.cons ?_ ?_ | exact VLeL.nil | exact OLe.row _ _ | rfl | refine VLe.rsle rfl ?_ ?_ ?_ | refine OLe.rowe2 ?_ ?_ | refine OLe.mape ?_ ?_ | refine OLe.iter0 ?_ | refine OLe.itere ?_ ?_)) <;> try (first | (simp; done) | (congr 1; omega) | (congr 1; (first | (simp; done) | (simp; omega))))
        all_goals exact congrArg (PV.int .u32) (crc_even hkl (show ¬ crcI (crcL 4294967295 (b.take i) ^^^ x.toNat) k % 2 = 1 by omega))
    · have h8' : ¬ (k : Int) < 8 := by omega
      have h8e : k = 8 := by omega
      repeat' (first | exact cl1 | ((with_reducible show Exists _); refine exU8 ?_) | ((fail_if_success with_reducible first | show LeG _ _ | show Lp _ _ _ _ | show Exists _ | show callX _ _ _ _ _ | show (_ : Int) ≤ _ | show (_ : Int) < _ | show (_ : Nat) ≤ _ | show (_ : Nat) < _); (conv => whnf) <;> (first | exact cl2 | refine Br.dec (fun hc => absurd hc h8') (fun hc => ?_) | refine XAlt.l ?_ | refine Sq.pr ?_ | refine Br.dec (fun hc => ?_) (fun hc => ?_) | refine Br.tt ?_ | refine Br.ff ?_ | refine Br.not ?_ | refine Br.mk (fun hc => ?_) (fun hc => ?_) | refine Opt.nn ?_ | refine Opt.ss ?_ | refine AltA.l ?_ | exact PV.leL_nil | refine PV.leL_cons ?_ ?_ | refine And.intro ?_ ?_ | refine ix_map (fun x hx => ?_) | refine exU8 ?_ | refine nilc (fun hn => ?_) ?_ | exact cl3 | refine imp0 (fun hpos => ?_) | refine fits_i64 ?_ ?_ | exact rfl | (with_reducible first | show LeG _ _ | show Lp _ _ _ _ | show Exists _ | show callX _ _ _ _ _)))) <;> (try exact cl5)
      refine ⟨⟨i + 1, hlt⟩, by show b.length - (i + 1) < b.length - i; omega, ?_⟩
      (first | refine Ent.ofA [] ?_ | refine Ent.ofC [] ?_) <;> (repeat' (first | exact trivial | refine HpLe.dd ?_ | refine HpLe.mk rfl (by simp) rfl (fun h => AObj.noConfusion h) ?_ ?_ | refine And.intro ?_ ?_ | exact cl9 | refine VLe.pe ?_ | refine VLe.agg ?_ | refine VLe.tup ?_ | refine VLe.fn ?_ ?_ | refine VLeL.cons ?_ ?_ | exact VLeL.nil | exact OLe.row _ _ | rfl | refine VLe.rsle rfl ?_ ?_ ?_ | refine OLe.rowe2 ?_ ?_ | refine OLe.mape ?_ ?_ | refine OLe.iter0 ?_ | refine OLe.itere ?_ ?_)) <;> try (first | (simp; done) | (congr 1; omega) | (congr 1; (first | (simp; done) | (simp; omega))))
      all_goals (dsimp only; rw [ht, h8e]; rfl)
end Go.Proofs.Ytijkiolobmkhhaa

namespace Go.Proofs.Ytijkiolobmkhhaa
open Go Go.Sg
set_option maxRecDepth 100000
set_option maxHeartbeats 8000000
theorem sum_icalls (L b : Bs) (off len : Nat) (h : off + len ≤ L.length) (hL : L.length ≤ 1000) (hb : B8 b) (hbe : b = (L.drop off).take len) : ICalls Try.prog 65 1 [(0, .row 1 (L.map (.int .u8)))] [.rsl 0 1 off len] (.p (eV (sumB b))) [(0, .row 1 (L.map (.int .u8)))] := by
  have hlb : b.length = len := by rw [hbe, List.length_take, List.length_drop]; omega
  have hix : ∀ i c, b[i]? = some c → L[off + i]? = some c := fun i c hc => by
    rw [hbe, List.getElem?_take] at hc
    split at hc
    · rw [List.getElem?_drop] at hc; exact hc
    · cases hc
  refine ICalls.of (N := 28) (res := [.tmp 2]) mixed Try.func65 rfl rfl rfl (by kernel_rfl) (by simp) [0, 2, 3, 5, 6, 7, 8, 9, 16, 17] (Nat.le_refl _) ?_
  repeat' (first | exact cl1 | ((with_reducible show Exists _); refine exU8 ?_) | ((fail_if_success with_reducible first | show LeG _ _ | show Lp _ _ _ _ | show Exists _ | show callX _ _ _ _ _ | show (_ : Int) ≤ _ | show (_ : Int) < _ | show (_ : Nat) ≤ _ | show (_ : Nat) < _); (conv => whnf) <;> (first | exact cl2 | refine XAlt.l ?_ | refine Sq.pr ?_ | refine Br.dec (fun hc => ?_) (fun hc => ?_) | refine Br.tt ?_ | refine Br.ff ?_ | refine Br.not ?_ | refine Br.mk (fun hc => ?_) (fun hc => ?_) | refine Opt.nn ?_ | refine Opt.ss ?_ | refine AltA.l ?_ | exact PV.leL_nil | refine PV.leL_cons ?_ ?_ | refine And.intro ?_ ?_ | refine ix_map (fun x hx => ?_) | refine exU8 ?_ | refine nilc (fun hn => ?_) ?_ | exact cl3 | refine imp0 (fun hpos => ?_) | refine fits_i64 ?_ ?_ | exact rfl | (with_reducible first | show LeG _ _ | show Lp _ _ _ _ | show Exists _ | show callX _ _ _ _ _)))) <;> (try exact cl5)
  refine Wpc.loopB (α := {i : Nat // i ≤ b.length}) mixed [0, 2, 3, 5, 6, 7, 8, 9, 16, 17] (fun i => [(3, .p (eV (crcL 4294967295 (b.take i.1)))), (8, .p (eI i.1))]) (fun i => b.length - i.1) ⟨0, by omega⟩ ?_ ?_
  · (refine Ent.ofAK [] ?_) <;> (repeat' (first | exact trivial | refine HpLe.dd ?_ | refine HpLe.mk rfl (by simp) rfl (fun h => AObj.noConfusion h) ?_ ?_ | refine And.intro ?_ ?_ | exact cl9 | refine VLe.pe ?_ | refine VLe.agg ?_ | refine VLe.tup ?_ | refine VLe.fn ?_ ?_ | refine VLeL.cons ?_ ?_ | exact VLeL.nil | exact OLe.row _ _ | rfl | refine VLe.rsle rfl ?_ ?_ ?_ | refine OLe.rowe2 ?_ ?_ | refine OLe.mape ?_ ?_ | refine OLe.iter0 ?_ | refine OLe.itere ?_ ?_)) <;> try (first | (simp; done) | (congr 1; omega) | (congr 1; (first | (simp; done) | (simp; omega))))
  rintro ⟨i, hi⟩
  have hi : i ≤ b.length := hi
  have hcl := crcL_lt (b.take i) (n := 4294967295) (by decide) (hb.take i)
  cases hxi : b[i]? with
  | none =>
    have hge : b.length ≤ i := List.getElem?_eq_none_iff.1 hxi
    have hno : ¬ ((i : Int) < (len : Int)) := by omega
    rw [List.take_of_length_le hge] at hcl ⊢
    repeat' (first | exact cl1 | ((with_reducible show Exists _); refine exU8 ?_) | ((fail_if_success with_reducible first | show LeG _ _ | show Lp _ _ _ _ | show Exists _ | show callX _ _ _ _ _ | show (_ : Int) ≤ _ | show (_ : Int) < _ | show (_ : Nat) ≤ _ | show (_ : Nat) < _); (conv => whnf) <;> (first | exact cl2 | refine Br.dec (fun hc => absurd hc hno) (fun hc => ?_) | refine XAlt.l ?_ | refine Sq.pr ?_ | refine Br.dec (fun hc => ?_) (fun hc => ?_) | refine Br.tt ?_ | refine Br.ff ?_ | refine Br.not ?_ | refine Br.mk (fun hc => ?_) (fun hc => ?_) | refine Opt.nn ?_ | refine Opt.ss ?_ | refine AltA.l ?_ | exact PV.leL_nil | refine PV.leL_cons ?_ ?_ | refine And.intro ?_ ?_ | refine ix_map (fun x hx => ?_) | refine exU8 ?_ | refine nilc (fun hn => ?_) ?_ | exact cl3 | refine imp0 (fun hpos => ?_) | refine fits_i64 ?_ ?_ | exact rfl | (with_reducible first | show LeG _ _ | show Lp _ _ _ _ | show Exists _ | show callX _ _ _ _ _)))) <;> (try exact cl5)
    refine ⟨[], [(0, 0)], ?_, ?_, by decide, by simp, fun i hi => by match i, hi with | 0, _ => rfl⟩ <;> (repeat' (first | exact trivial | refine HpLe.dd ?_ | refine HpLe.mk rfl (by simp) rfl (fun h => AObj.noConfusion h) ?_ ?_ | refine And.intro ?_ ?_ | exact cl9 | refine VLe.pe ?_ | refine VLe.agg ?_ | refine VLe.tup ?_ | refine VLe.fn ?_ ?_ | refine VLeL.cons ?_ ?_ | exact VLeL.nil | exact OLe.row _ _ | rfl | refine VLe.rsle rfl ?_ ?_ ?_ | refine OLe.rowe2 ?_ ?_ | refine OLe.mape ?_ ?_ | refine OLe.iter0 ?_ | refine OLe.itere ?_ ?_))
    all_goals exact congrArg (PV.int .u32) (crc_fin' hcl)
  | some x =>
    have hlt : i < b.length := (List.getElem?_eq_some_iff.1 hxi).1
    have hyes : ((i : Int) < (len : Int)) := by omega
    obtain ⟨x0, x1⟩ := hb.get hxi
    have ht := crcL_take (n := 4294967295) hxi
    have hm := xor_lt32 hcl (show x.toNat < 4294967296 by omega)
    repeat' (first | exact cl1 | ((with_reducible show Exists _); refine exU8 ?_) | ((fail_if_success with_reducible first | show LeG _ _ | show Lp _ _ _ _ | show Exists _ | show callX _ _ _ _ _ | show (_ : Int) ≤ _ | show (_ : Int) < _ | show (_ : Nat) ≤ _ | show (_ : Nat) < _); (conv => whnf) <;> (first | exact cl2 | refine Br.dec (fun hc => ?_) (fun hc => absurd hyes hc) | refine ix_c (hix _ _ hxi) ?_ | refine XAlt.l ?_ | refine Sq.pr ?_ | refine Br.dec (fun hc => ?_) (fun hc => ?_) | refine Br.tt ?_ | refine Br.ff ?_ | refine Br.not ?_ | refine Br.mk (fun hc => ?_) (fun hc => ?_) | refine Opt.nn ?_ | refine Opt.ss ?_ | refine AltA.l ?_ | exact PV.leL_nil | refine PV.leL_cons ?_ ?_ | refine And.intro ?_ ?_ | refine ix_map (fun x hx => ?_) | refine exU8 ?_ | refine nilc (fun hn => ?_) ?_ | exact cl3 | refine imp0 (fun hpos => ?_) | refine fits_i64 ?_ ?_ | exact rfl | (with_reducible first | show LeG _ _ | show Lp _ _ _ _ | show Exists _ | show callX _ _ _ _ _)))) <;> (try exact cl5)
    refine Wpc.loopB (α := {k : Nat // k ≤ 8}) mixed [0, 2, 3, 5, 6, 7, 8, 9, 16, 17] (fun k => [(3, .p (eV (crcI (crcL 4294967295 (b.take i) ^^^ x.toNat) k.1))), (16, .p (eI k.1))]) (fun k => 8 - k.1) ⟨0, by omega⟩ ?_ ?_
    · (refine Ent.ofAK [] ?_) <;> (repeat' (first | exact trivial | refine HpLe.dd ?_ | refine HpLe.mk rfl (by simp) rfl (fun h => AObj.noConfusion h) ?_ ?_ | refine And.intro ?_ ?_ | exact cl9 | refine VLe.pe ?_ | refine VLe.agg ?_ | refine VLe.tup ?_ | refine VLe.fn ?_ ?_ | refine VLeL.cons ?_ ?_ | exact VLeL.nil | exact OLe.row _ _ | rfl | refine VLe.rsle rfl ?_ ?_ ?_ | refine OLe.rowe2 ?_ ?_ | refine OLe.mape ?_ ?_ | refine OLe.iter0 ?_ | refine OLe.itere ?_ ?_)) <;> try (first | (simp; done) | (congr 1; omega) | (congr 1; (first | (simp; done) | (simp; omega))))
      all_goals exact congrArg (PV.int .u32) (crc_xor hcl x0 x1)
    rintro ⟨k, hk⟩
    have hk : k ≤ 8 := hk
    have hkl := crcI_lt hm k
    by_cases h8 : k < 8
    · have h8' : (k : Int) < 8 := by omega
      repeat' (first | exact cl1 | ((with_reducible show Exists _); refine exU8 ?_) | ((fail_if_success with_reducible first | show LeG _ _ | show Lp _ _ _ _ | show Exists _ | show callX _ _ _ _ _ | show (_ : Int) ≤ _ | show (_ : Int) < _ | show (_ : Nat) ≤ _ | show (_ : Nat) < _); (conv => whnf) <;> (first | exact cl2 | refine Br.dec (fun hc => ?_) (fun hc => absurd h8' hc) | refine XAlt.l ?_ | refine Sq.pr ?_ | refine Br.dec (fun hc => ?_) (fun hc => ?_) | refine Br.tt ?_ | refine Br.ff ?_ | refine Br.not ?_ | refine Br.mk (fun hc => ?_) (fun hc => ?_) | refine Opt.nn ?_ | refine Opt.ss ?_ | refine AltA.l ?_ | exact PV.leL_nil | refine PV.leL_cons ?_ ?_ | refine And.intro ?_ ?_ | refine ix_map (fun x hx => ?_) | refine exU8 ?_ | refine nilc (fun hn => ?_) ?_ | exact cl3 | refine imp0 (fun hpos => ?_) | refine fits_i64 ?_ ?_ | exact rfl | (with_reducible first | show LeG _ _ | show Lp _ _ _ _ | show Exists _ | show callX _ _ _ _ _)))) <;> (try exact cl5)
      · show Fits .u32 (3988292384 * bitsI .and .u32 ((crcI (crcL 4294967295 (b.take i) ^^^ x.toNat) k : Nat) : Int) 1)
        rw [and1 hkl]; exact fits_u32 (by omega) (by omega)
      refine ⟨⟨k + 1, h8⟩, by show 8 - (k + 1) < 8 - k; omega, ?_⟩
      (refine Ent.ofAK [] ?_) <;> (repeat' (first | exact trivial | refine HpLe.dd ?_ | refine HpLe.mk rfl (by simp) rfl (fun h => AObj.noConfusion h) ?_ ?_ | refine And.intro ?_ ?_ | exact cl9 | refine VLe.pe ?_ | refine VLe.agg ?_ | refine VLe.tup ?_ | refine VLe.fn ?_ ?_ | refine VLeL.cons ?_ ?_ | exact VLeL.nil | exact OLe.row _ _ | rfl | refine VLe.rsle rfl ?_ ?_ ?_ | refine OLe.rowe2 ?_ ?_ | refine OLe.mape ?_ ?_ | refine OLe.iter0 ?_ | refine OLe.itere ?_ ?_)) <;> try (first | (simp; done) | (congr 1; omega) | (congr 1; (first | (simp; done) | (simp; omega))))
      all_goals exact congrArg (PV.int .u32) (crc_impl hkl)
    · have h8' : ¬ (k : Int) < 8 := by omega
      have h8e : k = 8 := by omega
      repeat' (first | exact cl1 | ((with_reducible show Exists _); refine exU8 ?_) | ((fail_if_success with_reducible first | show LeG _ _ | show Lp _ _ _ _ | show Exists _ | show callX _ _ _ _ _ | show (_ : Int) ≤ _ | show (_ : Int) < _ | show (_ : Nat) ≤ _ | show (_ : Nat) < _); (conv => whnf) <;> (first | exact cl2 | refine Br.dec (fun hc => absurd hc h8') (fun hc => ?_) | refine XAlt.l ?_ | refine Sq.pr ?_ | refine Br.dec (fun hc => ?_) (fun hc => ?_) | refine Br.tt ?_ | refine Br.ff ?_ | refine Br.not ?_ | refine Br.mk (fun hc => ?_) (fun hc => ?_) | refine Opt.nn ?_ | refine Opt.ss ?_ | refine AltA.l ?_ | exact PV.leL_nil | refine PV.leL_cons ?_ ?_ | refine And.intro ?_ ?_ | refine ix_map (fun x hx => ?_) | refine exU8 ?_ | refine nilc (fun hn => ?_) ?_ | exact cl3 | refine imp0 (fun hpos => ?_) | refine fits_i64 ?_ ?_ | exact rfl | (with_reducible first | show LeG _ _ | show Lp _ _ _ _ | show Exists _ | show callX _ _ _ _ _)))) <;> (try exact cl5)
      refine ⟨⟨i + 1, hlt⟩, by show b.length - (i + 1) < b.length - i; omega, ?_⟩
      (refine Ent.ofAK [] ?_) <;> (repeat' (first | exact trivial | refine HpLe.dd ?_ | refine HpLe.mk rfl (by simp) rfl (fun h => AObj.noConfusion h) ?_ ?_ | refine And.intro ?_ ?_ | exact cl9 | refine VLe.pe ?_ | refine VLe.agg ?_ | refine VLe.tup ?_ | refine VLe.fn ?_ ?_ | refine VLeL.cons ?_ ?_ | exact VLeL.nil | exact OLe.row _ _ | rfl | refine VLe.rsle rfl ?_ ?_ ?_ | refine OLe.rowe2 ?_ ?_ | refine OLe.mape ?_ ?_ | refine OLe.iter0 ?_ | refine OLe.itere ?_ ?_)) <;> try (first | (simp; done) | (congr 1; omega) | (congr 1; (first | (simp; done) | (simp; omega))))
      all_goals (dsimp only; rw [ht, h8e]; rfl)
end Go.Proofs.Ytijkiolobmkhhaa

namespace Go.Proofs.Ytijkiolobmkhhaa
open Go Go.Sg
set_option maxRecDepth 100000
set_option maxHeartbeats 40000000
def s0 : Bs := List.replicate 128 0
theorem s0_map : s0.map (PV.int .u8) = List.replicate 128 (PV.int .u8 0) := by unfold s0; rw [List.map_replicate]
theorem putB_len {L : Bs} {off len n : Nat} (h : off + len ≤ L.length) : (putB L off len n).length = L.length := by
  rw [← putI_end]; exact putI_len h (Nat.le_refl _)
theorem putB_mid (A S Q : Bs) (off len n : Nat) (h1 : A.length = off) (h2 : S.length = len) : putB (A ++ (S ++ Q)) off len n = A ++ (nrl n len ++ Q) := by
  subst h1; subst h2
  unfold putB
  rw [List.take_left, ← List.append_assoc A S Q, List.drop_left' (by rw [List.length_append]), List.append_assoc]
/-- The body of a sector. -/
def bodyS (k kd : Nat) (b : Bs) : Bs := nrl k 2 ++ ((kd : Int) :: (b.length : Int) :: (b ++ List.replicate (112 - b.length) 0))
/-- A sector. -/
def secS (g k kd : Nat) (b : Bs) : Bs := nrl g 4 ++ (nrl (sumB (bodyS k kd b)) 4 ++ (bodyS k kd b ++ nrl g 4))
theorem bodyS_len {k kd : Nat} {b : Bs} (h : b.length ≤ 112) : (bodyS k kd b).length = 116 := by
  unfold bodyS; simp only [List.length_append, List.length_cons, List.length_replicate, nrl_len]; omega
theorem secS_len {g k kd : Nat} {b : Bs} (h : b.length ≤ 112) : (secS g k kd b).length = 128 := by
  unfold secS; simp only [List.length_append, nrl_len, bodyS_len h]
theorem bodyS_B8 {k kd : Nat} {b : Bs} (h : b.length ≤ 112) (hkd : kd ≤ 3) (hb : B8 b) : B8 (bodyS k kd b) := fun c hc => by
  unfold bodyS at hc
  simp only [List.mem_append, List.mem_cons, List.mem_replicate] at hc
  rcases hc with hc | hc | hc | hc | hc
  · exact nrl_B8 _ _ c hc
  · omega
  · omega
  · exact hb c hc
  · omega
theorem secS_B8 {g k kd : Nat} {b : Bs} (h : b.length ≤ 112) (hkd : kd ≤ 3) (hb : B8 b) : B8 (secS g k kd b) := fun c hc => by
  unfold secS at hc
  simp only [List.mem_append] at hc
  rcases hc with hc | hc | hc | hc
  · exact nrl_B8 _ _ c hc
  · exact nrl_B8 _ _ c hc
  · exact bodyS_B8 h hkd hb c hc
  · exact nrl_B8 _ _ c hc
def encP2 (g k : Nat) : Bs := nrl g 4 ++ (List.replicate 4 0 ++ (nrl k 2 ++ List.replicate 118 0))
def encP3 (g k kd : Nat) (b : Bs) : Bs := nrl g 4 ++ (List.replicate 4 0 ++ (bodyS k kd b ++ List.replicate 4 0))
def encP4 (g k kd : Nat) (b : Bs) : Bs := nrl g 4 ++ (List.replicate 4 0 ++ (bodyS k kd b ++ nrl g 4))
theorem enc1 (g : Nat) : putB s0 0 4 g = nrl g 4 ++ List.replicate 124 0 := putB_mid [] (List.replicate 4 0) (List.replicate 124 0) 0 4 g rfl rfl
theorem enc2 (g k : Nat) : putB (nrl g 4 ++ List.replicate 124 0) 8 2 k = encP2 g k := by
  have e : nrl g 4 ++ List.replicate 124 (0 : Int) = (nrl g 4 ++ List.replicate 4 0) ++ (List.replicate 2 0 ++ List.replicate 118 0) := by rw [List.append_assoc]; rfl
  rw [e, putB_mid _ _ _ 8 2 k (by simp [nrl_len]) rfl, List.append_assoc]; rfl
def encM (g k kd : Nat) (b : Bs) : List PV :=
  let S := (((encP2 g k).map (PV.int .u8)).set 10 (eC kd)).set 11 (.int .u8 (IntKind.u8.wrap ((b.map (PV.int .u8)).length : Nat)))
  List.take 12 S ++ List.take (min (b.map (PV.int .u8)).length 116) (b.map (PV.int .u8)) ++ List.drop (12 + min (b.map (PV.int .u8)).length 116) S
theorem encM_eq {g k kd : Nat} {b : Bs} (h : b.length ≤ 112) : encM g k kd b = (encP3 g k kd b).map (PV.int .u8) := by
  have hS : ((encP2 g k).set 10 (kd : Int)).set 11 (b.length : Int) = (nrl g 4 ++ (List.replicate 4 0 ++ (nrl k 2 ++ [(kd : Int), (b.length : Int)]))) ++ List.replicate 116 0 := rfl
  have hw : IntKind.u8.wrap (((b.map (PV.int .u8)).length : Nat) : Int) = (b.length : Int) := by rw [List.length_map, wrap_u8]; omega
  have hSm : (((encP2 g k).map (PV.int .u8)).set 10 (eC kd)).set 11 (.int .u8 (b.length : Int)) = (((encP2 g k).set 10 (kd : Int)).set 11 (b.length : Int)).map (PV.int .u8) := by rw [List.map_set, List.map_set]; rfl
  have hl : (nrl g 4 ++ (List.replicate 4 0 ++ (nrl k 2 ++ [(kd : Int), (b.length : Int)]))).length = 12 := rfl
  unfold encM
  dsimp only
  rw [hw, hSm, hS, List.length_map, Nat.min_eq_left (by omega), List.take_of_length_le (l := b.map _) (by simp), ← List.map_take, ← List.map_drop, List.take_left' hl, ← List.drop_drop, List.drop_left' hl, List.drop_replicate, ← List.map_append, ← List.map_append]
  congr 1
  unfold encP3 bodyS
  have hr : List.replicate (116 - b.length) (0 : Int) = List.replicate (112 - b.length) 0 ++ List.replicate 4 0 := by rw [List.replicate_append_replicate]; congr 1; omega
  rw [hr]
  simp only [List.append_assoc, List.cons_append, List.nil_append]
theorem enc4 {g k kd : Nat} {b : Bs} (h : b.length ≤ 112) : putB (encP3 g k kd b) 124 4 g = encP4 g k kd b := by
  have e : encP3 g k kd b = (nrl g 4 ++ (List.replicate 4 0 ++ bodyS k kd b)) ++ (List.replicate 4 0 ++ []) := by unfold encP3; simp only [List.append_assoc, List.append_nil]
  rw [e, putB_mid _ _ _ 124 4 g (by simp only [List.length_append, List.length_replicate, nrl_len, bodyS_len h]) rfl]
  unfold encP4; simp only [List.append_assoc, List.append_nil]
theorem enc5 {g k kd n : Nat} {b : Bs} : putB (encP4 g k kd b) 4 4 n = nrl g 4 ++ (nrl n 4 ++ (bodyS k kd b ++ nrl g 4)) := putB_mid _ _ _ 4 4 n (nrl_len g 4) rfl
theorem encode_calls (g k kd : Nat) (b : Bs) (hg : g < 4294967296) (hk : k ≤ 4096) (hkd : kd ≤ 3) (hb : b.length ≤ 112) (hB : B8 b) : PCalls Try.prog 44 [eU g, eI k, eC kd, eB b] (eB (secS g k kd b)) := by
  have p1 := put_icalls s0 0 4 g (by decide) (by decide) (by omega) (by decide)
  rw [s0_map, enc1] at p1
  have p2 := put_icalls (nrl g 4 ++ List.replicate 124 0) 8 2 k (by simp [nrl_len]) (by simp [nrl_len]) (by omega) (by decide)
  have hw : IntKind.u64.wrap (k : Int) = k := by rw [wrap_u64]; omega
  rw [enc2, show eU k = .int .u64 (IntKind.u64.wrap (k : Int)) by rw [hw]; rfl] at p2
  have l3 : (encP3 g k kd b).length = 128 := by unfold encP3; simp only [List.length_append, List.length_replicate, nrl_len, bodyS_len hb]
  have p3 := put_icalls (encP3 g k kd b) 124 4 g (by rw [l3]; decide) (by rw [l3]; decide) (by omega) (by decide)
  rw [← encM_eq hb, enc4 hb] at p3
  have l4 : (encP4 g k kd b).length = 128 := by unfold encP4; simp only [List.length_append, List.length_replicate, nrl_len, bodyS_len hb]
  have hbe : bodyS k kd b = ((encP4 g k kd b).drop 8).take 116 := by
    have e : encP4 g k kd b = (nrl g 4 ++ List.replicate 4 0) ++ (bodyS k kd b ++ nrl g 4) := by unfold encP4; simp only [List.append_assoc]
    rw [e, List.drop_left' (by simp [nrl_len]), List.take_left' (bodyS_len hb)]
  have p4 := sum_icalls (encP4 g k kd b) (bodyS k kd b) 8 116 (by rw [l4]; decide) (by rw [l4]; decide) (bodyS_B8 hb hkd hB) hbe
  have hs := sumB_lt (bodyS k kd b)
  have p5 := put_icalls (encP4 g k kd b) 4 4 (sumB (bodyS k kd b)) (by rw [l4]; decide) (by rw [l4]; decide) (by omega) (by decide)
  have hw5 : IntKind.u64.wrap ((sumB (bodyS k kd b) : Nat) : Int) = sumB (bodyS k kd b) := by rw [wrap_u64]; omega
  rw [enc5, show eU (sumB (bodyS k kd b)) = .int .u64 (IntKind.u64.wrap ((sumB (bodyS k kd b) : Nat) : Int)) by rw [hw5]; rfl] at p5
  refine PCalls.of (N := 35) (res := [.tmp 8]) mixed Try.func44 rfl rfl rfl (by kernel_rfl) (by simp) [0, 1, 2, 3, 8, 9] ?_
  repeat' (first | exact cl1 | ((with_reducible show Exists _); refine exU8 ?_) | ((with_reducible show callX _ _ _ _ _); (first | refine call_i [64] (p1) (by kernel_rfl) rfl rfl (by decide) cl6 (fun i hi => by match i, hi with | 0, _ => rfl) cl7 cl8 (by simp [keys]) ?_ | refine call_i [64] (p2) (by kernel_rfl) rfl rfl (by decide) cl6 (fun i hi => by match i, hi with | 0, _ => rfl) cl7 cl8 (by simp [keys]) ?_ | refine call_i [64] (p3) (by kernel_rfl) rfl rfl (by decide) cl6 (fun i hi => by match i, hi with | 0, _ => rfl) cl7 cl8 (by simp [keys]) ?_ | refine call_r [64] (p4) (by kernel_rfl) rfl rfl (by decide) cl6 (fun i hi => by match i, hi with | 0, _ => rfl) cl7 cl8 (by simp [keys]) (by repeat' (first | exact trivial | refine And.intro rfl ?_)) (by kernel_rfl) ?_ | refine call_i [64] (p5) (by kernel_rfl) rfl rfl (by decide) cl6 (fun i hi => by match i, hi with | 0, _ => rfl) cl7 cl8 (by simp [keys]) ?_)) | ((fail_if_success with_reducible first | show LeG _ _ | show Lp _ _ _ _ | show Exists _ | show callX _ _ _ _ _ | show (_ : Int) ≤ _ | show (_ : Int) < _ | show (_ : Nat) ≤ _ | show (_ : Nat) < _); (conv => whnf) <;> (first | exact cl2 | refine XAlt.l ?_ | refine Sq.pr ?_ | refine Br.dec (fun hc => ?_) (fun hc => ?_) | refine Br.tt ?_ | refine Br.ff ?_ | refine Br.not ?_ | refine Br.mk (fun hc => ?_) (fun hc => ?_) | refine Opt.nn ?_ | refine Opt.ss ?_ | refine AltA.l ?_ | exact PV.leL_nil | refine PV.leL_cons ?_ ?_ | refine And.intro ?_ ?_ | refine ix_map (fun x hx => ?_) | refine exU8 ?_ | refine nilc (fun hn => ?_) ?_ | exact cl3 | refine imp0 (fun hpos => ?_) | refine fits_i64 ?_ ?_ | exact rfl | (with_reducible first | show LeG _ _ | show Lp _ _ _ _ | show Exists _ | show callX _ _ _ _ _)))) <;> (try exact cl5)
  · show 128 = (encM g k kd b).length
    rw [encM_eq hb, List.length_map]; exact l3.symm
  · rw [List.length_map]; exact (secS_len hb).symm
  · show 128 ≤ _
    rw [List.length_map]; exact Nat.le_of_eq (secS_len hb).symm
  · show LeG _ _
    refine LeG.of (congrArg (PV.sl 1 false) ?_)
    show List.take 128 (List.drop 0 ((secS g k kd b).map (PV.int .u8))) = _
    rw [List.drop_zero, List.take_of_length_le (by rw [List.length_map, secS_len hb]; exact Nat.le_refl _)]
end Go.Proofs.Ytijkiolobmkhhaa

namespace Go.Proofs.Ytijkiolobmkhhaa
open Go Go.Sg
set_option maxRecDepth 100000
set_option maxHeartbeats 40000000
/-- The byte of a sector at a place. -/
def at8 (s : Bs) (i : Nat) : Int := s.getD i 0
theorem at8_get {s : Bs} {i : Nat} (h : i < s.length) : s[i]? = some (at8 s i) := by
  unfold at8; rw [List.getD, List.getElem?_eq_getElem h]; rfl
theorem at8_B8 {s : Bs} (h : B8 s) (i : Nat) : 0 ≤ at8 s i ∧ at8 s i ≤ 255 := by
  unfold at8
  rw [List.getD]
  cases hx : s[i]? with
  | none => exact ⟨by decide, by decide⟩
  | some c => exact h.get hx
/-- The piece of a record that a sector holds. -/
def pieceS (s : Bs) : Bs := (s.drop 12).take (at8 s 11).toNat
def preG (s : Bs) : Bool := decide ((at8 s 11) ≤ 112 ∧ at8 s 10 ≤ 3 ∧ (at8 s 10 < 2 → (at8 s 11) = 112) ∧ (at8 s 10 % 2 = 0 → at8 s 11 ≠ 0))
def goodB (s : Bs) (k : Nat) : Bool := preG s && decide (0 < numB (s.take 4)) && decide (s = secS (numB (s.take 4)) k (at8 s 10).toNat (pieceS s))
theorem and2 {c : Int} (h0 : 0 ≤ c) (h1 : c ≤ 255) : bitsI .and .u8 c 2 = 0 ↔ c % 4 < 2 := by
  obtain ⟨n, rfl⟩ : ∃ n : Nat, c = n := ⟨c.toNat, by omega⟩
  have e : bitsI .and .u8 (n : Int) 2 = ((n &&& 2 : Nat) : Int) := bits_and (k := .u8) (b := 2) rfl (by show n < 256; omega) (by decide)
  rw [e]
  have hn : n < 256 := by omega
  have : ∀ n : Fin 256, ((n.1 &&& 2 : Nat) : Int) = 0 ↔ ((n.1 : Nat) : Int) % 4 < 2 := by decide
  exact this ⟨n, hn⟩
theorem and1' {c : Int} (h0 : 0 ≤ c) (h1 : c ≤ 255) : bitsI .and .u8 c 1 = 0 ↔ c % 2 = 0 := by
  obtain ⟨n, rfl⟩ : ∃ n : Nat, c = n := ⟨c.toNat, by omega⟩
  have e : bitsI .and .u8 (n : Int) 1 = ((n &&& 1 : Nat) : Int) := bits_and (k := .u8) (b := 1) rfl (by show n < 256; omega) (by decide)
  rw [e, Nat.and_one_is_mod]
  omega
theorem good_calls (s : Bs) (k : Nat) (hs : s.length = 128) (hB : B8 s) (hk : k ≤ 4096) : PCalls Try.prog 61 [eB s, eI k] (.bool (goodB s k)) := by
  have h11 := at8_get (s := s) (i := 11) (by omega)
  have h10 := at8_get (s := s) (i := 10) (by omega)
  obtain ⟨a0, a1⟩ := at8_B8 hB 11
  obtain ⟨b0, b1⟩ := at8_B8 hB 10
  have e2 := and2 b0 b1
  have e1 := and1' b0 b1
  have hw : IntKind.i64.wrap (at8 s 11) = at8 s 11 := wrap_i64 (by omega) (by omega)
  have hm : (s.map (PV.int .u8)).length = 128 := by rw [List.length_map, hs]
  have p1 := get_calls (s.take 4) (hB.take 4) (by rw [List.length_take]; omega)
  unfold goodB
  cases hp : preG s with
  | false =>
    have hn : ¬ ((at8 s 11) ≤ 112 ∧ at8 s 10 ≤ 3 ∧ (at8 s 10 < 2 → (at8 s 11) = 112) ∧ (at8 s 10 % 2 = 0 → at8 s 11 ≠ 0)) := of_decide_eq_false hp
    generalize at8 s 11 = A at *
    generalize at8 s 10 = C at *
    refine PCalls.of (N := 60) (res := [.tmp 4]) mixed Try.func61 rfl rfl rfl (by kernel_rfl) (by simp) [0, 1, 4, 5, 6, 40] ?_
    repeat' (first | exact cl1 | ((with_reducible show Exists _); refine exU8 ?_) | ((fail_if_success with_reducible first | show LeG _ _ | show Lp _ _ _ _ | show Exists _ | show callX _ _ _ _ _ | show (_ : Int) ≤ _ | show (_ : Int) < _ | show (_ : Nat) ≤ _ | show (_ : Nat) < _); (conv => whnf) <;> (first | exact cl2 | refine ix_c h11 ?_ | refine ix_c h10 ?_ | refine XAlt.l ?_ | refine Sq.pr ?_ | refine Br.dec (fun hc => ?_) (fun hc => ?_) | refine Br.tt ?_ | refine Br.ff ?_ | refine Br.not ?_ | refine Br.mk (fun hc => ?_) (fun hc => ?_) | refine Opt.nn ?_ | refine Opt.ss ?_ | refine AltA.l ?_ | exact PV.leL_nil | refine PV.leL_cons ?_ ?_ | refine And.intro ?_ ?_ | refine ix_map (fun x hx => ?_) | refine exU8 ?_ | refine nilc (fun hn => ?_) ?_ | exact cl3 | refine imp0 (fun hpos => ?_) | refine fits_i64 ?_ ?_ | exact rfl | (with_reducible first | show LeG _ _ | show Lp _ _ _ _ | show Exists _ | show callX _ _ _ _ _)))) <;> (try exact cl5)
  | true =>
    obtain ⟨n1, n2, n3, n4⟩ : ((at8 s 11) ≤ 112 ∧ at8 s 10 ≤ 3 ∧ (at8 s 10 < 2 → (at8 s 11) = 112) ∧ (at8 s 10 % 2 = 0 → at8 s 11 ≠ 0)) := of_decide_eq_true hp
    have hg := numB_lt 4 (s.take 4) (by rw [List.length_take]; omega) (hB.take 4)
    have hg : numB (s.take 4) < 4294967296 := hg
    have e4 : eB (s.take 4) = .sl 1 false (List.drop (Int.toNat 0) (List.take (Int.toNat 4) (s.map (PV.int .u8)))) := by
      show PV.sl 1 false _ = _
      rw [show Int.toNat 0 = 0 from rfl, List.drop_zero, ← List.map_take]; rfl
    rw [e4] at p1
    have hpl : (pieceS s).length ≤ 112 := by unfold pieceS; rw [List.length_take]; omega
    have p2 := encode_calls (numB (s.take 4)) k (at8 s 10).toNat (pieceS s) hg hk (by omega) hpl ((hB.drop 12).take _)
    have eC' : eC (at8 s 10).toNat = .int .u8 (at8 s 10) := congrArg (PV.int .u8) (by omega)
    have ep : eB (pieceS s) = .sl 1 false (List.drop (Int.toNat 12) (List.take (12 + IntKind.i64.wrap (at8 s 11)).toNat (s.map (PV.int .u8)))) := by
      rw [hw]
      show PV.sl 1 false _ = _
      unfold pieceS
      rw [← List.map_take, ← List.map_drop, List.drop_take, show (12 + at8 s 11).toNat - Int.toNat 12 = (at8 s 11).toNat by show (12 + at8 s 11).toNat - 12 = _; omega]; rfl
    rw [eC', ep] at p2
    have p3 := bytesEq_calls s (secS (numB (s.take 4)) k (at8 s 10).toNat (pieceS s)) hB (secS_B8 hpl (by omega) ((hB.drop 12).take _))
    rw [Bool.true_and]
    by_cases h0 : 0 < numB (s.take 4)
    · rw [decide_eq_true h0, Bool.true_and]
      have h0' : (numB (s.take 4) : Int) > 0 := by omega
      refine PCalls.of (N := 60) (res := [.tmp 4]) mixed Try.func61 rfl rfl rfl (by kernel_rfl) (by simp) [0, 1, 4, 5, 6, 40] ?_
      repeat' (first | exact cl1 | ((with_reducible show Exists _); refine exU8 ?_) | ((with_reducible show callX _ _ _ _ _); (first | refine call_p (p1) (by kernel_rfl) rfl ?_ | refine call_p (p2) (by kernel_rfl) rfl ?_ | refine call_p (p3) (by kernel_rfl) rfl ?_)) | ((fail_if_success with_reducible first | show LeG _ _ | show Lp _ _ _ _ | show Exists _ | show callX _ _ _ _ _ | show (_ : Int) ≤ _ | show (_ : Int) < _ | show (_ : Nat) ≤ _ | show (_ : Nat) < _); (conv => whnf) <;> (first | exact cl2 | refine ix_c h11 ?_ | refine ix_c h10 ?_ | refine XAlt.l ?_ | refine Sq.pr ?_ | refine Br.dec (fun hc => ?_) (fun hc => ?_) | refine Br.tt ?_ | refine Br.ff ?_ | refine Br.not ?_ | refine Br.mk (fun hc => ?_) (fun hc => ?_) | refine Opt.nn ?_ | refine Opt.ss ?_ | refine AltA.l ?_ | exact PV.leL_nil | refine PV.leL_cons ?_ ?_ | refine And.intro ?_ ?_ | refine ix_map (fun x hx => ?_) | refine exU8 ?_ | refine nilc (fun hn => ?_) ?_ | exact cl3 | refine imp0 (fun hpos => ?_) | refine fits_i64 ?_ ?_ | exact rfl | (with_reducible first | show LeG _ _ | show Lp _ _ _ _ | show Exists _ | show callX _ _ _ _ _)))) <;> (try exact cl5)
    · rw [decide_eq_false h0, Bool.false_and]
      have h0' : ¬ (numB (s.take 4) : Int) > 0 := by omega
      refine PCalls.of (N := 60) (res := [.tmp 4]) mixed Try.func61 rfl rfl rfl (by kernel_rfl) (by simp) [0, 1, 4, 5, 6, 40] ?_
      repeat' (first | exact cl1 | ((with_reducible show Exists _); refine exU8 ?_) | ((with_reducible show callX _ _ _ _ _); (first | refine call_p (p1) (by kernel_rfl) rfl ?_ | refine call_p (p2) (by kernel_rfl) rfl ?_ | refine call_p (p3) (by kernel_rfl) rfl ?_)) | ((fail_if_success with_reducible first | show LeG _ _ | show Lp _ _ _ _ | show Exists _ | show callX _ _ _ _ _ | show (_ : Int) ≤ _ | show (_ : Int) < _ | show (_ : Nat) ≤ _ | show (_ : Nat) < _); (conv => whnf) <;> (first | exact cl2 | refine ix_c h11 ?_ | refine ix_c h10 ?_ | refine XAlt.l ?_ | refine Sq.pr ?_ | refine Br.dec (fun hc => ?_) (fun hc => ?_) | refine Br.tt ?_ | refine Br.ff ?_ | refine Br.not ?_ | refine Br.mk (fun hc => ?_) (fun hc => ?_) | refine Opt.nn ?_ | refine Opt.ss ?_ | refine AltA.l ?_ | exact PV.leL_nil | refine PV.leL_cons ?_ ?_ | refine And.intro ?_ ?_ | refine ix_map (fun x hx => ?_) | refine exU8 ?_ | refine nilc (fun hn => ?_) ?_ | exact cl3 | refine imp0 (fun hpos => ?_) | refine fits_i64 ?_ ?_ | exact rfl | (with_reducible first | show LeG _ _ | show Lp _ _ _ _ | show Exists _ | show callX _ _ _ _ _)))) <;> (try exact cl5)
end Go.Proofs.Ytijkiolobmkhhaa

namespace Go.Proofs.Ytijkiolobmkhhaa
open Go Go.Sg
set_option maxRecDepth 100000
set_option maxHeartbeats 8000000
/-! ### Records on sectors -/
def genS (s : Bs) : Nat := numB (s.take 4)
def endS (s : Bs) : Bool := decide (2 ≤ at8 s 10)
def begS (s : Bs) : Bool := decide (at8 s 10 % 2 = 1)
/-- A record from sector n on: its bytes, and how many sectors it has. -/
def scanR : List Bs → Nat → Bool → Nat → Option (Bs × Nat)
  | [], _, _, _ => none
  | s :: r, n, first, g => if goodB s n = true ∧ begS s = first ∧ genS s = g then (if endS s then some (pieceS s, 1) else (scanR r (n + 1) false g).map fun x => (pieceS s ++ x.1, x.2 + 1)) else none
def gAt (l : List Bs) (i : Nat) : Nat := genS (l.getD i [])
def recAt (l : List Bs) (i : Nat) : Option (Bs × Nat) := scanR (l.drop i) i true (gAt l i)
def recsA (l : List Bs) : Nat → Nat → Nat → List (Nat × Bs)
  | 0, _, _ => []
  | f + 1, i, last => match recAt l i with
    | none => []
    | some (b, m) => if gAt l i < last then [] else (i + m, b) :: recsA l f (i + m) (gAt l i)
def recsL (l : List Bs) : List (Nat × Bs) := recsA l (l.length + 1) 0 0
theorem scanR_cons {l : List Bs} {n : Nat} {s : Bs} (h : l[n]? = some s) (first : Bool) (g : Nat) :
    scanR (l.drop n) n first g = if goodB s n = true ∧ begS s = first ∧ genS s = g then (if endS s then some (pieceS s, 1) else (scanR (l.drop (n + 1)) (n + 1) false g).map fun x => (pieceS s ++ x.1, x.2 + 1)) else none := by
  obtain ⟨h1, h2⟩ := List.getElem?_eq_some_iff.1 h
  rw [List.drop_eq_getElem_cons h1, h2, scanR]
theorem scanR_end {l : List Bs} {n : Nat} (h : l.length ≤ n) (first : Bool) (g : Nat) : scanR (l.drop n) n first g = none := by
  rw [List.drop_eq_nil_of_le h, scanR]
theorem scanR_m : ∀ (ss : List Bs) (n : Nat) (first : Bool) (g : Nat) (b : Bs) (m : Nat), scanR ss n first g = some (b, m) → 1 ≤ m ∧ m ≤ ss.length
  | [], _, _, _, _, _, h => by simp [scanR] at h
  | s :: r, n, first, g, b, m, h => by
    rw [scanR] at h
    split at h
    · split at h
      · injection h with h; injection h with h1 h2; subst h2; simp
      · rw [Option.map_eq_some_iff] at h
        obtain ⟨x, hx, he⟩ := h
        injection he with h1 h2
        have := scanR_m r (n + 1) false g x.1 x.2 hx
        rw [List.length_cons]; omega
    · cases h
theorem recAt_m {l : List Bs} {i m : Nat} {b : Bs} (h : recAt l i = some (b, m)) : 1 ≤ m ∧ i + m ≤ l.length := by
  have := scanR_m _ _ _ _ _ _ h
  rw [List.length_drop] at this; omega
/-- Fuel beyond need changes nothing. -/
theorem recsA_fuel (l : List Bs) : ∀ (f f' i last : Nat), l.length < f + i → l.length < f' + i → i ≤ l.length → recsA l f i last = recsA l f' i last := by
  intro f
  induction f with
  | zero => intro f' i last h _ hi; omega
  | succ f ih =>
    intro f' i last h h' hi
    cases f' with
    | zero => omega
    | succ f' =>
      rw [recsA, recsA]
      cases hr : recAt l i with
      | none => rfl
      | some x =>
        obtain ⟨b, m⟩ := x
        obtain ⟨m1, m2⟩ := recAt_m hr
        dsimp only
        split
        · rfl
        · rw [ih f' (i + m) (gAt l i) (by omega) (by omega) m2]
theorem recsA_step {l : List Bs} {f i last : Nat} (hf : l.length < f + i) (hi : i ≤ l.length) : recsA l f i last = match recAt l i with
    | none => []
    | some (b, m) => if gAt l i < last then [] else (i + m, b) :: recsA l f (i + m) (gAt l i) := by
  cases f with
  | zero => omega
  | succ f =>
    rw [recsA]
    cases hr : recAt l i with
    | none => rfl
    | some x =>
      obtain ⟨b, m⟩ := x
      obtain ⟨m1, m2⟩ := recAt_m hr
      dsimp only
      split
      · rfl
      · rw [recsA_fuel l f (f + 1) (i + m) (gAt l i) (by omega) (by omega) m2]
end Go.Proofs.Ytijkiolobmkhhaa

namespace Go.Proofs.Ytijkiolobmkhhaa
open Go Go.Sg
set_option maxRecDepth 100000
set_option maxHeartbeats 40000000
def lsV (n t : Nat) (l : List PV) : AV := match l with
  | [] => .p (.sl 0 true [])
  | a :: r => .rsl n t 0 (a :: r).length
def lsH (n t : Nat) (l : List PV) : Heap := match l with
  | [] => []
  | a :: r => [(n, .row t (a :: r))]
def yR (x : Nat × Bs) : List PV := [eI x.1, eB x.2]
theorem records_iter (l : List Bs) (hl : l.length ≤ 4096) (hB : ∀ s ∈ l, s.length = 128 ∧ B8 s) : Iter Try.prog 60 [.ro [eS l]] ((recsL l).map yR) := by
  refine Iter.of (N := 77) mixed Try.func60 rfl rfl rfl (by kernel_rfl) (by simp) [0, 1, 3, 4, 5, 6, 7, 12, 52, 66, 76] ?_
  intro G hG hxx
  repeat' (first | exact cl1 | ((with_reducible show Exists _); refine exU8 ?_) | ((fail_if_success with_reducible first | show LeG _ _ | show Lp _ _ _ _ | show Exists _ | show callX _ _ _ _ _ | show (_ : Int) ≤ _ | show (_ : Int) < _ | show (_ : Nat) ≤ _ | show (_ : Nat) < _); (conv => whnf) <;> (first | exact cl2 | refine XAlt.l ?_ | refine Sq.pr ?_ | refine Br.dec (fun hc => ?_) (fun hc => ?_) | refine Br.tt ?_ | refine Br.ff ?_ | refine Br.not ?_ | refine Br.mk (fun hc => ?_) (fun hc => ?_) | refine Opt.nn ?_ | refine Opt.ss ?_ | refine AltA.l ?_ | exact PV.leL_nil | refine PV.leL_cons ?_ ?_ | refine And.intro ?_ ?_ | refine ix_map (fun x hx => ?_) | refine exU8 ?_ | refine nilc (fun hn => ?_) ?_ | exact cl3 | refine imp0 (fun hpos => ?_) | refine fits_i64 ?_ ?_ | exact rfl | (with_reducible first | show LeG _ _ | show Lp _ _ _ _ | show Exists _ | show callX _ _ _ _ _)))) <;> (try exact cl5)
  refine Lp.scope (V := [0, 1, 3, 4, 5, 6, 7, 12, 52, 66, 76]) mixed ?_
  repeat' (first | exact cl1 | ((with_reducible show Exists _); refine exU8 ?_) | ((fail_if_success with_reducible first | show LeG _ _ | show Lp _ _ _ _ | show Exists _ | show callX _ _ _ _ _ | show (_ : Int) ≤ _ | show (_ : Int) < _ | show (_ : Nat) ≤ _ | show (_ : Nat) < _); (conv => whnf) <;> (first | exact cl2 | refine XAlt.l ?_ | refine Sq.pr ?_ | refine Br.dec (fun hc => ?_) (fun hc => ?_) | refine Br.tt ?_ | refine Br.ff ?_ | refine Br.not ?_ | refine Br.mk (fun hc => ?_) (fun hc => ?_) | refine Opt.nn ?_ | refine Opt.ss ?_ | refine AltA.l ?_ | exact PV.leL_nil | refine PV.leL_cons ?_ ?_ | refine And.intro ?_ ?_ | refine ix_map (fun x hx => ?_) | refine exU8 ?_ | refine nilc (fun hn => ?_) ?_ | exact cl3 | refine imp0 (fun hpos => ?_) | refine fits_i64 ?_ ?_ | exact rfl | (with_reducible first | show LeG _ _ | show Lp _ _ _ _ | show Exists _ | show callX _ _ _ _ _)))) <;> (try exact cl5)
  have hlm : (l.map eB).length = l.length := List.length_map _
  refine Wpc.loopA (α := {x : Nat × Nat × Nat // x.1 ≤ l.length ∧ (x.2.2 ≤ G.stop ∧ x.2.2 ≤ (recsL l).length) ∧ x.2.1 < 4294967296 ∧ (recsL l).drop x.2.2 = recsA l (l.length + 1) x.1 x.2.1}) mixed [0, 1, 3, 4, 5, 6, 7, 12, 52, 66, 76] (fun x => [(3, .p (eI x.1.1)), (4, .p (eU x.1.2.1))]) (fun _ => []) (fun x => x.1.2.2) (fun x => l.length + 1 - x.1.1) ⟨(0, 0, 0), Nat.zero_le _, ⟨Nat.zero_le _, Nat.zero_le _⟩, by decide, rfl⟩ ?_ ?_
  · (first | refine Ent.ofA [] ?_ | refine Ent.ofC [] ?_) <;> (repeat' (first | exact trivial | refine HpLe.dd ?_ | refine HpLe.mk rfl (by simp) rfl (fun h => AObj.noConfusion h) ?_ ?_ | refine And.intro ?_ ?_ | exact cl9 | refine VLe.pe ?_ | refine VLe.agg ?_ | refine VLe.tup ?_ | refine VLe.fn ?_ ?_ | refine VLeL.cons ?_ ?_ | exact VLeL.nil | exact OLe.row _ _ | rfl | refine VLe.rsle rfl ?_ ?_ ?_ | refine OLe.rowe2 ?_ ?_ | refine OLe.mape ?_ ?_ | refine OLe.iter0 ?_ | refine OLe.itere ?_ ?_)) <;> try (first | (simp; done) | (congr 1; omega) | (congr 1; (first | (simp; done) | (simp; omega))))
  rintro ⟨⟨i, last, j⟩, hi, ⟨hj, hjl⟩, hlast, hR⟩
  have hi : i ≤ l.length := hi
  have hj : j ≤ G.stop := hj
  have hjl : j ≤ (recsL l).length := hjl
  have hlast : last < 4294967296 := hlast
  have hR : (recsL l).drop j = recsA l (l.length + 1) i last := hR
  rw [recsA_step (by omega) hi] at hR
  have hxl : G.xs.length = (recsL l).length := by rw [hxx, List.length_map]
  have hdrop : ((recsL l).drop j) = [] → j = min (G.stop + 1) ((recsL l).map yR).length := fun h => by
    have := List.drop_eq_nil_iff.1 h
    rw [List.length_map]; omega
  repeat' (first | exact cl1 | ((with_reducible show Exists _); refine exU8 ?_) | ((fail_if_success with_reducible first | show LeG _ _ | show Lp _ _ _ _ | show Exists _ | show callX _ _ _ _ _ | show (_ : Int) ≤ _ | show (_ : Int) < _ | show (_ : Nat) ≤ _ | show (_ : Nat) < _); (conv => whnf) <;> (first | exact cl2 | refine XAlt.l ?_ | refine Sq.pr ?_ | refine Br.dec (fun hc => ?_) (fun hc => ?_) | refine Br.tt ?_ | refine Br.ff ?_ | refine Br.not ?_ | refine Br.mk (fun hc => ?_) (fun hc => ?_) | refine Opt.nn ?_ | refine Opt.ss ?_ | refine AltA.l ?_ | exact PV.leL_nil | refine PV.leL_cons ?_ ?_ | refine And.intro ?_ ?_ | refine ix_map (fun x hx => ?_) | refine exU8 ?_ | refine nilc (fun hn => ?_) ?_ | exact cl3 | refine imp0 (fun hpos => ?_) | refine fits_i64 ?_ ?_ | exact rfl | (with_reducible first | show LeG _ _ | show Lp _ _ _ _ | show Exists _ | show callX _ _ _ _ _)))) <;> (try exact cl5)
  refine Wpc.loopA (α := {x : Nat × Bs // i ≤ x.1 ∧ x.1 ≤ l.length ∧ x.2.length ≤ 128 * x.1 ∧ recAt l i = (scanR (l.drop x.1) x.1 (decide (x.1 = i)) (gAt l i)).map (fun y => (x.2 ++ y.1, y.2 + (x.1 - i))) ∧ (x.1 = i → x.2 = []) ∧ (i < x.1 → x.2 ≠ [] ∧ ¬ gAt l i < last)}) mixed [0, 1, 3, 4, 5, 6, 7, 12, 52, 66, 76] (fun x => [(5, lsV 1 1 (x.1.2.map (.int .u8))), (6, .p (eI x.1.1))]) (fun x => lsH 1 1 (x.1.2.map (.int .u8))) (fun _ => j) (fun x => l.length - x.1.1) ⟨(i, []), Nat.le_refl _, hi, Nat.zero_le _, by (show recAt l i = (scanR (l.drop i) i (decide (i = i)) (gAt l i)).map (fun y => ([] ++ y.1, y.2 + (i - i)))); rw [decide_eq_true rfl]; unfold recAt; cases scanR (l.drop i) i true (gAt l i) <;> simp, fun _ => rfl, fun h => absurd h (Nat.lt_irrefl _)⟩ ?_ ?_
  · (first | refine Ent.ofA [] ?_ | refine Ent.ofC [] ?_) <;> (repeat' (first | exact trivial | refine HpLe.dd ?_ | refine HpLe.mk rfl (by simp) rfl (fun h => AObj.noConfusion h) ?_ ?_ | refine And.intro ?_ ?_ | exact cl9 | exact VLe.p (PV.le_nil _ _ _) | refine VLe.pe ?_ | refine VLe.agg ?_ | refine VLe.tup ?_ | refine VLe.fn ?_ ?_ | refine VLeL.cons ?_ ?_ | exact VLeL.nil | exact OLe.row _ _ | rfl | refine VLe.rsle rfl ?_ ?_ ?_ | refine OLe.rowe2 ?_ ?_ | refine OLe.mape ?_ ?_ | refine OLe.iter0 ?_ | refine OLe.itere ?_ ?_)) <;> try (first | (simp; done) | (congr 1; omega) | (congr 1; (first | (simp; done) | (simp; omega))))
  rintro ⟨⟨n, acc⟩, hn1, hn2, hal, hrec, ha1, ha2⟩
  have hn1 : i ≤ n := hn1
  have hn2 : n ≤ l.length := hn2
  have hal : acc.length ≤ 128 * n := hal
  have hrec : recAt l i = (scanR (l.drop n) n (decide (n = i)) (gAt l i)).map (fun y => (acc ++ y.1, y.2 + (n - i))) := hrec
  have ha1 : n = i → acc = [] := ha1
  have ha2 : i < n → acc ≠ [] ∧ ¬ gAt l i < last := ha2
  cases hxn : l[n]? with
  | none =>
    have hge : l.length ≤ n := List.getElem?_eq_none_iff.1 hxn
    have hno : ¬ ((n : Int) < ((l.map eB).length : Int)) := by omega
    rw [scanR_end hge] at hrec
    have hnil : (recsL l).drop j = [] := by rw [hR, hrec]; rfl
    cases acc with
    | nil =>
      repeat' (first | exact cl1 | ((with_reducible show Exists _); refine exU8 ?_) | ((fail_if_success with_reducible first | show LeG _ _ | show Lp _ _ _ _ | show Exists _ | show callX _ _ _ _ _ | show (_ : Int) ≤ _ | show (_ : Int) < _ | show (_ : Nat) ≤ _ | show (_ : Nat) < _); (conv => whnf) <;> (first | exact cl2 | refine Br.dec (fun hc => absurd hc hno) (fun hc => ?_) | refine XAlt.l ?_ | refine Sq.pr ?_ | refine Br.dec (fun hc => ?_) (fun hc => ?_) | refine Br.tt ?_ | refine Br.ff ?_ | refine Br.not ?_ | refine Br.mk (fun hc => ?_) (fun hc => ?_) | refine Opt.nn ?_ | refine Opt.ss ?_ | refine AltA.l ?_ | exact PV.leL_nil | refine PV.leL_cons ?_ ?_ | refine And.intro ?_ ?_ | refine ix_map (fun x hx => ?_) | refine exU8 ?_ | refine nilc (fun hn => ?_) ?_ | exact cl3 | refine imp0 (fun hpos => ?_) | refine fits_i64 ?_ ?_ | exact rfl | (with_reducible first | show LeG _ _ | show Lp _ _ _ _ | show Exists _ | show callX _ _ _ _ _)))) <;> (try exact cl5)
      all_goals exact hdrop hnil
    | cons a r =>
      repeat' (first | exact cl1 | ((with_reducible show Exists _); refine exU8 ?_) | ((fail_if_success with_reducible first | show LeG _ _ | show Lp _ _ _ _ | show Exists _ | show callX _ _ _ _ _ | show (_ : Int) ≤ _ | show (_ : Int) < _ | show (_ : Nat) ≤ _ | show (_ : Nat) < _); (conv => whnf) <;> (first | exact cl2 | refine Br.dec (fun hc => absurd hc hno) (fun hc => ?_) | refine XAlt.l ?_ | refine Sq.pr ?_ | refine Br.dec (fun hc => ?_) (fun hc => ?_) | refine Br.tt ?_ | refine Br.ff ?_ | refine Br.not ?_ | refine Br.mk (fun hc => ?_) (fun hc => ?_) | refine Opt.nn ?_ | refine Opt.ss ?_ | refine AltA.l ?_ | exact PV.leL_nil | refine PV.leL_cons ?_ ?_ | refine And.intro ?_ ?_ | refine ix_map (fun x hx => ?_) | refine exU8 ?_ | refine nilc (fun hn => ?_) ?_ | exact cl3 | refine imp0 (fun hpos => ?_) | refine fits_i64 ?_ ?_ | exact rfl | (with_reducible first | show LeG _ _ | show Lp _ _ _ _ | show Exists _ | show callX _ _ _ _ _)))) <;> (try exact cl5)
      all_goals exact hdrop hnil
  | some s =>
    have hlt : n < l.length := (List.getElem?_eq_some_iff.1 hxn).1
    have hyes : ((n : Int) < ((l.map eB).length : Int)) := by omega
    obtain ⟨si, hxi⟩ : ∃ si, l[i]? = some si := ⟨_, List.getElem?_eq_getElem (by omega)⟩
    obtain ⟨s1, s2⟩ := hB s (List.mem_of_getElem? hxn)
    obtain ⟨t1, t2⟩ := hB si (List.mem_of_getElem? hxi)
    have hgi : gAt l i = genS si := by unfold gAt; rw [List.getD, hxi]; rfl
    have e4 : ∀ s : Bs, eB (s.take 4) = .sl 1 false (List.drop (Int.toNat 0) (List.take (Int.toNat 4) (s.map (PV.int .u8)))) := fun s => by
      show PV.sl 1 false _ = _
      rw [show Int.toNat 0 = 0 from rfl, List.drop_zero, ← List.map_take]; rfl
    have p1 := good_calls s n s1 s2 (by omega)
    have p2 := get_calls (s.take 4) (s2.take 4) (by rw [List.length_take]; omega)
    have p3 := get_calls (si.take 4) (t2.take 4) (by rw [List.length_take]; omega)
    rw [e4] at p2 p3
    have h11 := at8_get (s := s) (i := 11) (by omega)
    have h10 := at8_get (s := s) (i := 10) (by omega)
    obtain ⟨a0, a1⟩ := at8_B8 s2 11
    obtain ⟨b0, b1⟩ := at8_B8 s2 10
    have e2 := and2 b0 b1
    have e1 := and1' b0 b1
    have hw : IntKind.i64.wrap (at8 s 11) = at8 s 11 := wrap_i64 (by omega) (by omega)
    rw [scanR_cons hxn] at hrec
    have hms : (s.map (PV.int .u8)).length = 128 := by rw [List.length_map, s1]
    have hmi : (si.map (PV.int .u8)).length = 128 := by rw [List.length_map, t1]
    cases hg : goodB s n with
    | false =>
      rw [hg] at p1
      rw [hg, if_neg (fun h => Bool.noConfusion h.1)] at hrec
      have hnil : (recsL l).drop j = [] := by rw [hR, hrec]; rfl
      cases acc with
      | nil =>
        repeat' (first | exact cl1 | ((with_reducible show Exists _); refine exU8 ?_) | ((with_reducible show callX _ _ _ _ _); (first | refine call_p (p1) (by kernel_rfl) rfl ?_)) | ((fail_if_success with_reducible first | show LeG _ _ | show Lp _ _ _ _ | show Exists _ | show callX _ _ _ _ _ | show (_ : Int) ≤ _ | show (_ : Int) < _ | show (_ : Nat) ≤ _ | show (_ : Nat) < _); (conv => whnf) <;> (first | exact cl2 | refine Br.dec (fun hc => ?_) (fun hc => absurd hyes hc) | refine ix_b hxn ?_ | refine XAlt.l ?_ | refine Sq.pr ?_ | refine Br.dec (fun hc => ?_) (fun hc => ?_) | refine Br.tt ?_ | refine Br.ff ?_ | refine Br.not ?_ | refine Br.mk (fun hc => ?_) (fun hc => ?_) | refine Opt.nn ?_ | refine Opt.ss ?_ | refine AltA.l ?_ | exact PV.leL_nil | refine PV.leL_cons ?_ ?_ | refine And.intro ?_ ?_ | refine ix_map (fun x hx => ?_) | refine exU8 ?_ | refine nilc (fun hn => ?_) ?_ | exact cl3 | refine imp0 (fun hpos => ?_) | refine fits_i64 ?_ ?_ | exact rfl | (with_reducible first | show LeG _ _ | show Lp _ _ _ _ | show Exists _ | show callX _ _ _ _ _)))) <;> (try exact cl5)
        all_goals exact hdrop hnil
      | cons a r =>
        repeat' (first | exact cl1 | ((with_reducible show Exists _); refine exU8 ?_) | ((with_reducible show callX _ _ _ _ _); (first | refine call_p (p1) (by kernel_rfl) rfl ?_)) | ((fail_if_success with_reducible first | show LeG _ _ | show Lp _ _ _ _ | show Exists _ | show callX _ _ _ _ _ | show (_ : Int) ≤ _ | show (_ : Int) < _ | show (_ : Nat) ≤ _ | show (_ : Nat) < _); (conv => whnf) <;> (first | exact cl2 | refine Br.dec (fun hc => ?_) (fun hc => absurd hyes hc) | refine ix_b hxn ?_ | refine XAlt.l ?_ | refine Sq.pr ?_ | refine Br.dec (fun hc => ?_) (fun hc => ?_) | refine Br.tt ?_ | refine Br.ff ?_ | refine Br.not ?_ | refine Br.mk (fun hc => ?_) (fun hc => ?_) | refine Opt.nn ?_ | refine Opt.ss ?_ | refine AltA.l ?_ | exact PV.leL_nil | refine PV.leL_cons ?_ ?_ | refine And.intro ?_ ?_ | refine ix_map (fun x hx => ?_) | refine exU8 ?_ | refine nilc (fun hn => ?_) ?_ | exact cl3 | refine imp0 (fun hpos => ?_) | refine fits_i64 ?_ ?_ | exact rfl | (with_reducible first | show LeG _ _ | show Lp _ _ _ _ | show Exists _ | show callX _ _ _ _ _)))) <;> (try exact cl5)
        all_goals exact hdrop hnil
    | true =>
      rw [hg] at p1
      obtain ⟨hq1, hq2, hq3, hq4⟩ : at8 s 11 ≤ 112 ∧ at8 s 10 ≤ 3 ∧ (at8 s 10 < 2 → at8 s 11 = 112) ∧ (at8 s 10 % 2 = 0 → at8 s 11 ≠ 0) := by
        unfold goodB at hg
        simp only [Bool.and_eq_true] at hg
        exact of_decide_eq_true hg.1.1
      have hpm : List.drop (Int.toNat 12) (List.take (12 + IntKind.i64.wrap (at8 s 11)).toNat (s.map (PV.int .u8))) = (pieceS s).map (PV.int .u8) := by
        rw [hw]
        unfold pieceS
        rw [← List.map_take, ← List.map_drop, List.drop_take, show (12 + at8 s 11).toNat - Int.toNat 12 = (at8 s 11).toNat by show (12 + at8 s 11).toNat - 12 = _; omega]; rfl
      cases acc with
      | nil =>
        have hin : n = i := Classical.byContradiction fun h => (ha2 (by omega)).1 rfl
        subst hin
        have hss : si = s := by rw [hxn] at hxi; injection hxi with h; exact h.symm
        subst hss
        by_cases hok : at8 si 10 % 2 = 1 ∧ ¬ genS si < last
        · obtain ⟨ok1, ok2⟩ := hok
          have ok2' : ¬ ((numB (si.take 4) : Nat) : Int) < (last : Int) := fun h => ok2 (by show numB (si.take 4) < last; omega)
          have ok1' : decide (bitsI .and .u8 (at8 si 10) 1 ≠ 0) = decide ((n : Int) = (n : Int)) := by
            rw [decide_eq_true rfl]; exact decide_eq_true (fun h => by have := e1.1 h; omega)
          have hbeg : begS si = true := decide_eq_true ok1
          have hpl : (pieceS si).length = (at8 si 11).toNat := by unfold pieceS; rw [List.length_take, List.length_drop]; omega
          rw [if_pos ⟨hg, hbeg.trans (decide_eq_true rfl).symm, hgi.symm⟩] at hrec
          have hg32 : genS si < 4294967296 := numB_lt 4 (si.take 4) (by rw [List.length_take]; omega) (s2.take 4)
          by_cases hend : 2 ≤ at8 si 10
          · have hE : endS si = true := decide_eq_true hend
            have hb2 : bitsI .and .u8 (at8 si 10) 2 ≠ 0 := fun h => by have := e2.1 h; omega
            rw [hE, if_pos rfl] at hrec
            rw [hrec] at hR
            have hR : (recsL l).drop j = (n + 1, pieceS si) :: recsA l (l.length + 1) (n + 1) (genS si) := by
              rw [hR]
              show (if gAt l n < last then [] else (n + (1 + (n - n)), [] ++ pieceS si) :: recsA l (l.length + 1) (n + (1 + (n - n))) (gAt l n)) = _
              rw [if_neg (by rw [hgi]; exact ok2), hgi, Nat.sub_self, Nat.add_zero, List.nil_append]
            have hjlt : j < (recsL l).length := by
              refine Nat.lt_of_not_le fun h => ?_
              rw [List.drop_eq_nil_of_le h] at hR; cases hR
            have hget : (recsL l)[j]? = some (n + 1, pieceS si) := by
              have := congrArg (fun x => x[0]?) hR
              simpa using this
            have hyl : G.xs.getD j [] = [eI ((n + 1 : Nat) : Int), eB (pieceS si)] := by
              rw [hxx, List.getD, List.getElem?_map, hget]; rfl
            have hR1 : (recsL l).drop (j + 1) = recsA l (l.length + 1) (n + 1) (genS si) := by
              rw [← List.drop_drop, hR]; rfl
            repeat' (first | exact cl1 | ((with_reducible show Exists _); refine exU8 ?_) | ((with_reducible show callX _ _ _ _ _); (first | refine call_p (p1) (by kernel_rfl) rfl ?_ | refine call_p (p2) (by kernel_rfl) rfl ?_ | refine call_p (p3) (by kernel_rfl) rfl ?_)) | ((fail_if_success with_reducible first | show LeG _ _ | show Lp _ _ _ _ | show Exists _ | show callX _ _ _ _ _ | show (_ : Int) ≤ _ | show (_ : Int) < _ | show (_ : Nat) ≤ _ | show (_ : Nat) < _); (conv => whnf) <;> (first | exact cl2 | refine Br.dec (fun hc => ?_) (fun hc => absurd hyes hc) | refine Br.dec (fun hc => absurd hc ok2') (fun hc => ?_) | refine ix_b hxn ?_ | refine ix_c h10 ?_ | refine ix_c h11 ?_ | refine Sq.fz (id := 10) [(5, false)] ?_ | refine XAlt.l ?_ | refine Sq.pr ?_ | refine Br.dec (fun hc => ?_) (fun hc => ?_) | refine Br.tt ?_ | refine Br.ff ?_ | refine Br.not ?_ | refine Br.mk (fun hc => ?_) (fun hc => ?_) | refine Opt.nn ?_ | refine Opt.ss ?_ | refine AltA.l ?_ | exact PV.leL_nil | refine PV.leL_cons ?_ ?_ | refine And.intro ?_ ?_ | refine ix_map (fun x hx => ?_) | refine exU8 ?_ | refine nilc (fun hn => ?_) ?_ | exact cl3 | refine imp0 (fun hpos => ?_) | refine fits_i64 ?_ ?_ | exact rfl | (with_reducible first | show LeG _ _ | show Lp _ _ _ _ | show Exists _ | show callX _ _ _ _ _)))) <;> (try exact cl5)
            · intro hn0
              rw [hpm, List.length_map] at hn0
              have hP : pieceS si = [] := List.eq_nil_of_length_eq_zero hn0
              repeat' (first | exact cl1 | ((with_reducible show Exists _); refine exU8 ?_) | ((with_reducible show callX _ _ _ _ _); (first | refine call_p (p1) (by kernel_rfl) rfl ?_ | refine call_p (p2) (by kernel_rfl) rfl ?_ | refine call_p (p3) (by kernel_rfl) rfl ?_)) | ((fail_if_success with_reducible first | show LeG _ _ | show Lp _ _ _ _ | show Exists _ | show callX _ _ _ _ _ | show (_ : Int) ≤ _ | show (_ : Int) < _ | show (_ : Nat) ≤ _ | show (_ : Nat) < _); (conv => whnf) <;> (first | exact cl2 | refine ix_c h10 ?_ | refine ix_c h11 ?_ | refine Sq.nl (id := 10) 5 1 rfl ?_ | refine XAlt.l ?_ | refine Sq.pr ?_ | refine Br.dec (fun hc => ?_) (fun hc => ?_) | refine Br.tt ?_ | refine Br.ff ?_ | refine Br.not ?_ | refine Br.mk (fun hc => ?_) (fun hc => ?_) | refine Opt.nn ?_ | refine Opt.ss ?_ | refine AltA.l ?_ | exact PV.leL_nil | refine PV.leL_cons ?_ ?_ | refine And.intro ?_ ?_ | refine ix_map (fun x hx => ?_) | refine exU8 ?_ | refine nilc (fun hn => ?_) ?_ | exact cl3 | refine imp0 (fun hpos => ?_) | refine fits_i64 ?_ ?_ | exact rfl | (with_reducible first | show LeG _ _ | show Lp _ _ _ _ | show Exists _ | show callX _ _ _ _ _)))) <;> (try exact cl5)
              · show _ = List.map AV.p (G.xs.getD j [])
                rw [hyl, hP]
                show [AV.p (PV.int .i64 ((n : Int) + 1)), AV.p (PV.sl 1 false [])] = [AV.p (PV.int .i64 ((n + 1 : Nat) : Int)), AV.p (PV.sl 1 false [])]
                rfl
              · have hjs : j ≠ G.stop := hc
                refine ⟨⟨(n + 1, genS si, j + 1), hlt, ⟨by show j + 1 ≤ G.stop; omega, hjlt⟩, hg32, hR1⟩, by show l.length + 1 - (n + 1) < l.length + 1 - n; omega, ?_⟩
                (first | refine Ent.ofA [] ?_ | refine Ent.ofC [] ?_) <;> (repeat' (first | exact trivial | refine HpLe.dd ?_ | refine HpLe.mk rfl (by simp) rfl (fun h => AObj.noConfusion h) ?_ ?_ | refine And.intro ?_ ?_ | exact cl9 | refine VLe.pe ?_ | refine VLe.agg ?_ | refine VLe.tup ?_ | refine VLe.fn ?_ ?_ | refine VLeL.cons ?_ ?_ | exact VLeL.nil | exact OLe.row _ _ | rfl | refine VLe.rsle rfl ?_ ?_ ?_ | refine OLe.rowe2 ?_ ?_ | refine OLe.mape ?_ ?_ | refine OLe.iter0 ?_ | refine OLe.itere ?_ ?_)) <;> try (first | (simp; done) | (congr 1; omega) | (congr 1; (first | (simp; done) | (simp; omega))))
              · have hjs : ¬ j ≠ G.stop := hc
                show j + 1 = min (G.stop + 1) ((recsL l).map yR).length
                rw [List.length_map]; omega
            · show _ = List.map AV.p (G.xs.getD j [])
              rw [hyl]
              show [AV.p (PV.int .i64 ((n : Int) + 1)), AV.p (PV.sl 1 false (List.take (0 + (List.drop (Int.toNat 12) (List.take (12 + IntKind.i64.wrap (at8 si 11)).toNat (si.map (PV.int .u8)))).length) (List.drop 0 ([] ++ List.drop (Int.toNat 12) (List.take (12 + IntKind.i64.wrap (at8 si 11)).toNat (si.map (PV.int .u8)))))))] = [AV.p (PV.int .i64 ((n + 1 : Nat) : Int)), AV.p (PV.sl 1 false ((pieceS si).map (PV.int .u8)))]
              rw [hpm, List.nil_append, List.drop_zero, Nat.zero_add, List.take_length]; rfl
            · have hjs : j ≠ G.stop := hc
              refine ⟨⟨(n + 1, genS si, j + 1), hlt, ⟨by show j + 1 ≤ G.stop; omega, hjlt⟩, hg32, hR1⟩, by show l.length + 1 - (n + 1) < l.length + 1 - n; omega, ?_⟩
              (first | refine Ent.ofA [] ?_ | refine Ent.ofC [] ?_) <;> (repeat' (first | exact trivial | refine HpLe.dd ?_ | refine HpLe.mk rfl (by simp) rfl (fun h => AObj.noConfusion h) ?_ ?_ | refine And.intro ?_ ?_ | exact cl9 | refine VLe.pe ?_ | refine VLe.agg ?_ | refine VLe.tup ?_ | refine VLe.fn ?_ ?_ | refine VLeL.cons ?_ ?_ | exact VLeL.nil | exact OLe.row _ _ | rfl | refine VLe.rsle rfl ?_ ?_ ?_ | refine OLe.rowe2 ?_ ?_ | refine OLe.mape ?_ ?_ | refine OLe.iter0 ?_ | refine OLe.itere ?_ ?_)) <;> try (first | (simp; done) | (congr 1; omega) | (congr 1; (first | (simp; done) | (simp; omega))))
            · have hjs : ¬ j ≠ G.stop := hc
              show j + 1 = min (G.stop + 1) ((recsL l).map yR).length
              rw [List.length_map]; omega
            · exact absurd ok1' hc
          · have hE : endS si = false := decide_eq_false hend
            have hb2 : ¬ bitsI .and .u8 (at8 si 10) 2 ≠ 0 := fun h => h (e2.2 (by omega))
            have h112 : at8 si 11 = 112 := hq3 (by omega)
            rw [hE, if_neg Bool.false_ne_true, Option.map_map] at hrec
            obtain ⟨c, r, hP⟩ : ∃ c r, pieceS si = c :: r := by
              cases hP : pieceS si with
              | nil => rw [hP] at hpl; rw [h112] at hpl; cases hpl
              | cons c r => exact ⟨c, r, rfl⟩
            have hpl2 : (pieceS si).length = 112 := by rw [hpl, h112]; rfl
            repeat' (first | exact cl1 | ((with_reducible show Exists _); refine exU8 ?_) | ((with_reducible show callX _ _ _ _ _); (first | refine call_p (p1) (by kernel_rfl) rfl ?_ | refine call_p (p2) (by kernel_rfl) rfl ?_ | refine call_p (p3) (by kernel_rfl) rfl ?_)) | ((fail_if_success with_reducible first | show LeG _ _ | show Lp _ _ _ _ | show Exists _ | show callX _ _ _ _ _ | show (_ : Int) ≤ _ | show (_ : Int) < _ | show (_ : Nat) ≤ _ | show (_ : Nat) < _); (conv => whnf) <;> (first | exact cl2 | refine Br.dec (fun hc => ?_) (fun hc => absurd hyes hc) | refine Br.dec (fun hc => absurd hc ok2') (fun hc => ?_) | refine Br.dec (fun hc => absurd hc hb2) (fun hc => ?_) | refine ix_b hxn ?_ | refine ix_c h10 ?_ | refine ix_c h11 ?_ | refine XAlt.l ?_ | refine Sq.pr ?_ | refine Br.dec (fun hc => ?_) (fun hc => ?_) | refine Br.tt ?_ | refine Br.ff ?_ | refine Br.not ?_ | refine Br.mk (fun hc => ?_) (fun hc => ?_) | refine Opt.nn ?_ | refine Opt.ss ?_ | refine AltA.l ?_ | exact PV.leL_nil | refine PV.leL_cons ?_ ?_ | refine And.intro ?_ ?_ | refine ix_map (fun x hx => ?_) | refine exU8 ?_ | refine nilc (fun hn => ?_) ?_ | exact cl3 | refine imp0 (fun hpos => ?_) | refine fits_i64 ?_ ?_ | exact rfl | (with_reducible first | show LeG _ _ | show Lp _ _ _ _ | show Exists _ | show callX _ _ _ _ _)))) <;> (try exact cl5)
            · intro hn0
              rw [hpm, List.length_map] at hn0; omega
            · have hrec' : recAt l n = (scanR (l.drop (n + 1)) (n + 1) (decide (n + 1 = n)) (gAt l n)).map (fun y => (pieceS si ++ y.1, y.2 + (n + 1 - n))) := by
                rw [decide_eq_false (by omega), hrec, Nat.sub_self, Nat.add_sub_cancel_left]
                rfl
              refine ⟨⟨(n + 1, pieceS si), by show n ≤ n + 1; omega, hlt, by show (pieceS si).length ≤ 128 * (n + 1); omega, hrec', fun h => absurd h (by show ¬ n + 1 = n; omega), fun _ => ⟨by rw [hP]; exact List.cons_ne_nil _ _, by rw [hgi]; exact ok2⟩⟩, by show l.length - (n + 1) < l.length - n; omega, ?_⟩
              rw [hpm]
              show Ent _ _ (hdS _ _ _ _ [(5, lsV 1 1 ((pieceS si).map (.int .u8))), (6, .p (eI ((n + 1 : Nat) : Int)))] (lsH 1 1 ((pieceS si).map (.int .u8))) j)
              rw [hP]
              (first | refine Ent.ofA [] ?_ | refine Ent.ofC [] ?_) <;> (repeat' (first | exact trivial | refine HpLe.dd ?_ | refine HpLe.mk rfl (by simp) rfl (fun h => AObj.noConfusion h) ?_ ?_ | refine And.intro ?_ ?_ | exact cl9 | refine VLe.pe ?_ | refine VLe.agg ?_ | refine VLe.tup ?_ | refine VLe.fn ?_ ?_ | refine VLeL.cons ?_ ?_ | exact VLeL.nil | exact OLe.row _ _ | rfl | refine VLe.rsle rfl ?_ ?_ ?_ | refine OLe.rowe2 ?_ ?_ | refine OLe.mape ?_ ?_ | refine OLe.iter0 ?_ | refine OLe.itere ?_ ?_)) <;> try (first | (simp; done) | (congr 1; omega) | (congr 1; (first | (simp; done) | (simp; omega))))
            · exact absurd ok1' hc
        · have hnil : (recsL l).drop j = [] := by
            rw [hR]
            cases hr : recAt l n with
            | none => rfl
            | some y =>
              dsimp only
              rw [if_pos]
              refine Classical.byContradiction fun hlt2 => hok ⟨?_, ?_⟩
              · rw [hr] at hrec
                refine Classical.byContradiction fun hb => ?_
                rw [if_neg (fun h => hb (of_decide_eq_true (h.2.1.trans (decide_eq_true rfl))))] at hrec
                cases hrec
              · rw [hgi] at hlt2; exact hlt2
          have hne : ¬ (decide (bitsI .and .u8 (at8 si 10) 1 ≠ 0) = decide ((n : Int) = (n : Int)) ∧ ¬ ((numB (si.take 4) : Nat) : Int) < (last : Int)) := fun h => hok ⟨by
            have h1 : bitsI .and .u8 (at8 si 10) 1 ≠ 0 := of_decide_eq_true (h.1.trans (decide_eq_true rfl))
            refine Classical.byContradiction fun h2 => h1 (e1.2 (by omega)), fun h2 => h.2 (by have h3 : numB (si.take 4) < last := h2; omega)⟩
          repeat' (first | exact cl1 | ((with_reducible show Exists _); refine exU8 ?_) | ((with_reducible show callX _ _ _ _ _); (first | refine call_p (p1) (by kernel_rfl) rfl ?_ | refine call_p (p2) (by kernel_rfl) rfl ?_ | refine call_p (p3) (by kernel_rfl) rfl ?_)) | ((fail_if_success with_reducible first | show LeG _ _ | show Lp _ _ _ _ | show Exists _ | show callX _ _ _ _ _ | show (_ : Int) ≤ _ | show (_ : Int) < _ | show (_ : Nat) ≤ _ | show (_ : Nat) < _); (conv => whnf) <;> (first | exact cl2 | refine Br.dec (fun hc => ?_) (fun hc => absurd hyes hc) | refine ix_b hxn ?_ | refine ix_c h10 ?_ | refine ix_c h11 ?_ | refine XAlt.l ?_ | refine Sq.pr ?_ | refine Br.dec (fun hc => ?_) (fun hc => ?_) | refine Br.tt ?_ | refine Br.ff ?_ | refine Br.not ?_ | refine Br.mk (fun hc => ?_) (fun hc => ?_) | refine Opt.nn ?_ | refine Opt.ss ?_ | refine AltA.l ?_ | exact PV.leL_nil | refine PV.leL_cons ?_ ?_ | refine And.intro ?_ ?_ | refine ix_map (fun x hx => ?_) | refine exU8 ?_ | refine nilc (fun hn => ?_) ?_ | exact cl3 | refine imp0 (fun hpos => ?_) | refine fits_i64 ?_ ?_ | exact rfl | (with_reducible first | show LeG _ _ | show Lp _ _ _ _ | show Exists _ | show callX _ _ _ _ _)))) <;> (try exact cl5)
          all_goals first
          | exact hdrop hnil
          | (exfalso; exact hne ⟨by assumption, by assumption⟩)
      | cons a r =>
        have hin : i < n := Nat.lt_of_le_of_ne hn1 fun h => by have := ha1 h.symm; cases this
        obtain ⟨_, hgl⟩ := ha2 hin
        rw [hgi] at hgl
        have har : r.length + 1 ≤ 600000 := by rw [List.length_cons] at hal; omega
        have hpl : (pieceS s).length = (at8 s 11).toNat := by unfold pieceS; rw [List.length_take, List.length_drop]; omega
        have hdi : decide (n = i) = false := decide_eq_false (by omega)
        rw [hdi] at hrec
        by_cases hok : ¬ at8 s 10 % 2 = 1 ∧ genS s = genS si
        · obtain ⟨ok1, ok2⟩ := hok
          have ok2' : ¬ ((numB (s.take 4) : Nat) : Int) < (last : Int) := fun h => hgl (by rw [← ok2]; show numB (s.take 4) < last; omega)
          have ok3' : ¬ ((numB (s.take 4) : Nat) : Int) ≠ ((numB (si.take 4) : Nat) : Int) := fun h => h (congrArg (fun n : Nat => (n : Int)) ok2)
          have ok1' : decide (bitsI .and .u8 (at8 s 10) 1 ≠ 0) = decide ((n : Int) = (i : Int)) := by
            rw [decide_eq_false (show ¬ (n : Int) = (i : Int) by omega)]; exact decide_eq_false (fun h => h (e1.2 (by omega)))
          have hbeg : begS s = false := decide_eq_false ok1
          rw [if_pos ⟨hg, hbeg, ok2.trans hgi.symm⟩] at hrec
          have hg32 : genS s < 4294967296 := numB_lt 4 (s.take 4) (by rw [List.length_take]; omega) (s2.take 4)
          by_cases hend : 2 ≤ at8 s 10
          · have hE : endS s = true := decide_eq_true hend
            have hb2 : bitsI .and .u8 (at8 s 10) 2 ≠ 0 := fun h => by have := e2.1 h; omega
            rw [hE, if_pos rfl] at hrec
            rw [hrec] at hR
            have hR : (recsL l).drop j = (n + 1, (a :: r) ++ pieceS s) :: recsA l (l.length + 1) (n + 1) (genS s) := by
              rw [hR]
              show (if gAt l i < last then [] else (i + (1 + (n - i)), (a :: r) ++ pieceS s) :: recsA l (l.length + 1) (i + (1 + (n - i))) (gAt l i)) = _
              rw [if_neg (by rw [hgi]; exact hgl), hgi, ← ok2, show i + (1 + (n - i)) = n + 1 by omega]
            have hjlt : j < (recsL l).length := by
              refine Nat.lt_of_not_le fun h => ?_
              rw [List.drop_eq_nil_of_le h] at hR; cases hR
            have hget : (recsL l)[j]? = some (n + 1, (a :: r) ++ pieceS s) := by
              have := congrArg (fun x => x[0]?) hR
              simpa using this
            have hyl : G.xs.getD j [] = [eI ((n + 1 : Nat) : Int), eB ((a :: r) ++ pieceS s)] := by
              rw [hxx, List.getD, List.getElem?_map, hget]; rfl
            have hR1 : (recsL l).drop (j + 1) = recsA l (l.length + 1) (n + 1) (genS s) := by
              rw [← List.drop_drop, hR]; rfl
            repeat' (first | exact cl1 | ((with_reducible show Exists _); refine exU8 ?_) | ((with_reducible show callX _ _ _ _ _); (first | refine call_p (p1) (by kernel_rfl) rfl ?_ | refine call_p (p2) (by kernel_rfl) rfl ?_ | refine call_p (p3) (by kernel_rfl) rfl ?_)) | ((fail_if_success with_reducible first | show LeG _ _ | show Lp _ _ _ _ | show Exists _ | show callX _ _ _ _ _ | show (_ : Int) ≤ _ | show (_ : Int) < _ | show (_ : Nat) ≤ _ | show (_ : Nat) < _); (conv => whnf) <;> (first | exact cl2 | refine Br.dec (fun hc => ?_) (fun hc => absurd hyes hc) | refine Br.dec (fun hc => absurd hc ok2') (fun hc => ?_) | refine Br.dec (fun hc => absurd hc ok3') (fun hc => ?_) | refine ix_b hxn ?_ | refine ix_b hxi ?_ | refine ix_c h10 ?_ | refine ix_c h11 ?_ | refine Sq.fz (id := 10) [(5, false)] ?_ | refine XAlt.l ?_ | refine Sq.pr ?_ | refine Br.dec (fun hc => ?_) (fun hc => ?_) | refine Br.tt ?_ | refine Br.ff ?_ | refine Br.not ?_ | refine Br.mk (fun hc => ?_) (fun hc => ?_) | refine Opt.nn ?_ | refine Opt.ss ?_ | refine AltA.l ?_ | exact PV.leL_nil | refine PV.leL_cons ?_ ?_ | refine And.intro ?_ ?_ | refine ix_map (fun x hx => ?_) | refine exU8 ?_ | refine nilc (fun hn => ?_) ?_ | exact cl3 | refine imp0 (fun hpos => ?_) | refine fits_i64 ?_ ?_ | exact rfl | (with_reducible first | show LeG _ _ | show Lp _ _ _ _ | show Exists _ | show callX _ _ _ _ _)))) <;> (try exact cl5)
            · show _ = List.map AV.p (G.xs.getD j [])
              rw [hyl]
              have hxy : ∀ X Y : List PV, List.take (X.length + Y.length) (List.drop 0 (X ++ Y)) = X ++ Y := fun X Y => by rw [List.drop_zero, List.take_of_length_le (by rw [List.length_append]; omega)]
              have hfin := hxy (PV.int .u8 a :: List.map (PV.int .u8) r) (List.drop (Int.toNat 12) (List.take (12 + IntKind.i64.wrap (at8 s 11)).toNat (s.map (PV.int .u8))))
              show [AV.p (PV.int .i64 ((n : Int) + 1)), AV.p (PV.sl 1 false _)] = [AV.p (PV.int .i64 ((n + 1 : Nat) : Int)), AV.p (PV.sl 1 false (((a :: r) ++ pieceS s).map (PV.int .u8)))]
              refine congrArg (fun z => [AV.p (PV.int .i64 ((n : Int) + 1)), AV.p (PV.sl 1 false z)]) (hfin.trans ?_)
              rw [hpm, List.map_append]; rfl
            · have hjs : j ≠ G.stop := hc
              refine ⟨⟨(n + 1, genS s, j + 1), hlt, ⟨by show j + 1 ≤ G.stop; omega, hjlt⟩, hg32, hR1⟩, by show l.length + 1 - (n + 1) < l.length + 1 - i; omega, ?_⟩
              (first | refine Ent.ofA [] ?_ | refine Ent.ofC [] ?_) <;> (repeat' (first | exact trivial | refine HpLe.dd ?_ | refine HpLe.mk rfl (by simp) rfl (fun h => AObj.noConfusion h) ?_ ?_ | refine And.intro ?_ ?_ | exact cl9 | refine VLe.pe ?_ | refine VLe.agg ?_ | refine VLe.tup ?_ | refine VLe.fn ?_ ?_ | refine VLeL.cons ?_ ?_ | exact VLeL.nil | exact OLe.row _ _ | rfl | refine VLe.rsle rfl ?_ ?_ ?_ | refine OLe.rowe2 ?_ ?_ | refine OLe.mape ?_ ?_ | refine OLe.iter0 ?_ | refine OLe.itere ?_ ?_)) <;> try (first | (simp; done) | (congr 1; omega) | (congr 1; (first | (simp; done) | (simp; omega))))
            · have hjs : ¬ j ≠ G.stop := hc
              show j + 1 = min (G.stop + 1) ((recsL l).map yR).length
              rw [List.length_map]; omega
            · exact absurd ok1' hc
          · have hE : endS s = false := decide_eq_false hend
            have hb2 : ¬ bitsI .and .u8 (at8 s 10) 2 ≠ 0 := fun h => h (e2.2 (by omega))
            have h112 : at8 s 11 = 112 := hq3 (by omega)
            rw [hE, if_neg Bool.false_ne_true, Option.map_map] at hrec
            have hpl2 : (pieceS s).length = 112 := by rw [hpl, h112]; rfl
            repeat' (first | exact cl1 | ((with_reducible show Exists _); refine exU8 ?_) | ((with_reducible show callX _ _ _ _ _); (first | refine call_p (p1) (by kernel_rfl) rfl ?_ | refine call_p (p2) (by kernel_rfl) rfl ?_ | refine call_p (p3) (by kernel_rfl) rfl ?_)) | ((fail_if_success with_reducible first | show LeG _ _ | show Lp _ _ _ _ | show Exists _ | show callX _ _ _ _ _ | show (_ : Int) ≤ _ | show (_ : Int) < _ | show (_ : Nat) ≤ _ | show (_ : Nat) < _); (conv => whnf) <;> (first | exact cl2 | refine Br.dec (fun hc => ?_) (fun hc => absurd hyes hc) | refine Br.dec (fun hc => absurd hc ok2') (fun hc => ?_) | refine Br.dec (fun hc => absurd hc ok3') (fun hc => ?_) | refine Br.dec (fun hc => absurd hc hb2) (fun hc => ?_) | refine ix_b hxn ?_ | refine ix_b hxi ?_ | refine ix_c h10 ?_ | refine ix_c h11 ?_ | refine XAlt.l ?_ | refine Sq.pr ?_ | refine Br.dec (fun hc => ?_) (fun hc => ?_) | refine Br.tt ?_ | refine Br.ff ?_ | refine Br.not ?_ | refine Br.mk (fun hc => ?_) (fun hc => ?_) | refine Opt.nn ?_ | refine Opt.ss ?_ | refine AltA.l ?_ | exact PV.leL_nil | refine PV.leL_cons ?_ ?_ | refine And.intro ?_ ?_ | refine ix_map (fun x hx => ?_) | refine exU8 ?_ | refine nilc (fun hn => ?_) ?_ | exact cl3 | refine imp0 (fun hpos => ?_) | refine fits_i64 ?_ ?_ | exact rfl | (with_reducible first | show LeG _ _ | show Lp _ _ _ _ | show Exists _ | show callX _ _ _ _ _)))) <;> (try exact cl5)
            · have hrec' : recAt l i = (scanR (l.drop (n + 1)) (n + 1) (decide (n + 1 = i)) (gAt l i)).map (fun y => (((a :: r) ++ pieceS s) ++ y.1, y.2 + (n + 1 - i))) := by
                rw [decide_eq_false (by omega), hrec]
                cases scanR (l.drop (n + 1)) (n + 1) false (gAt l i) with
                | none => rfl
                | some y =>
                  show some ((a :: r) ++ (pieceS s ++ y.1), y.2 + 1 + (n - i)) = some (((a :: r) ++ pieceS s) ++ y.1, y.2 + (n + 1 - i))
                  rw [List.append_assoc, show y.2 + 1 + (n - i) = y.2 + (n + 1 - i) by omega]
              refine ⟨⟨(n + 1, (a :: r) ++ pieceS s), by show i ≤ n + 1; omega, hlt, by (show ((a :: r) ++ pieceS s).length ≤ 128 * (n + 1)); rw [List.length_append]; have hal2 : (a :: r).length ≤ 128 * n := hal; omega, hrec', fun h => absurd h (by show ¬ n + 1 = i; omega), fun _ => ⟨List.cons_ne_nil _ _, by rw [hgi]; exact hgl⟩⟩, by show l.length - (n + 1) < l.length - n; omega, ?_⟩
              rw [hpm]
              show Ent _ _ (hdS _ _ _ _ [(5, .rsl 1 1 0 ((PV.int .u8 a :: (r ++ pieceS s).map (.int .u8))).length), (6, .p (eI ((n + 1 : Nat) : Int)))] [(1, .row 1 (PV.int .u8 a :: (r ++ pieceS s).map (.int .u8)))] j)
              rw [List.map_append]
              (first | refine Ent.ofA [] ?_ | refine Ent.ofC [] ?_) <;> (repeat' (first | exact trivial | refine HpLe.dd ?_ | refine HpLe.mk rfl (by simp) rfl (fun h => AObj.noConfusion h) ?_ ?_ | refine And.intro ?_ ?_ | exact cl9 | refine VLe.pe ?_ | refine VLe.agg ?_ | refine VLe.tup ?_ | refine VLe.fn ?_ ?_ | refine VLeL.cons ?_ ?_ | exact VLeL.nil | exact OLe.row _ _ | rfl | refine VLe.rsle rfl ?_ ?_ ?_ | refine OLe.rowe2 ?_ ?_ | refine OLe.mape ?_ ?_ | refine OLe.iter0 ?_ | refine OLe.itere ?_ ?_)) <;> try (first | (simp; done) | (congr 1; omega) | (congr 1; (first | (simp; done) | (simp; omega))))
              all_goals (simp only [List.length_append, List.length_cons]; omega)
            · exact absurd ok1' hc
        · have hnil : (recsL l).drop j = [] := by
            rw [hR]
            rw [if_neg (fun h => hok ⟨of_decide_eq_false h.2.1, h.2.2.trans hgi⟩)] at hrec
            rw [hrec]; rfl
          by_cases hb1 : at8 s 10 % 2 = 1
          · have hbad : ¬ (decide (bitsI .and .u8 (at8 s 10) 1 ≠ 0) = decide ((n : Int) = (i : Int))) := by
              rw [decide_eq_false (show ¬ (n : Int) = (i : Int) by omega), decide_eq_true (show bitsI .and .u8 (at8 s 10) 1 ≠ 0 from fun h => by have := e1.1 h; omega)]
              exact Bool.noConfusion
            repeat' (first | exact cl1 | ((with_reducible show Exists _); refine exU8 ?_) | ((with_reducible show callX _ _ _ _ _); (first | refine call_p (p1) (by kernel_rfl) rfl ?_ | refine call_p (p2) (by kernel_rfl) rfl ?_ | refine call_p (p3) (by kernel_rfl) rfl ?_)) | ((fail_if_success with_reducible first | show LeG _ _ | show Lp _ _ _ _ | show Exists _ | show callX _ _ _ _ _ | show (_ : Int) ≤ _ | show (_ : Int) < _ | show (_ : Nat) ≤ _ | show (_ : Nat) < _); (conv => whnf) <;> (first | exact cl2 | refine Br.dec (fun hc => ?_) (fun hc => absurd hyes hc) | refine Br.dec (fun hc => absurd hc hbad) (fun hc => ?_) | refine ix_b hxn ?_ | refine ix_b hxi ?_ | refine ix_c h10 ?_ | refine ix_c h11 ?_ | refine XAlt.l ?_ | refine Sq.pr ?_ | refine Br.dec (fun hc => ?_) (fun hc => ?_) | refine Br.tt ?_ | refine Br.ff ?_ | refine Br.not ?_ | refine Br.mk (fun hc => ?_) (fun hc => ?_) | refine Opt.nn ?_ | refine Opt.ss ?_ | refine AltA.l ?_ | exact PV.leL_nil | refine PV.leL_cons ?_ ?_ | refine And.intro ?_ ?_ | refine ix_map (fun x hx => ?_) | refine exU8 ?_ | refine nilc (fun hn => ?_) ?_ | exact cl3 | refine imp0 (fun hpos => ?_) | refine fits_i64 ?_ ?_ | exact rfl | (with_reducible first | show LeG _ _ | show Lp _ _ _ _ | show Exists _ | show callX _ _ _ _ _)))) <;> (try exact cl5)
            all_goals first
            | exact hdrop hnil
            | exact absurd (by assumption) hbad
          · have hb2 : ((numB (s.take 4) : Nat) : Int) ≠ ((numB (si.take 4) : Nat) : Int) := fun h => hok ⟨hb1, (show numB (s.take 4) = numB (si.take 4) by omega)⟩
            repeat' (first | exact cl1 | ((with_reducible show Exists _); refine exU8 ?_) | ((with_reducible show callX _ _ _ _ _); (first | refine call_p (p1) (by kernel_rfl) rfl ?_ | refine call_p (p2) (by kernel_rfl) rfl ?_ | refine call_p (p3) (by kernel_rfl) rfl ?_)) | ((fail_if_success with_reducible first | show LeG _ _ | show Lp _ _ _ _ | show Exists _ | show callX _ _ _ _ _ | show (_ : Int) ≤ _ | show (_ : Int) < _ | show (_ : Nat) ≤ _ | show (_ : Nat) < _); (conv => whnf) <;> (first | exact cl2 | refine Br.dec (fun hc => ?_) (fun hc => absurd hyes hc) | refine Br.dec (fun hc => ?_) (fun hc => absurd hb2 hc) | refine ix_b hxn ?_ | refine ix_b hxi ?_ | refine ix_c h10 ?_ | refine ix_c h11 ?_ | refine XAlt.l ?_ | refine Sq.pr ?_ | refine Br.dec (fun hc => ?_) (fun hc => ?_) | refine Br.tt ?_ | refine Br.ff ?_ | refine Br.not ?_ | refine Br.mk (fun hc => ?_) (fun hc => ?_) | refine Opt.nn ?_ | refine Opt.ss ?_ | refine AltA.l ?_ | exact PV.leL_nil | refine PV.leL_cons ?_ ?_ | refine And.intro ?_ ?_ | refine ix_map (fun x hx => ?_) | refine exU8 ?_ | refine nilc (fun hn => ?_) ?_ | exact cl3 | refine imp0 (fun hpos => ?_) | refine fits_i64 ?_ ?_ | exact rfl | (with_reducible first | show LeG _ _ | show Lp _ _ _ _ | show Exists _ | show callX _ _ _ _ _)))) <;> (try exact cl5)
            all_goals exact hdrop hnil
end Go.Proofs.Ytijkiolobmkhhaa

namespace Go.Proofs.Ytijkiolobmkhhaa
open Go Go.Sg
set_option maxRecDepth 100000
set_option maxHeartbeats 8000000
/-! ### Numbers and their bytes -/
theorem numB_cons' (c : Int) : ∀ (r : Bs) (n : Nat), r.foldl (fun n c => 256 * n + c.toNat) n = n * 256 ^ r.length + numB r
  | [], n => by simp [numB]
  | d :: r, n => by
    show r.foldl _ (256 * n + d.toNat) = n * 256 ^ (r.length + 1) + r.foldl _ (256 * 0 + d.toNat)
    rw [numB_cons' c r (256 * n + d.toNat), numB_cons' c r (256 * 0 + d.toNat), Nat.pow_succ]
    rw [Nat.mul_zero, Nat.zero_add, Nat.add_mul, Nat.add_assoc]
    congr 1
    rw [Nat.mul_comm 256 n, Nat.mul_assoc, Nat.mul_comm 256 (256 ^ r.length)]
theorem numB_cons (c : Int) (r : Bs) : numB (c :: r) = c.toNat * 256 ^ r.length + numB r := by
  show r.foldl _ (256 * 0 + c.toNat) = _
  rw [numB_cons' c r, Nat.mul_zero, Nat.zero_add]
theorem nrl_add : ∀ (i x m : Nat), nrl (x * 256 ^ i + m) i = nrl m i
  | 0, _, _ => rfl
  | i + 1, x, m => by
    rw [nrl, nrl]
    have e : x * 256 ^ (i + 1) + m = (x * 256) * 256 ^ i + m := by rw [Nat.pow_succ, Nat.mul_comm (256 ^ i) 256, Nat.mul_assoc]
    rw [e, nrl_add i (x * 256) m]
    congr 2
    rw [Nat.add_comm, Nat.add_mul_div_right _ _ (Nat.pow_pos (by decide)), Nat.add_mul_mod_self_right]
theorem nrl_numB : ∀ (b : Bs), B8 b → nrl (numB b) b.length = b
  | [], _ => rfl
  | c :: r, h => by
    have hc := h c (by simp)
    have hr : B8 r := fun x hx => h x (by simp [hx])
    have hlt := numB_lt r.length r rfl hr
    rw [numB_cons, List.length_cons, nrl, nrl_add, nrl_numB r hr]
    congr 1
    rw [Nat.add_comm, Nat.add_mul_div_right _ _ (Nat.pow_pos (by decide)), Nat.div_eq_of_lt hlt]
    omega
theorem numB_nrl (n : Nat) : ∀ i, numB (nrl n i) = n % 256 ^ i
  | 0 => by simp [nrl, numB]; omega
  | i + 1 => by
    rw [nrl, numB_cons, numB_nrl n i, nrl_len, Nat.mod_pow_succ, Int.toNat_natCast, Nat.add_comm, Nat.mul_comm]
theorem nrl_eq {b : Bs} (hb : B8 b) {n i : Nat} (hi : b.length = i) (hn : n < 256 ^ i) : b = nrl n i ↔ numB b = n := by
  subst hi
  constructor
  · intro h
    have := numB_nrl n b.length
    rw [← h, Nat.mod_eq_of_lt hn] at this; exact this
  · intro h
    rw [← h, nrl_numB b hb]
/-- What the reference asks of a sector. -/
def goodR (s : Bs) (k : Nat) : Prop := numB (s.take 4) ≠ 0 ∧ numB (s.take 4) = numB (s.drop 124) ∧ numB ((s.drop 4).take 4) = sumB ((s.drop 8).take 116) ∧ numB ((s.drop 8).take 2) = k ∧
  at8 s 10 ≤ 3 ∧ at8 s 11 ≤ 112 ∧ (at8 s 10 < 2 → at8 s 11 = 112) ∧ (at8 s 10 % 2 = 0 → at8 s 11 ≠ 0) ∧ ∀ i, 12 + (at8 s 11).toNat ≤ i → i < 124 → at8 s i = 0
theorem cut {a b c d : Bs} (h : a.length = c.length) : a ++ b = c ++ d ↔ a = c ∧ b = d := by
  constructor
  · intro e; exact List.append_inj e h
  · rintro ⟨rfl, rfl⟩; rfl
theorem goodB_iff (s : Bs) (k : Nat) (hs : s.length = 128) (hB : B8 s) (hk : k ≤ 4096) : goodB s k = true ↔ goodR s k := by
  obtain ⟨a0, a1⟩ := at8_B8 hB 11
  obtain ⟨b0, b1⟩ := at8_B8 hB 10
  unfold goodB goodR preG
  simp only [Bool.and_eq_true, decide_eq_true_eq]
  have hg4 : numB (s.take 4) < 256 ^ 4 := numB_lt 4 (s.take 4) (by rw [List.length_take]; omega) (hB.take 4)
  -- the sector, in pieces
  have e1 : s = s.take 4 ++ ((s.drop 4).take 4 ++ ((s.drop 8).take 116 ++ s.drop 124)) := by
    conv => lhs; rw [← List.take_append_drop 4 s, ← List.take_append_drop 4 (s.drop 4), List.drop_drop, ← List.take_append_drop 116 (s.drop 8), List.drop_drop]
  have e2 : (s.drop 8).take 116 = (s.drop 8).take 2 ++ (at8 s 10 :: at8 s 11 :: (pieceS s ++ ((s.drop (12 + (at8 s 11).toNat)).take (112 - (at8 s 11).toNat)))) ∨ 112 < at8 s 11 := by
    by_cases h : 112 < at8 s 11
    · exact .inr h
    · left
      have h10 := at8_get (s := s) (i := 10) (by omega)
      have h11 := at8_get (s := s) (i := 11) (by omega)
      obtain ⟨l10, g10⟩ := List.getElem?_eq_some_iff.1 h10
      obtain ⟨l11, g11⟩ := List.getElem?_eq_some_iff.1 h11
      have : s.drop 10 = at8 s 10 :: at8 s 11 :: s.drop 12 := by
        rw [List.drop_eq_getElem_cons l10, g10, List.drop_eq_getElem_cons l11, g11]
      conv => lhs; rw [← List.take_append_drop 2 ((s.drop 8).take 116), List.take_take, List.drop_take, List.drop_drop]
      congr 1
      show (s.drop 10).take 114 = _
      rw [this, List.take_succ_cons, List.take_succ_cons]
      congr 2
      unfold pieceS
      conv => lhs; rw [← List.take_append_drop (at8 s 11).toNat ((s.drop 12).take 112), List.take_take, List.drop_take, List.drop_drop, Nat.min_eq_left (by omega)]
  have hz : (∀ i, 12 + (at8 s 11).toNat ≤ i → i < 124 → at8 s i = 0) ↔ (112 < at8 s 11 ∨ (s.drop (12 + (at8 s 11).toNat)).take (112 - (at8 s 11).toNat) = List.replicate (112 - (at8 s 11).toNat) 0) := by
    by_cases h : 112 < at8 s 11
    · exact ⟨fun _ => .inl h, fun _ i h1 h2 => by omega⟩
    constructor
    · intro hall
      right
      apply List.ext_getElem?
      intro j
      rw [List.getElem?_replicate]
      by_cases hj : j < 112 - (at8 s 11).toNat
      · rw [if_pos hj, List.getElem?_take_of_lt hj, List.getElem?_drop, at8_get (by omega), hall _ (by omega) (by omega)]
      · rw [if_neg hj, List.getElem?_eq_none_iff, List.length_take]; omega
    · rintro (h' | h') i h1 h2
      · omega
      · have := congrArg (fun l => l[i - (12 + (at8 s 11).toNat)]?) h'
        rw [List.getElem?_take_of_lt (by omega), List.getElem?_drop, List.getElem?_replicate, if_pos (by omega), show 12 + (at8 s 11).toNat + (i - (12 + (at8 s 11).toNat)) = i by omega, at8_get (by omega)] at this
        injection this
  by_cases hp : at8 s 11 ≤ 112 ∧ at8 s 10 ≤ 3 ∧ (at8 s 10 < 2 → at8 s 11 = 112) ∧ (at8 s 10 % 2 = 0 → at8 s 11 ≠ 0)
  · obtain ⟨n1, n2, n3, n4⟩ := hp
    have e2 := e2.resolve_right (by omega)
    have hz := hz.trans ⟨fun h => h.resolve_left (by omega), .inr⟩
    have hpl : (pieceS s).length = (at8 s 11).toNat := by unfold pieceS; rw [List.length_take, List.length_drop]; omega
    have hbl : (bodyS k (at8 s 10).toNat (pieceS s)).length = 116 := bodyS_len (by omega)
    have key : s = secS (numB (s.take 4)) k (at8 s 10).toNat (pieceS s) ↔ numB (s.take 4) = numB (s.drop 124) ∧ numB ((s.drop 4).take 4) = sumB ((s.drop 8).take 116) ∧ numB ((s.drop 8).take 2) = k ∧ (s.drop (12 + (at8 s 11).toNat)).take (112 - (at8 s 11).toNat) = List.replicate (112 - (at8 s 11).toNat) 0 := by
      conv => lhs; lhs; rw [e1]
      unfold secS
      rw [cut (by rw [List.length_take, nrl_len]; omega), cut (by rw [List.length_take, List.length_drop, nrl_len]; omega), cut (by rw [List.length_take, List.length_drop, hbl]; omega)]
      have c1 : s.take 4 = nrl (numB (s.take 4)) 4 := (nrl_eq (hB.take 4) (by rw [List.length_take]; omega) hg4).2 rfl
      have c2 : (s.drop 8).take 116 = bodyS k (at8 s 10).toNat (pieceS s) ↔ numB ((s.drop 8).take 2) = k ∧ (s.drop (12 + (at8 s 11).toNat)).take (112 - (at8 s 11).toNat) = List.replicate (112 - (at8 s 11).toNat) 0 := by
        rw [e2]
        unfold bodyS
        rw [cut (by rw [List.length_take, List.length_drop, nrl_len]; omega), nrl_eq ((hB.drop 8).take 2) (by rw [List.length_take, List.length_drop]; omega) (by omega)]
        refine and_congr_right fun _ => ?_
        rw [hpl, List.cons.injEq, List.cons.injEq, cut rfl]
        constructor
        · rintro ⟨_, _, _, h⟩; exact h
        · intro h; exact ⟨by omega, by omega, rfl, h⟩
      have c3 : s.drop 124 = nrl (numB (s.take 4)) 4 ↔ numB (s.drop 124) = numB (s.take 4) := nrl_eq (hB.drop 124) (by rw [List.length_drop]; omega) hg4
      rw [c3]
      constructor
      · rintro ⟨_, h2, h3, h4⟩
        rw [← h3, nrl_eq ((hB.drop 4).take 4) (by rw [List.length_take, List.length_drop]; omega) (sumB_lt _)] at h2
        exact ⟨h4.symm, h2, c2.1 h3⟩
      · rintro ⟨h4, h2, h3⟩
        have h3 := c2.2 h3
        exact ⟨c1, by rw [← h3, nrl_eq ((hB.drop 4).take 4) (by rw [List.length_take, List.length_drop]; omega) (sumB_lt _)]; exact h2, h3, h4.symm⟩
    rw [key, hz]
    constructor
    · rintro ⟨⟨_, h0⟩, h1, h2, h3, h4⟩
      exact ⟨by omega, h1, h2, h3, n2, n1, n3, n4, h4⟩
    · rintro ⟨h0, h1, h2, h3, _, _, _, _, h4⟩
      exact ⟨⟨⟨n1, n2, n3, n4⟩, by omega⟩, h1, h2, h3, h4⟩
  · constructor
    · rintro ⟨⟨h, _⟩, _⟩; exact absurd h hp
    · rintro ⟨_, _, _, _, h1, h2, h3, h4, _⟩; exact absurd ⟨h2, h1, h3, h4⟩ hp
end Go.Proofs.Ytijkiolobmkhhaa

namespace Go.Proofs.Ytijkiolobmkhhaa
open Go Go.Sg
set_option maxRecDepth 100000
set_option maxHeartbeats 40000000
/-- A numeral, of which so many bytes are written. -/
def numI (n many j : Nat) : Bs := List.replicate (many - j) 0 ++ nrl n j
theorem numI_len {n many j : Nat} (h : j ≤ many) : (numI n many j).length = many := by unfold numI; rw [List.length_append, List.length_replicate, nrl_len]; omega
theorem numI_set {n many j : Nat} (h : j < many) {c : Int} (hc : c = ((n / 256 ^ j % 256 : Nat) : Int)) : (numI n many j).set (many - 1 - j) c = numI n many (j + 1) := by
  unfold numI
  have e : many - j = (many - 1 - j) + 1 := by omega
  rw [e, List.replicate_succ', List.append_assoc, List.set_append_right _ _ (by rw [List.length_replicate]; omega), List.length_replicate, Nat.sub_self, nrl, hc, show many - (j + 1) = many - 1 - j by omega]
  rfl
theorem numeral_icalls (n many : Nat) (hn : n < 18446744073709551616) (hm : many ≤ 8) (h0 : 0 < many) : ICalls Try.prog 66 0 [] [.p (eU n), .p (eI many)] (.rsl 0 1 0 many) [(0, .row 1 ((nrl n many).map (.int .u8)))] := by
  refine ICalls.of (N := 24) (res := [.tmp 4]) mixed Try.func66 rfl rfl rfl (by kernel_rfl) (by simp) [0, 1, 4, 5, 6, 12] (Nat.le_refl _) ?_
  repeat' (first | exact cl1 | ((with_reducible show Exists _); refine exU8 ?_) | ((fail_if_success with_reducible first | show LeG _ _ | show Lp _ _ _ _ | show Exists _ | show callX _ _ _ _ _ | show (_ : Int) ≤ _ | show (_ : Int) < _ | show (_ : Nat) ≤ _ | show (_ : Nat) < _); (conv => whnf) <;> (first | exact cl2 | refine XAlt.l ?_ | refine Sq.pr ?_ | refine Br.dec (fun hc => ?_) (fun hc => ?_) | refine Br.tt ?_ | refine Br.ff ?_ | refine Br.not ?_ | refine Br.mk (fun hc => ?_) (fun hc => ?_) | refine Opt.nn ?_ | refine Opt.ss ?_ | refine AltA.l ?_ | exact PV.leL_nil | refine PV.leL_cons ?_ ?_ | refine And.intro ?_ ?_ | refine ix_map (fun x hx => ?_) | refine exU8 ?_ | refine nilc (fun hn => ?_) ?_ | exact cl3 | refine imp0 (fun hpos => ?_) | refine fits_i64 ?_ ?_ | exact rfl | (with_reducible first | show LeG _ _ | show Lp _ _ _ _ | show Exists _ | show callX _ _ _ _ _)))) <;> (try exact cl5)
  refine Wpc.loopA (α := {j : Nat // j ≤ many}) mixed [0, 1, 4, 5, 6, 12] (fun j => [(0, .p (eU (n / 256 ^ j.1))), (6, .p (.int .i64 ((many : Int) - 1 - (j.1 : Int))))]) (fun j => [(128, .row 1 ((numI n many j.1).map (.int .u8)))]) (fun _ => 0) (fun j => many - j.1) ⟨0, Nat.zero_le _⟩ ?_ ?_
  · (first | refine Ent.ofA [] ?_ | refine Ent.ofC [] ?_) <;> (repeat' (first | exact trivial | refine HpLe.dd ?_ | refine HpLe.mk rfl (by simp) rfl (fun h => AObj.noConfusion h) ?_ ?_ | refine And.intro ?_ ?_ | exact cl9 | refine VLe.pe ?_ | refine VLe.agg ?_ | refine VLe.tup ?_ | refine VLe.fn ?_ ?_ | refine VLeL.cons ?_ ?_ | exact VLeL.nil | exact OLe.row _ _ | rfl | refine VLe.rsle rfl ?_ ?_ ?_ | refine OLe.rowe2 ?_ ?_ | refine OLe.mape ?_ ?_ | refine OLe.iter0 ?_ | refine OLe.itere ?_ ?_)) <;> try (first | (simp; done) | (congr 1; omega) | (congr 1; (first | (simp; done) | (simp; omega))))
    all_goals (show List.replicate ((many : Int)).toNat (PV.int .u8 0) = (numI n many 0).map (PV.int .u8); unfold numI; rw [Nat.sub_zero, nrl, List.append_nil, List.map_replicate, Int.toNat_natCast])
  rintro ⟨j, hj⟩
  have hj : j ≤ many := hj
  have hl := numI_len (n := n) hj
  have hq : n / 256 ^ j ≤ n := Nat.div_le_self _ _
  have hgen : ∀ q : Nat, ((q : Nat) : Int).tmod 256 = ((q % 256 : Nat) : Int) ∧ ((q : Nat) : Int).tdiv 256 = ((q / 256 : Nat) : Int) := fun q => by
    rw [Int.tmod_eq_emod_of_nonneg (by omega), Int.tdiv_eq_ediv_of_nonneg (by omega)]; omega
  obtain ⟨hm1, hd1⟩ := hgen (n / 256 ^ j)
  rw [Nat.div_div_eq_div_mul, ← Nat.pow_succ] at hd1
  have hq2 : n / 256 ^ (j + 1) ≤ n := Nat.div_le_self _ _
  by_cases hlt : j < many
  · have hyes : 0 ≤ (many : Int) - 1 - (j : Int) := by omega
    repeat' (first | exact cl1 | ((with_reducible show Exists _); refine exU8 ?_) | ((fail_if_success with_reducible first | show LeG _ _ | show Lp _ _ _ _ | show Exists _ | show callX _ _ _ _ _ | show (_ : Int) ≤ _ | show (_ : Int) < _ | show (_ : Nat) ≤ _ | show (_ : Nat) < _); (conv => whnf) <;> (first | exact cl2 | refine Br.dec (fun hc => ?_) (fun hc => absurd hyes hc) | refine XAlt.l ?_ | refine Sq.pr ?_ | refine Br.dec (fun hc => ?_) (fun hc => ?_) | refine Br.tt ?_ | refine Br.ff ?_ | refine Br.not ?_ | refine Br.mk (fun hc => ?_) (fun hc => ?_) | refine Opt.nn ?_ | refine Opt.ss ?_ | refine AltA.l ?_ | exact PV.leL_nil | refine PV.leL_cons ?_ ?_ | refine And.intro ?_ ?_ | refine ix_map (fun x hx => ?_) | refine exU8 ?_ | refine nilc (fun hn => ?_) ?_ | exact cl3 | refine imp0 (fun hpos => ?_) | refine fits_i64 ?_ ?_ | exact rfl | (with_reducible first | show LeG _ _ | show Lp _ _ _ _ | show Exists _ | show callX _ _ _ _ _)))) <;> (try exact cl5)
    · show Fits .u64 (((n / 256 ^ j : Nat) : Int).tdiv 256)
      rw [hd1]
      generalize n / 256 ^ (j + 1) = q at hq2
      exact fits_u64 (by omega) (by omega)
    · refine ⟨⟨j + 1, hlt⟩, by show many - (j + 1) < many - j; omega, ?_⟩
      show Ent _ _ (hdS _ _ _ _ [(0, .p (.int .u64 ((n / 256 ^ (j + 1) : Nat) : Int))), (6, .p (.int .i64 ((many : Int) - 1 - ((j + 1 : Nat) : Int))))] _ 0)
      rw [← hd1]
      (first | refine Ent.ofA [] ?_ | refine Ent.ofC [] ?_) <;> (repeat' (first | exact trivial | refine HpLe.dd ?_ | refine HpLe.mk rfl (by simp) rfl (fun h => AObj.noConfusion h) ?_ ?_ | refine And.intro ?_ ?_ | exact cl9 | refine VLe.pe ?_ | refine VLe.agg ?_ | refine VLe.tup ?_ | refine VLe.fn ?_ ?_ | refine VLeL.cons ?_ ?_ | exact VLeL.nil | exact OLe.row _ _ | rfl | refine VLe.rsle rfl ?_ ?_ ?_ | refine OLe.rowe2 ?_ ?_ | refine OLe.mape ?_ ?_ | refine OLe.iter0 ?_ | refine OLe.itere ?_ ?_)) <;> try (first | (simp; done) | (congr 1; omega) | (congr 1; (first | (simp; done) | (simp; omega))))
      · show ((numI n many j).map (PV.int .u8)).set (0 + ((many : Int) - 1 - (j : Int)).toNat) (PV.int .u8 (IntKind.u8.wrap (((n / 256 ^ j : Nat) : Int).tmod 256))) = (numI n many (j + 1)).map (PV.int .u8)
        rw [hm1, ← numI_set hlt rfl, List.map_set, show 0 + ((many : Int) - 1 - (j : Int)).toNat = many - 1 - j by omega, show IntKind.u8.wrap ((n / 256 ^ j % 256 : Nat) : Int) = ((n / 256 ^ j % 256 : Nat) : Int) by rw [wrap_u8]; omega]
  · have hno : ¬ 0 ≤ (many : Int) - 1 - (j : Int) := by omega
    have e : j = many := by omega
    subst e
    repeat' (first | exact cl1 | ((with_reducible show Exists _); refine exU8 ?_) | ((fail_if_success with_reducible first | show LeG _ _ | show Lp _ _ _ _ | show Exists _ | show callX _ _ _ _ _ | show (_ : Int) ≤ _ | show (_ : Int) < _ | show (_ : Nat) ≤ _ | show (_ : Nat) < _); (conv => whnf) <;> (first | exact cl2 | refine Br.dec (fun hc => absurd hc hno) (fun hc => ?_) | refine XAlt.l ?_ | refine Sq.pr ?_ | refine Br.dec (fun hc => ?_) (fun hc => ?_) | refine Br.tt ?_ | refine Br.ff ?_ | refine Br.not ?_ | refine Br.mk (fun hc => ?_) (fun hc => ?_) | refine Opt.nn ?_ | refine Opt.ss ?_ | refine AltA.l ?_ | exact PV.leL_nil | refine PV.leL_cons ?_ ?_ | refine And.intro ?_ ?_ | refine ix_map (fun x hx => ?_) | refine exU8 ?_ | refine nilc (fun hn => ?_) ?_ | exact cl3 | refine imp0 (fun hpos => ?_) | refine fits_i64 ?_ ?_ | exact rfl | (with_reducible first | show LeG _ _ | show Lp _ _ _ _ | show Exists _ | show callX _ _ _ _ _)))) <;> (try exact cl5)
    refine ⟨[], [(0, 128)], ?_, ?_, by decide, by simp, fun i hi => by omega⟩ <;> (repeat' (first | exact trivial | refine HpLe.dd ?_ | refine HpLe.mk rfl (by simp) rfl (fun h => AObj.noConfusion h) ?_ ?_ | refine And.intro ?_ ?_ | exact cl9 | refine VLe.pe ?_ | refine VLe.agg ?_ | refine VLe.tup ?_ | refine VLe.fn ?_ ?_ | refine VLeL.cons ?_ ?_ | exact VLeL.nil | exact OLe.row _ _ | rfl | refine VLe.rsle rfl ?_ ?_ ?_ | refine OLe.rowe2 ?_ ?_ | refine OLe.mape ?_ ?_ | refine OLe.iter0 ?_ | refine OLe.itere ?_ ?_))
    all_goals (show (numI n j j).map (PV.int .u8) = (nrl n j).map (PV.int .u8); unfold numI; rw [Nat.sub_self]; rfl)
def secM (k : Nat) (x : Int) (p : Bs) : List PV := List.take (2 + 2 + (p.map (PV.int .u8)).length + (112 - ((p.map (PV.int .u8)).length : Int)).toNat) (List.drop 0 ((nrl k 2).map (PV.int .u8) ++ List.take 2 (List.drop 0 [PV.int .u8 x, PV.int .u8 (IntKind.u8.wrap ((p.map (PV.int .u8)).length : Int))]) ++ p.map (PV.int .u8) ++ List.replicate (112 - ((p.map (PV.int .u8)).length : Int)).toNat (PV.int .u8 0)))
theorem secM_eq {k kd : Nat} {x : Int} {p : Bs} (hp : p.length ≤ 112) (hx : x = kd) : secM k x p = (bodyS k kd p).map (PV.int .u8) := by
  unfold secM bodyS
  rw [List.length_map, show IntKind.u8.wrap (p.length : Int) = p.length by rw [wrap_u8]; omega, hx, List.drop_zero, List.take_of_length_le (by simp only [List.length_append, List.length_map, nrl_len, List.length_replicate, List.length_take, List.length_drop, List.length_cons, List.length_nil]; omega)]
  show (nrl k 2).map (PV.int .u8) ++ [PV.int .u8 (kd : Int), PV.int .u8 (p.length : Int)] ++ p.map (PV.int .u8) ++ List.replicate (112 - (p.length : Int)).toNat (PV.int .u8 0) = _
  rw [show (112 - (p.length : Int)).toNat = 112 - p.length by omega, List.map_append, List.map_cons, List.map_cons, List.map_append, List.map_replicate, List.append_assoc, List.append_assoc]
  rfl
theorem secOut {g k kd : Nat} {x : Int} {p : Bs} (hp : p.length ≤ 112) (hx : x = kd) : List.take (4 + 4 + (secM k x p).length + 4) (List.drop 0 ((nrl g 4).map (PV.int .u8) ++ List.take 4 (List.drop 0 ((nrl (sumB (bodyS k kd p)) 4).map (PV.int .u8))) ++ secM k x p ++ List.take 4 (List.drop 0 ((nrl g 4).map (PV.int .u8))))) = (secS g k kd p).map (PV.int .u8) := by
  rw [secM_eq hp hx, List.drop_zero, List.drop_zero, List.drop_zero, List.take_of_length_le (l := (nrl (sumB (bodyS k kd p)) 4).map _) (by rw [List.length_map, nrl_len]; exact Nat.le_refl _), List.take_of_length_le (l := (nrl g 4).map _) (by rw [List.length_map, nrl_len]; exact Nat.le_refl _), List.take_of_length_le (by simp only [List.length_append, List.length_map, nrl_len, bodyS_len hp]; omega)]
  unfold secS
  simp only [List.map_append, List.append_assoc]
theorem sector_calls (g k : Nat) (b e : Bool) (p : Bs) (hg : g < 4294967296) (hk : k ≤ 4096) (hp : p.length ≤ 112) (hB : B8 p) : PCalls Try.prog 47 [eU g, eI k, .bool b, .bool e, eB p] (eB (secS g k ((if b then 1 else 0) + (if e then 2 else 0)) p)) := by
  have p1 := numeral_icalls k 2 (by omega) (by decide) (by decide)
  have p2 := numeral_icalls g 4 (by omega) (by decide) (by decide)
  have hw : IntKind.u64.wrap (k : Int) = k := by rw [wrap_u64]; omega
  rw [show eU k = .int .u64 (IntKind.u64.wrap (k : Int)) by rw [hw]; rfl] at p1
  have hml : (p.map (PV.int .u8)).length = p.length := List.length_map _
  have key : ∀ (x : Int) (kd : Nat), x = kd → kd ≤ 3 → PCalls Try.prog 67 [.sl 1 false (secM k x p)] (eV (sumB (bodyS k kd p))) := fun x kd hx hkd => by
    have := checksum_calls (bodyS k kd p) (bodyS_B8 hp hkd hB) (by rw [bodyS_len hp]; decide)
    rw [secM_eq hp hx]; exact this
  have key2 : ∀ (kd : Nat), ICalls Try.prog 66 0 [] [.p (.int .u64 (IntKind.u64.wrap ((sumB (bodyS k kd p) : Nat) : Int))), .p (eI 4)] (.rsl 0 1 0 4) [(0, .row 1 ((nrl (sumB (bodyS k kd p)) 4).map (.int .u8)))] := fun kd => by
    have hs := sumB_lt (bodyS k kd p)
    have hw : IntKind.u64.wrap ((sumB (bodyS k kd p) : Nat) : Int) = sumB (bodyS k kd p) := by rw [wrap_u64]; omega
    rw [hw]
    exact numeral_icalls (sumB (bodyS k kd p)) 4 (by omega) (by decide) (by decide)
  cases b <;> cases e
  · have p3 := key (0) 0 rfl (by decide)
    have p4 := key2 0
    show PCalls _ _ _ (eB (secS g k 0 p))
    refine PCalls.of (N := 50) (res := [.tmp 10]) mixed Try.func47 rfl rfl rfl (by kernel_rfl) (by simp) [0, 1, 2, 3, 4, 10, 11, 12, 13, 14, 17] ?_
    repeat' (first | exact cl1 | ((with_reducible show Exists _); refine exU8 ?_) | ((with_reducible show callX _ _ _ _ _); (first | refine call_i [] (p1) (by kernel_rfl) rfl rfl (by simp) (by simp) (by simp) (fun _ _ => rfl) (by simp) (by simp [keys]) ?_ | refine call_i [] (p2) (by kernel_rfl) rfl rfl (by simp) (by simp) (by simp) (fun _ _ => rfl) (by simp) (by simp [keys]) ?_ | refine call_p (p3) (by kernel_rfl) rfl ?_ | refine call_i [] (p4) (by kernel_rfl) rfl rfl (by simp) (by simp) (by simp) (fun _ _ => rfl) (by simp) (by simp [keys]) ?_)) | ((fail_if_success with_reducible first | show LeG _ _ | show Lp _ _ _ _ | show Exists _ | show callX _ _ _ _ _ | show (_ : Int) ≤ _ | show (_ : Int) < _ | show (_ : Nat) ≤ _ | show (_ : Nat) < _); (conv => whnf) <;> (first | exact cl2 | refine Sq.fz (id := 9) [(12, false)] ?_ | refine XAlt.l ?_ | refine Sq.pr ?_ | refine Br.dec (fun hc => ?_) (fun hc => ?_) | refine Br.tt ?_ | refine Br.ff ?_ | refine Br.not ?_ | refine Br.mk (fun hc => ?_) (fun hc => ?_) | refine Opt.nn ?_ | refine Opt.ss ?_ | refine AltA.l ?_ | exact PV.leL_nil | refine PV.leL_cons ?_ ?_ | refine And.intro ?_ ?_ | refine ix_map (fun x hx => ?_) | refine exU8 ?_ | refine nilc (fun hn => ?_) ?_ | exact cl3 | refine imp0 (fun hpos => ?_) | refine fits_i64 ?_ ?_ | exact rfl | (with_reducible first | show LeG _ _ | show Lp _ _ _ _ | show Exists _ | show callX _ _ _ _ _)))) <;> (try exact cl5)
    all_goals first
    | exact LeG.of (congrArg (PV.sl 1 false) (secOut (x := 0) hp rfl))
    | (simp only [List.length_append, List.length_map, nrl_len, List.length_take, List.length_drop, List.length_replicate, List.length_cons, List.length_nil]; omega)
  · have p3 := key (0 + 2) 2 rfl (by decide)
    have p4 := key2 2
    show PCalls _ _ _ (eB (secS g k 2 p))
    refine PCalls.of (N := 50) (res := [.tmp 10]) mixed Try.func47 rfl rfl rfl (by kernel_rfl) (by simp) [0, 1, 2, 3, 4, 10, 11, 12, 13, 14, 17] ?_
    repeat' (first | exact cl1 | ((with_reducible show Exists _); refine exU8 ?_) | ((with_reducible show callX _ _ _ _ _); (first | refine call_i [] (p1) (by kernel_rfl) rfl rfl (by simp) (by simp) (by simp) (fun _ _ => rfl) (by simp) (by simp [keys]) ?_ | refine call_i [] (p2) (by kernel_rfl) rfl rfl (by simp) (by simp) (by simp) (fun _ _ => rfl) (by simp) (by simp [keys]) ?_ | refine call_p (p3) (by kernel_rfl) rfl ?_ | refine call_i [] (p4) (by kernel_rfl) rfl rfl (by simp) (by simp) (by simp) (fun _ _ => rfl) (by simp) (by simp [keys]) ?_)) | ((fail_if_success with_reducible first | show LeG _ _ | show Lp _ _ _ _ | show Exists _ | show callX _ _ _ _ _ | show (_ : Int) ≤ _ | show (_ : Int) < _ | show (_ : Nat) ≤ _ | show (_ : Nat) < _); (conv => whnf) <;> (first | exact cl2 | refine Sq.fz (id := 9) [(12, false)] ?_ | refine XAlt.l ?_ | refine Sq.pr ?_ | refine Br.dec (fun hc => ?_) (fun hc => ?_) | refine Br.tt ?_ | refine Br.ff ?_ | refine Br.not ?_ | refine Br.mk (fun hc => ?_) (fun hc => ?_) | refine Opt.nn ?_ | refine Opt.ss ?_ | refine AltA.l ?_ | exact PV.leL_nil | refine PV.leL_cons ?_ ?_ | refine And.intro ?_ ?_ | refine ix_map (fun x hx => ?_) | refine exU8 ?_ | refine nilc (fun hn => ?_) ?_ | exact cl3 | refine imp0 (fun hpos => ?_) | refine fits_i64 ?_ ?_ | exact rfl | (with_reducible first | show LeG _ _ | show Lp _ _ _ _ | show Exists _ | show callX _ _ _ _ _)))) <;> (try exact cl5)
    all_goals first
    | exact LeG.of (congrArg (PV.sl 1 false) (secOut (x := 0 + 2) hp rfl))
    | (simp only [List.length_append, List.length_map, nrl_len, List.length_take, List.length_drop, List.length_replicate, List.length_cons, List.length_nil]; omega)
  · have p3 := key (0 + 1) 1 rfl (by decide)
    have p4 := key2 1
    show PCalls _ _ _ (eB (secS g k 1 p))
    refine PCalls.of (N := 50) (res := [.tmp 10]) mixed Try.func47 rfl rfl rfl (by kernel_rfl) (by simp) [0, 1, 2, 3, 4, 10, 11, 12, 13, 14, 17] ?_
    repeat' (first | exact cl1 | ((with_reducible show Exists _); refine exU8 ?_) | ((with_reducible show callX _ _ _ _ _); (first | refine call_i [] (p1) (by kernel_rfl) rfl rfl (by simp) (by simp) (by simp) (fun _ _ => rfl) (by simp) (by simp [keys]) ?_ | refine call_i [] (p2) (by kernel_rfl) rfl rfl (by simp) (by simp) (by simp) (fun _ _ => rfl) (by simp) (by simp [keys]) ?_ | refine call_p (p3) (by kernel_rfl) rfl ?_ | refine call_i [] (p4) (by kernel_rfl) rfl rfl (by simp) (by simp) (by simp) (fun _ _ => rfl) (by simp) (by simp [keys]) ?_)) | ((fail_if_success with_reducible first | show LeG _ _ | show Lp _ _ _ _ | show Exists _ | show callX _ _ _ _ _ | show (_ : Int) ≤ _ | show (_ : Int) < _ | show (_ : Nat) ≤ _ | show (_ : Nat) < _); (conv => whnf) <;> (first | exact cl2 | refine Sq.fz (id := 9) [(12, false)] ?_ | refine XAlt.l ?_ | refine Sq.pr ?_ | refine Br.dec (fun hc => ?_) (fun hc => ?_) | refine Br.tt ?_ | refine Br.ff ?_ | refine Br.not ?_ | refine Br.mk (fun hc => ?_) (fun hc => ?_) | refine Opt.nn ?_ | refine Opt.ss ?_ | refine AltA.l ?_ | exact PV.leL_nil | refine PV.leL_cons ?_ ?_ | refine And.intro ?_ ?_ | refine ix_map (fun x hx => ?_) | refine exU8 ?_ | refine nilc (fun hn => ?_) ?_ | exact cl3 | refine imp0 (fun hpos => ?_) | refine fits_i64 ?_ ?_ | exact rfl | (with_reducible first | show LeG _ _ | show Lp _ _ _ _ | show Exists _ | show callX _ _ _ _ _)))) <;> (try exact cl5)
    all_goals first
    | exact LeG.of (congrArg (PV.sl 1 false) (secOut (x := 0 + 1) hp rfl))
    | (simp only [List.length_append, List.length_map, nrl_len, List.length_take, List.length_drop, List.length_replicate, List.length_cons, List.length_nil]; omega)
  · have p3 := key (0 + 1 + 2) 3 rfl (by decide)
    have p4 := key2 3
    show PCalls _ _ _ (eB (secS g k 3 p))
    refine PCalls.of (N := 50) (res := [.tmp 10]) mixed Try.func47 rfl rfl rfl (by kernel_rfl) (by simp) [0, 1, 2, 3, 4, 10, 11, 12, 13, 14, 17] ?_
    repeat' (first | exact cl1 | ((with_reducible show Exists _); refine exU8 ?_) | ((with_reducible show callX _ _ _ _ _); (first | refine call_i [] (p1) (by kernel_rfl) rfl rfl (by simp) (by simp) (by simp) (fun _ _ => rfl) (by simp) (by simp [keys]) ?_ | refine call_i [] (p2) (by kernel_rfl) rfl rfl (by simp) (by simp) (by simp) (fun _ _ => rfl) (by simp) (by simp [keys]) ?_ | refine call_p (p3) (by kernel_rfl) rfl ?_ | refine call_i [] (p4) (by kernel_rfl) rfl rfl (by simp) (by simp) (by simp) (fun _ _ => rfl) (by simp) (by simp [keys]) ?_)) | ((fail_if_success with_reducible first | show LeG _ _ | show Lp _ _ _ _ | show Exists _ | show callX _ _ _ _ _ | show (_ : Int) ≤ _ | show (_ : Int) < _ | show (_ : Nat) ≤ _ | show (_ : Nat) < _); (conv => whnf) <;> (first | exact cl2 | refine Sq.fz (id := 9) [(12, false)] ?_ | refine XAlt.l ?_ | refine Sq.pr ?_ | refine Br.dec (fun hc => ?_) (fun hc => ?_) | refine Br.tt ?_ | refine Br.ff ?_ | refine Br.not ?_ | refine Br.mk (fun hc => ?_) (fun hc => ?_) | refine Opt.nn ?_ | refine Opt.ss ?_ | refine AltA.l ?_ | exact PV.leL_nil | refine PV.leL_cons ?_ ?_ | refine And.intro ?_ ?_ | refine ix_map (fun x hx => ?_) | refine exU8 ?_ | refine nilc (fun hn => ?_) ?_ | exact cl3 | refine imp0 (fun hpos => ?_) | refine fits_i64 ?_ ?_ | exact rfl | (with_reducible first | show LeG _ _ | show Lp _ _ _ _ | show Exists _ | show callX _ _ _ _ _)))) <;> (try exact cl5)
    all_goals first
    | exact LeG.of (congrArg (PV.sl 1 false) (secOut (x := 0 + 1 + 2) hp rfl))
    | (simp only [List.length_append, List.length_map, nrl_len, List.length_take, List.length_drop, List.length_replicate, List.length_cons, List.length_nil]; omega)
end Go.Proofs.Ytijkiolobmkhhaa

namespace Go.Proofs.Ytijkiolobmkhhaa
open Go Go.Sg
set_option maxRecDepth 100000
set_option maxHeartbeats 40000000
theorem eB_sl (s : Bs) (a b : Nat) : eB ((s.drop a).take (b - a)) = .sl 1 false (List.drop (Int.toNat (a : Int)) (List.take (Int.toNat (b : Int)) (s.map (PV.int .u8)))) := by
  show PV.sl 1 false _ = PV.sl 1 false _
  rw [Int.toNat_natCast, Int.toNat_natCast, List.drop_take, List.map_take, List.map_drop]
theorem rgood_calls (s : Bs) (k : Nat) (hs : s.length = 128) (hB : B8 s) (hk : k ≤ 4096) : PCalls Try.prog 72 [eB s, eI k] (.bool (goodB s k)) := by
  have h11 := at8_get (s := s) (i := 11) (by omega)
  have h10 := at8_get (s := s) (i := 10) (by omega)
  obtain ⟨a0, a1⟩ := at8_B8 hB 11
  obtain ⟨b0, b1⟩ := at8_B8 hB 10
  have hw : IntKind.i64.wrap (at8 s 11) = at8 s 11 := wrap_i64 (by omega) (by omega)
  have hwk : IntKind.u64.wrap (k : Int) = k := by rw [wrap_u64]; omega
  have hm : (s.map (PV.int .u8)).length = 128 := by rw [List.length_map, hs]
  have l1 : (s.take 4).length = 4 := by rw [List.length_take]; omega
  have l2 : (s.drop 124).length = 4 := by rw [List.length_drop]; omega
  have l3 : ((s.drop 4).take 4).length = 4 := by rw [List.length_take, List.length_drop]; omega
  have l4 : ((s.drop 8).take 2).length = 2 := by rw [List.length_take, List.length_drop]; omega
  have l5 : ((s.drop 8).take 116).length = 116 := by rw [List.length_take, List.length_drop]; omega
  have p1 := number_calls (s.take 4) (hB.take 4) (by omega)
  have p2 := number_calls (s.drop 124) (hB.drop 124) (by omega)
  have p3 := number_calls ((s.drop 4).take 4) ((hB.drop 4).take 4) (by omega)
  have p4 := number_calls ((s.drop 8).take 2) ((hB.drop 8).take 2) (by omega)
  have p5 := checksum_calls ((s.drop 8).take 116) ((hB.drop 8).take 116) (by omega)
  have e1 : eB (s.take 4) = .sl 1 false (List.drop (Int.toNat 0) (List.take (Int.toNat 4) (s.map (PV.int .u8)))) := eB_sl s 0 4
  have e2 : eB (s.drop 124) = .sl 1 false (List.drop (Int.toNat 124) (List.take ((s.map (PV.int .u8)).length : Int).toNat (s.map (PV.int .u8)))) := by
    show PV.sl 1 false _ = PV.sl 1 false _
    rw [List.map_drop, Int.toNat_natCast, List.take_length]; rfl
  have e3 : eB ((s.drop 4).take 4) = .sl 1 false (List.drop (Int.toNat 4) (List.take (Int.toNat 8) (s.map (PV.int .u8)))) := eB_sl s 4 8
  have e4 : eB ((s.drop 8).take 2) = .sl 1 false (List.drop (Int.toNat 8) (List.take (Int.toNat 10) (s.map (PV.int .u8)))) := eB_sl s 8 10
  have e5 : eB ((s.drop 8).take 116) = .sl 1 false (List.drop (Int.toNat 8) (List.take (Int.toNat 124) (s.map (PV.int .u8)))) := eB_sl s 8 124
  rw [e1] at p1
  rw [e2] at p2
  rw [e3] at p3
  rw [e4] at p4
  rw [e5] at p5
  have hG := goodB_iff s k hs hB hk
  have g1 := numB_lt 4 (s.take 4) l1 (hB.take 4)
  have g2 := numB_lt 4 (s.drop 124) l2 (hB.drop 124)
  have g3 := numB_lt 4 ((s.drop 4).take 4) l3 ((hB.drop 4).take 4)
  have hw3 : IntKind.u32.wrap (numB ((s.drop 4).take 4) : Int) = numB ((s.drop 4).take 4) := by rw [wrap_u32]; omega
  have ht : (at8 s 10).tmod 2 = at8 s 10 % 2 := Int.tmod_eq_emod_of_nonneg b0
  unfold goodR at hG
  by_cases hall : numB (s.take 4) ≠ 0 ∧ numB (s.take 4) = numB (s.drop 124) ∧ numB ((s.drop 4).take 4) = sumB ((s.drop 8).take 116) ∧ numB ((s.drop 8).take 2) = k ∧
      at8 s 10 ≤ 3 ∧ at8 s 11 ≤ 112 ∧ (at8 s 10 < 2 → at8 s 11 = 112) ∧ (at8 s 10 % 2 = 0 → at8 s 11 ≠ 0)
  · obtain ⟨q1, q2, q3, q4, q5, q6, q7, q8⟩ := hall
    have hG : goodB s k = true ↔ ∀ i, 12 + (at8 s 11).toNat ≤ i → i < 124 → at8 s i = 0 := hG.trans ⟨fun h => h.2.2.2.2.2.2.2.2, fun h => ⟨q1, q2, q3, q4, q5, q6, q7, q8, h⟩⟩
    refine PCalls.of (N := 84) (res := [.tmp 4]) mixed Try.func72 rfl rfl rfl (by kernel_rfl) (by simp) [0, 1, 4, 5, 6, 72, 76, 83] ?_
    repeat' (first | exact cl1 | ((with_reducible show Exists _); refine exU8 ?_) | ((with_reducible show callX _ _ _ _ _); (first | refine call_p (p1) (by kernel_rfl) rfl ?_ | refine call_p (p2) (by kernel_rfl) rfl ?_ | refine call_p (p3) (by kernel_rfl) rfl ?_ | refine call_p (p4) (by kernel_rfl) rfl ?_ | refine call_p (p5) (by kernel_rfl) rfl ?_)) | ((fail_if_success with_reducible first | show LeG _ _ | show Lp _ _ _ _ | show Exists _ | show callX _ _ _ _ _ | show (_ : Int) ≤ _ | show (_ : Int) < _ | show (_ : Nat) ≤ _ | show (_ : Nat) < _); (conv => whnf) <;> (first | exact cl2 | refine ix_c h11 ?_ | refine ix_c h10 ?_ | refine XAlt.l ?_ | refine Sq.pr ?_ | refine Br.dec (fun hc => ?_) (fun hc => ?_) | refine Br.tt ?_ | refine Br.ff ?_ | refine Br.not ?_ | refine Br.mk (fun hc => ?_) (fun hc => ?_) | refine Opt.nn ?_ | refine Opt.ss ?_ | refine AltA.l ?_ | exact PV.leL_nil | refine PV.leL_cons ?_ ?_ | refine And.intro ?_ ?_ | refine ix_map (fun x hx => ?_) | refine exU8 ?_ | refine nilc (fun hn => ?_) ?_ | exact cl3 | refine imp0 (fun hpos => ?_) | refine fits_i64 ?_ ?_ | exact rfl | (with_reducible first | show LeG _ _ | show Lp _ _ _ _ | show Exists _ | show callX _ _ _ _ _)))) <;> (try exact cl5)
    all_goals first
    | (exfalso; omega)
    | skip
    all_goals
      refine Wpc.loopB (α := {i : Nat // 12 + (at8 s 11).toNat ≤ i ∧ i ≤ 124 ∧ ∀ j, 12 + (at8 s 11).toNat ≤ j → j < i → at8 s j = 0}) mixed [0, 1, 4, 5, 6, 72, 76, 83] (fun i => [(6, .p (eI i.1))]) (fun i => 124 - i.1) ⟨12 + (at8 s 11).toNat, by omega, by omega, fun j h1 h2 => by omega⟩ ?_ ?_
      · (first | refine Ent.ofA [] ?_ | refine Ent.ofC [] ?_) <;> (repeat' (first | exact trivial | refine HpLe.dd ?_ | refine HpLe.mk rfl (by simp) rfl (fun h => AObj.noConfusion h) ?_ ?_ | refine And.intro ?_ ?_ | exact cl9 | refine VLe.pe ?_ | refine VLe.agg ?_ | refine VLe.tup ?_ | refine VLe.fn ?_ ?_ | refine VLeL.cons ?_ ?_ | exact VLeL.nil | exact OLe.row _ _ | rfl | refine VLe.rsle rfl ?_ ?_ ?_ | refine OLe.rowe2 ?_ ?_ | refine OLe.mape ?_ ?_ | refine OLe.iter0 ?_ | refine OLe.itere ?_ ?_)) <;> try (first | (simp; done) | (congr 1; omega) | (congr 1; (first | (simp; done) | (simp; omega))))
        all_goals (refine congrArg (PV.int .i64) ?_; show 12 + IntKind.i64.wrap (at8 s 11) = ((12 + (at8 s 11).toNat : Nat) : Int); omega)
      rintro ⟨i, hi1, hi2, hi3⟩
      have hi1 : 12 + (at8 s 11).toNat ≤ i := hi1
      have hi2 : i ≤ 124 := hi2
      have hi3 : ∀ j, 12 + (at8 s 11).toNat ≤ j → j < i → at8 s j = 0 := hi3
      by_cases hlt : i < 124
      · have hyes : (i : Int) < 124 := by omega
        have hxi := at8_get (s := s) (i := i) (by omega)
        by_cases h0 : at8 s i = 0
        · have hno0 : ¬ at8 s i ≠ 0 := fun h => h h0
          repeat' (first | exact cl1 | ((with_reducible show Exists _); refine exU8 ?_) | ((fail_if_success with_reducible first | show LeG _ _ | show Lp _ _ _ _ | show Exists _ | show callX _ _ _ _ _ | show (_ : Int) ≤ _ | show (_ : Int) < _ | show (_ : Nat) ≤ _ | show (_ : Nat) < _); (conv => whnf) <;> (first | exact cl2 | refine Br.dec (fun hc => ?_) (fun hc => absurd hyes hc) | refine ix_c hxi ?_ | refine Br.dec (fun hc => absurd hc hno0) (fun hc => ?_) | refine XAlt.l ?_ | refine Sq.pr ?_ | refine Br.dec (fun hc => ?_) (fun hc => ?_) | refine Br.tt ?_ | refine Br.ff ?_ | refine Br.not ?_ | refine Br.mk (fun hc => ?_) (fun hc => ?_) | refine Opt.nn ?_ | refine Opt.ss ?_ | refine AltA.l ?_ | exact PV.leL_nil | refine PV.leL_cons ?_ ?_ | refine And.intro ?_ ?_ | refine ix_map (fun x hx => ?_) | refine exU8 ?_ | refine nilc (fun hn => ?_) ?_ | exact cl3 | refine imp0 (fun hpos => ?_) | refine fits_i64 ?_ ?_ | exact rfl | (with_reducible first | show LeG _ _ | show Lp _ _ _ _ | show Exists _ | show callX _ _ _ _ _)))) <;> (try exact cl5)
          all_goals
            refine ⟨⟨i + 1, by omega, hlt, fun j h1 h2 => ?_⟩, by show 124 - (i + 1) < 124 - i; omega, ?_⟩
            · rcases Nat.lt_succ_iff_lt_or_eq.1 h2 with h | h
              · exact hi3 j h1 h
              · subst h; exact h0
            · (first | refine Ent.ofA [] ?_ | refine Ent.ofC [] ?_) <;> (repeat' (first | exact trivial | refine HpLe.dd ?_ | refine HpLe.mk rfl (by simp) rfl (fun h => AObj.noConfusion h) ?_ ?_ | refine And.intro ?_ ?_ | exact cl9 | refine VLe.pe ?_ | refine VLe.agg ?_ | refine VLe.tup ?_ | refine VLe.fn ?_ ?_ | refine VLeL.cons ?_ ?_ | exact VLeL.nil | exact OLe.row _ _ | rfl | refine VLe.rsle rfl ?_ ?_ ?_ | refine OLe.rowe2 ?_ ?_ | refine OLe.mape ?_ ?_ | refine OLe.iter0 ?_ | refine OLe.itere ?_ ?_)) <;> try (first | (simp; done) | (congr 1; omega) | (congr 1; (first | (simp; done) | (simp; omega))))
        · have hF : goodB s k = false := Bool.eq_false_iff.2 fun h => h0 (hG.1 h i hi1 hlt)
          rw [hF]
          repeat' (first | exact cl1 | ((with_reducible show Exists _); refine exU8 ?_) | ((fail_if_success with_reducible first | show LeG _ _ | show Lp _ _ _ _ | show Exists _ | show callX _ _ _ _ _ | show (_ : Int) ≤ _ | show (_ : Int) < _ | show (_ : Nat) ≤ _ | show (_ : Nat) < _); (conv => whnf) <;> (first | exact cl2 | refine Br.dec (fun hc => ?_) (fun hc => absurd hyes hc) | refine ix_c hxi ?_ | refine Br.dec (fun hc => ?_) (fun hc => absurd h0 hc) | refine XAlt.l ?_ | refine Sq.pr ?_ | refine Br.dec (fun hc => ?_) (fun hc => ?_) | refine Br.tt ?_ | refine Br.ff ?_ | refine Br.not ?_ | refine Br.mk (fun hc => ?_) (fun hc => ?_) | refine Opt.nn ?_ | refine Opt.ss ?_ | refine AltA.l ?_ | exact PV.leL_nil | refine PV.leL_cons ?_ ?_ | refine And.intro ?_ ?_ | refine ix_map (fun x hx => ?_) | refine exU8 ?_ | refine nilc (fun hn => ?_) ?_ | exact cl3 | refine imp0 (fun hpos => ?_) | refine fits_i64 ?_ ?_ | exact rfl | (with_reducible first | show LeG _ _ | show Lp _ _ _ _ | show Exists _ | show callX _ _ _ _ _)))) <;> (try exact cl5)
      · have hno : ¬ (i : Int) < 124 := by omega
        rw [hG.2 fun j h1 h2 => hi3 j h1 (by omega)]
        repeat' (first | exact cl1 | ((with_reducible show Exists _); refine exU8 ?_) | ((fail_if_success with_reducible first | show LeG _ _ | show Lp _ _ _ _ | show Exists _ | show callX _ _ _ _ _ | show (_ : Int) ≤ _ | show (_ : Int) < _ | show (_ : Nat) ≤ _ | show (_ : Nat) < _); (conv => whnf) <;> (first | exact cl2 | refine Br.dec (fun hc => absurd hc hno) (fun hc => ?_) | refine XAlt.l ?_ | refine Sq.pr ?_ | refine Br.dec (fun hc => ?_) (fun hc => ?_) | refine Br.tt ?_ | refine Br.ff ?_ | refine Br.not ?_ | refine Br.mk (fun hc => ?_) (fun hc => ?_) | refine Opt.nn ?_ | refine Opt.ss ?_ | refine AltA.l ?_ | exact PV.leL_nil | refine PV.leL_cons ?_ ?_ | refine And.intro ?_ ?_ | refine ix_map (fun x hx => ?_) | refine exU8 ?_ | refine nilc (fun hn => ?_) ?_ | exact cl3 | refine imp0 (fun hpos => ?_) | refine fits_i64 ?_ ?_ | exact rfl | (with_reducible first | show LeG _ _ | show Lp _ _ _ _ | show Exists _ | show callX _ _ _ _ _)))) <;> (try exact cl5)
  · have hF : goodB s k = false := Bool.eq_false_iff.2 fun h => hall (by obtain ⟨q1, q2, q3, q4, q5, q6, q7, q8, _⟩ := hG.1 h; exact ⟨q1, q2, q3, q4, q5, q6, q7, q8⟩)
    rw [hF]
    refine PCalls.of (N := 84) (res := [.tmp 4]) mixed Try.func72 rfl rfl rfl (by kernel_rfl) (by simp) [0, 1, 4, 5, 6, 72, 76, 83] ?_
    repeat' (first | exact cl1 | ((with_reducible show Exists _); refine exU8 ?_) | ((with_reducible show callX _ _ _ _ _); (first | refine call_p (p1) (by kernel_rfl) rfl ?_ | refine call_p (p2) (by kernel_rfl) rfl ?_ | refine call_p (p3) (by kernel_rfl) rfl ?_ | refine call_p (p4) (by kernel_rfl) rfl ?_ | refine call_p (p5) (by kernel_rfl) rfl ?_)) | ((fail_if_success with_reducible first | show LeG _ _ | show Lp _ _ _ _ | show Exists _ | show callX _ _ _ _ _ | show (_ : Int) ≤ _ | show (_ : Int) < _ | show (_ : Nat) ≤ _ | show (_ : Nat) < _); (conv => whnf) <;> (first | exact cl2 | refine ix_c h11 ?_ | refine ix_c h10 ?_ | refine XAlt.l ?_ | refine Sq.pr ?_ | refine Br.dec (fun hc => ?_) (fun hc => ?_) | refine Br.tt ?_ | refine Br.ff ?_ | refine Br.not ?_ | refine Br.mk (fun hc => ?_) (fun hc => ?_) | refine Opt.nn ?_ | refine Opt.ss ?_ | refine AltA.l ?_ | exact PV.leL_nil | refine PV.leL_cons ?_ ?_ | refine And.intro ?_ ?_ | refine ix_map (fun x hx => ?_) | refine exU8 ?_ | refine nilc (fun hn => ?_) ?_ | exact cl3 | refine imp0 (fun hpos => ?_) | refine fits_i64 ?_ ?_ | exact rfl | (with_reducible first | show LeG _ _ | show Lp _ _ _ _ | show Exists _ | show callX _ _ _ _ _)))) <;> (try exact cl5)
    all_goals first
    | exact LeG.refl _
    | (exfalso; omega)
end Go.Proofs.Ytijkiolobmkhhaa

namespace Go.Proofs.Ytijkiolobmkhhaa
open Go Go.Sg
set_option maxRecDepth 100000
set_option maxHeartbeats 20000000
/-- The records on sectors. -/
def recB (l : List Bs) : List Bs := (recsL l).map (·.2)
def openJ (d : Dk) : Jn × Int := if okD d then (if d.stop then (j0, 40) else if 0 < ((d.pend.map eW).length : Int) then (j0, 1) else (⟨recB d.secs, d.secs.length, (recB d.secs).length⟩, 0)) else (j0, 40)
theorem records_calls (l : List Bs) : PCalls Try.prog 32 [eS l] (.fn (.func 60) [] [.ro [eS l]]) := by
  refine PCalls.of (N := 4) (res := [.tmp 2]) mixed Try.func32 rfl rfl rfl (by kernel_rfl) (by simp) [0, 1, 2] ?_
  repeat' (first | exact cl1 | ((with_reducible show Exists _); refine exU8 ?_) | ((fail_if_success with_reducible first | show LeG _ _ | show Lp _ _ _ _ | show Exists _ | show callX _ _ _ _ _ | show (_ : Int) ≤ _ | show (_ : Int) < _ | show (_ : Nat) ≤ _ | show (_ : Nat) < _); (conv => whnf) <;> (first | exact cl2 | refine XAlt.l ?_ | refine Sq.pr ?_ | refine Br.dec (fun hc => ?_) (fun hc => ?_) | refine Br.tt ?_ | refine Br.ff ?_ | refine Br.not ?_ | refine Br.mk (fun hc => ?_) (fun hc => ?_) | refine Opt.nn ?_ | refine Opt.ss ?_ | refine AltA.l ?_ | exact PV.leL_nil | refine PV.leL_cons ?_ ?_ | refine And.intro ?_ ?_ | refine ix_map (fun x hx => ?_) | refine exU8 ?_ | refine nilc (fun hn => ?_) ?_ | exact cl3 | refine imp0 (fun hpos => ?_) | refine fits_i64 ?_ ?_ | exact rfl | (with_reducible first | show LeG _ _ | show Lp _ _ _ _ | show Exists _ | show callX _ _ _ _ _)))) <;> (try exact cl5)
theorem recsA_len (l : List Bs) : ∀ (f i last : Nat), i ≤ l.length → (recsA l f i last).length + i ≤ l.length
  | 0, i, last, hi => by rw [recsA]; exact Nat.le_trans (Nat.le_of_eq (Nat.zero_add _)) hi
  | f + 1, i, last, hi => by
    rw [recsA]
    cases hr : recAt l i with
    | none => exact Nat.le_trans (Nat.le_of_eq (Nat.zero_add _)) hi
    | some y =>
      obtain ⟨b, m⟩ := y
      obtain ⟨h1, h2⟩ := recAt_m hr
      dsimp only
      split
      · exact Nat.le_trans (Nat.le_of_eq (Nat.zero_add _)) hi
      · have := recsA_len l f (i + m) (gAt l i) h2
        rw [List.length_cons]; omega
theorem recB_len (l : List Bs) : (recB l).length ≤ l.length := by
  unfold recB recsL
  rw [List.length_map]
  have := recsA_len l (l.length + 1) 0 0 (Nat.zero_le _)
  omega
def outV (n : Nat) : List Bs → AV
  | [] => .p (.sl 0 true [])
  | a :: r => .rsl n 1 0 (r.length + 1)
def outH (n : Nat) : List Bs → Heap
  | [] => []
  | a :: r => [(n, .row 1 ((a :: r).map eB))]
theorem open_calls (d : Dk) (h1 : d.secs.length < 1000000) (h2 : d.pend.length < 1000000) (hB : ∀ s ∈ d.secs, B8 s) : PCalls Try.prog 12 [eD d] (eJR (openJ d)) := by
  have p1 := check_calls d h1 h2
  unfold openJ
  cases hd : okD d with
  | false =>
    rw [hd, if_neg Bool.false_ne_true] at p1
    rw [if_neg Bool.false_ne_true]
    refine PCalls.of (N := 41) (res := [.cell 2 29, .tmp 3]) mixed Try.func12 rfl rfl rfl (by kernel_rfl) (by simp) [0, 1, 2, 3, 4, 6, 10, 14, 19, 27, 29] ?_
    repeat' (first | exact cl1 | ((with_reducible show Exists _); refine exU8 ?_) | ((with_reducible show callX _ _ _ _ _); (first | refine call_p (p1) (by kernel_rfl) rfl ?_)) | ((fail_if_success with_reducible first | show LeG _ _ | show Lp _ _ _ _ | show Exists _ | show callX _ _ _ _ _ | show (_ : Int) ≤ _ | show (_ : Int) < _ | show (_ : Nat) ≤ _ | show (_ : Nat) < _); (conv => whnf) <;> (first | exact cl2 | refine XAlt.l ?_ | refine Sq.pr ?_ | refine Br.dec (fun hc => ?_) (fun hc => ?_) | refine Br.tt ?_ | refine Br.ff ?_ | refine Br.not ?_ | refine Br.mk (fun hc => ?_) (fun hc => ?_) | refine Opt.nn ?_ | refine Opt.ss ?_ | refine AltA.l ?_ | exact PV.leL_nil | refine PV.leL_cons ?_ ?_ | refine And.intro ?_ ?_ | refine ix_map (fun x hx => ?_) | refine exU8 ?_ | refine nilc (fun hn => ?_) ?_ | exact cl3 | refine imp0 (fun hpos => ?_) | refine fits_i64 ?_ ?_ | exact rfl | (with_reducible first | show LeG _ _ | show Lp _ _ _ _ | show Exists _ | show callX _ _ _ _ _)))) <;> (try exact cl5)
    ((all_goals (try simp only [*, ↓reduceIte, Bool.false_eq_true, Bool.not_true, Bool.not_false, Bool.and_true, Bool.true_and, Bool.and_false, Bool.false_and, List.nil_append, List.drop_zero, Nat.zero_add, List.take_length, Int.toNat_natCast, Int.toNat_zero, List.append_nil]))); ((all_goals (try refine LeG.mk ?_)); (repeat' (first | exact PV.le_refl _ | exact PV.le_nil _ _ _ | exact PV.le_clip _ _ _ | exact PV.le_nilF _ _ _ | refine PV.le_agg ?_ | refine PV.le_tup ?_ | exact PV.leL_nil | refine PV.leL_cons ?_ ?_ | refine PV.le_of ?_ | rfl)))
  | true =>
    rw [hd, if_pos rfl] at p1
    rw [if_pos rfl]
    obtain ⟨⟨k1, k2⟩, k3, k4, k5, k6⟩ := okD_spec hd
    have hit := records_iter d.secs k2 (fun s hs => ⟨k6 s hs, hB s hs⟩)
    have hrl := recB_len d.secs
    refine PCalls.of (N := 41) (res := [.cell 2 29, .tmp 3]) mixed Try.func12 rfl rfl rfl (by kernel_rfl) (by simp) [0, 1, 2, 3, 4, 6, 10, 14, 19, 27, 29] ?_
    repeat' (first | exact cl1 | ((with_reducible show Exists _); refine exU8 ?_) | ((with_reducible show callX _ _ _ _ _); (first | refine call_p (p1) (by kernel_rfl) rfl ?_ | refine call_p (records_calls d.secs) (by kernel_rfl) rfl ?_)) | ((fail_if_success with_reducible first | show LeG _ _ | show Lp _ _ _ _ | show Exists _ | show callX _ _ _ _ _ | show (_ : Int) ≤ _ | show (_ : Int) < _ | show (_ : Nat) ≤ _ | show (_ : Nat) < _); (conv => whnf) <;> (first | exact cl2 | refine XAlt.l ?_ | refine Sq.pr ?_ | refine Br.dec (fun hc => ?_) (fun hc => ?_) | refine Br.tt ?_ | refine Br.ff ?_ | refine Br.not ?_ | refine Br.mk (fun hc => ?_) (fun hc => ?_) | refine Opt.nn ?_ | refine Opt.ss ?_ | refine AltA.l ?_ | exact PV.leL_nil | refine PV.leL_cons ?_ ?_ | refine And.intro ?_ ?_ | refine ix_map (fun x hx => ?_) | refine exU8 ?_ | refine nilc (fun hn => ?_) ?_ | exact cl3 | refine imp0 (fun hpos => ?_) | refine fits_i64 ?_ ?_ | exact rfl | (with_reducible first | show LeG _ _ | show Lp _ _ _ _ | show Exists _ | show callX _ _ _ _ _)))) <;> (try exact cl5)
    · rw [if_pos hc]; ((all_goals (try refine LeG.mk ?_)); (repeat' (first | exact PV.le_refl _ | exact PV.le_nil _ _ _ | exact PV.le_clip _ _ _ | exact PV.le_nilF _ _ _ | refine PV.le_agg ?_ | refine PV.le_tup ?_ | exact PV.leL_nil | refine PV.leL_cons ?_ ?_ | refine PV.le_of ?_ | rfl)))
    · rename_i hst
      rw [if_neg (by rw [hst]; exact Bool.noConfusion), if_pos hc]
      ((all_goals (try refine LeG.mk ?_)); (repeat' (first | exact PV.le_refl _ | exact PV.le_nil _ _ _ | exact PV.le_clip _ _ _ | exact PV.le_nilF _ _ _ | refine PV.le_agg ?_ | refine PV.le_tup ?_ | exact PV.leL_nil | refine PV.leL_cons ?_ ?_ | refine PV.le_of ?_ | rfl)))
    · rename_i hst
      rw [if_neg (by rw [hst]; exact Bool.noConfusion), if_neg hc]
      have hmap : (d.secs.map eB).length = d.secs.length := List.length_map _
      have hxs : ∀ x ∈ (recsL d.secs).map yR, x.length = 2 := fun x hx => by
        obtain ⟨y, _, rfl⟩ := List.mem_map.1 hx; rfl
      have hget : ∀ i y, (recsL d.secs)[i]? = some y → ((recsL d.secs).map yR).getD i [] = yR y := fun i y h => by simp [List.getD, h]
      rw [hmap]
      have hF : recB d.secs = (recsL d.secs).map (·.2) := rfl
      have hRl : (recsL d.secs).length ≤ d.secs.length := by rw [hF, List.length_map] at hrl; exact hrl
      generalize recB d.secs = F at *
      refine Wpc.range mixed hit (by kernel_rfl) rfl [0, 1, 2, 3, 4, 6, 10, 14, 19, 27, 29] (recsL d.secs).length [64, 0] (fun i => ([(64, .cells [outV 1 (F.take i), .p (.int .i64 d.secs.length), .p (.int .i64 0)]), (0, .cells [.p (eS d.secs), .p (eP d.pend), .p (eI d.left), .p (.bool d.stop)])] ++ outH 1 (F.take i), 1408)) rfl (hen_of rfl) (by simp) (by simp) hxs (fun i hi hm => ?_) (fun _ => ?_)
      · rw [List.length_map] at hi
        obtain ⟨y, hy⟩ : ∃ y, (recsL d.secs)[i]? = some y := ⟨_, List.getElem?_eq_getElem hi⟩
        rw [hget i y hy]
        have hFy : F[i]? = some y.2 := by rw [hF, List.getElem?_map, hy]; rfl
        have ht : F.take (i + 1) = F.take i ++ [y.2] := by rw [List.take_add_one, hFy]; rfl
        have hgl : (F.take i).length ≤ F.length := by rw [List.length_take]; omega
        show aw _ _ _ ⟨_, [(64, .cells [outV 1 (F.take i), .p (.int .i64 d.secs.length), .p (.int .i64 0)]), (0, .cells [.p (eS d.secs), .p (eP d.pend), .p (eI d.left), .p (.bool d.stop)])] ++ outH 1 (F.take i), _, _⟩ _
        cases hG : F.take i with
        | nil =>
          rw [hG] at ht
          repeat' (first | exact cl1 | ((with_reducible show Exists _); refine exU8 ?_) | ((fail_if_success with_reducible first | show LeG _ _ | show Lp _ _ _ _ | show Exists _ | show callX _ _ _ _ _ | show (_ : Int) ≤ _ | show (_ : Int) < _ | show (_ : Nat) ≤ _ | show (_ : Nat) < _); (conv => whnf) <;> (first | exact cl2 | refine XAlt.l ?_ | refine Sq.pr ?_ | refine Br.dec (fun hc => ?_) (fun hc => ?_) | refine Br.tt ?_ | refine Br.ff ?_ | refine Br.not ?_ | refine Br.mk (fun hc => ?_) (fun hc => ?_) | refine Opt.nn ?_ | refine Opt.ss ?_ | refine AltA.l ?_ | exact PV.leL_nil | refine PV.leL_cons ?_ ?_ | refine And.intro ?_ ?_ | refine ix_map (fun x hx => ?_) | refine exU8 ?_ | refine nilc (fun hn => ?_) ?_ | exact cl3 | refine imp0 (fun hpos => ?_) | refine fits_i64 ?_ ?_ | exact rfl | (with_reducible first | show LeG _ _ | show Lp _ _ _ _ | show Exists _ | show callX _ _ _ _ _)))) <;> (try exact cl5)
          show Ent _ _ ⟨[], [(64, .cells [outV 1 (F.take (i + 1)), .p (.int .i64 d.secs.length), .p (.int .i64 0)]), (0, .cells [.p (eS d.secs), .p (eP d.pend), .p (eI d.left), .p (.bool d.stop)])] ++ outH 1 (F.take (i + 1)), 1408, _⟩
          rw [ht]
          (refine Ent.ofK [] ?_) <;> (repeat' (first | exact trivial | refine HpLe.dd ?_ | refine HpLe.mk rfl (by simp) rfl (fun h => AObj.noConfusion h) ?_ ?_ | refine And.intro ?_ ?_ | exact cl9 | refine VLe.pe ?_ | refine VLe.agg ?_ | refine VLe.tup ?_ | refine VLe.fn ?_ ?_ | refine VLeL.cons ?_ ?_ | exact VLeL.nil | exact OLe.row _ _ | rfl | refine VLe.rsle rfl ?_ ?_ ?_ | refine OLe.rowe2 ?_ ?_ | refine OLe.mape ?_ ?_ | refine OLe.iter0 ?_ | refine OLe.itere ?_ ?_)) <;> try (first | (simp; done) | (congr 1; omega) | (congr 1; (first | (simp; done) | (simp; omega))))
        | cons a r =>
          rw [hG] at ht
          have hrl : r.length + 1 ≤ 1000000 := by have := hgl; rw [hG] at this; simp at this; omega
          repeat' (first | exact cl1 | ((with_reducible show Exists _); refine exU8 ?_) | ((fail_if_success with_reducible first | show LeG _ _ | show Lp _ _ _ _ | show Exists _ | show callX _ _ _ _ _ | show (_ : Int) ≤ _ | show (_ : Int) < _ | show (_ : Nat) ≤ _ | show (_ : Nat) < _); (conv => whnf) <;> (first | exact cl2 | refine XAlt.l ?_ | refine Sq.pr ?_ | refine Br.dec (fun hc => ?_) (fun hc => ?_) | refine Br.tt ?_ | refine Br.ff ?_ | refine Br.not ?_ | refine Br.mk (fun hc => ?_) (fun hc => ?_) | refine Opt.nn ?_ | refine Opt.ss ?_ | refine AltA.l ?_ | exact PV.leL_nil | refine PV.leL_cons ?_ ?_ | refine And.intro ?_ ?_ | refine ix_map (fun x hx => ?_) | refine exU8 ?_ | refine nilc (fun hn => ?_) ?_ | exact cl3 | refine imp0 (fun hpos => ?_) | refine fits_i64 ?_ ?_ | exact rfl | (with_reducible first | show LeG _ _ | show Lp _ _ _ _ | show Exists _ | show callX _ _ _ _ _)))) <;> (try exact cl5)
          show Ent _ _ ⟨[], [(64, .cells [outV 1 (F.take (i + 1)), .p (.int .i64 d.secs.length), .p (.int .i64 0)]), (0, .cells [.p (eS d.secs), .p (eP d.pend), .p (eI d.left), .p (.bool d.stop)])] ++ outH 1 (F.take (i + 1)), 1408, _⟩
          rw [ht]
          (refine Ent.ofK [] ?_) <;> (repeat' (first | exact trivial | refine HpLe.dd ?_ | refine HpLe.mk rfl (by simp) rfl (fun h => AObj.noConfusion h) ?_ ?_ | refine And.intro ?_ ?_ | exact cl9 | refine VLe.pe ?_ | refine VLe.agg ?_ | refine VLe.tup ?_ | refine VLe.fn ?_ ?_ | refine VLeL.cons ?_ ?_ | exact VLeL.nil | exact OLe.row _ _ | rfl | refine VLe.rsle rfl ?_ ?_ ?_ | refine OLe.rowe2 ?_ ?_ | refine OLe.mape ?_ ?_ | refine OLe.iter0 ?_ | refine OLe.itere ?_ ?_)) <;> try (first | (simp; done) | (congr 1; omega) | (congr 1; (first | (simp; done) | (simp; omega))))
      · have eF : F.take ((recsL d.secs).map yR).length = F := by rw [hF, List.length_map, List.take_of_length_le (by rw [List.length_map]; exact Nat.le_refl _)]
        show Kt.n _ ⟨_, [(64, .cells [outV 1 (F.take ((recsL d.secs).map yR).length), .p (.int .i64 d.secs.length), .p (.int .i64 0)]), (0, .cells [.p (eS d.secs), .p (eP d.pend), .p (eI d.left), .p (.bool d.stop)])] ++ outH 1 (F.take ((recsL d.secs).map yR).length), _, _⟩
        rw [eF]
        cases hG : F with
        | nil =>
          repeat' (first | exact cl1 | ((with_reducible show Exists _); refine exU8 ?_) | ((fail_if_success with_reducible first | show LeG _ _ | show Lp _ _ _ _ | show Exists _ | show callX _ _ _ _ _ | show (_ : Int) ≤ _ | show (_ : Int) < _ | show (_ : Nat) ≤ _ | show (_ : Nat) < _); (conv => whnf) <;> (first | exact cl2 | refine XAlt.l ?_ | refine Sq.pr ?_ | refine Br.dec (fun hc => ?_) (fun hc => ?_) | refine Br.tt ?_ | refine Br.ff ?_ | refine Br.not ?_ | refine Br.mk (fun hc => ?_) (fun hc => ?_) | refine Opt.nn ?_ | refine Opt.ss ?_ | refine AltA.l ?_ | exact PV.leL_nil | refine PV.leL_cons ?_ ?_ | refine And.intro ?_ ?_ | refine ix_map (fun x hx => ?_) | refine exU8 ?_ | refine nilc (fun hn => ?_) ?_ | exact cl3 | refine imp0 (fun hpos => ?_) | refine fits_i64 ?_ ?_ | exact rfl | (with_reducible first | show LeG _ _ | show Lp _ _ _ _ | show Exists _ | show callX _ _ _ _ _)))) <;> (try exact cl5)
          ((all_goals (try refine LeG.mk ?_)); (repeat' (first | exact PV.le_refl _ | exact PV.le_nil _ _ _ | exact PV.le_clip _ _ _ | exact PV.le_nilF _ _ _ | refine PV.le_agg ?_ | refine PV.le_tup ?_ | exact PV.leL_nil | refine PV.leL_cons ?_ ?_ | refine PV.le_of ?_ | rfl)))
        | cons a r =>
          repeat' (first | exact cl1 | ((with_reducible show Exists _); refine exU8 ?_) | ((fail_if_success with_reducible first | show LeG _ _ | show Lp _ _ _ _ | show Exists _ | show callX _ _ _ _ _ | show (_ : Int) ≤ _ | show (_ : Int) < _ | show (_ : Nat) ≤ _ | show (_ : Nat) < _); (conv => whnf) <;> (first | exact cl2 | refine XAlt.l ?_ | refine Sq.pr ?_ | refine Br.dec (fun hc => ?_) (fun hc => ?_) | refine Br.tt ?_ | refine Br.ff ?_ | refine Br.not ?_ | refine Br.mk (fun hc => ?_) (fun hc => ?_) | refine Opt.nn ?_ | refine Opt.ss ?_ | refine AltA.l ?_ | exact PV.leL_nil | refine PV.leL_cons ?_ ?_ | refine And.intro ?_ ?_ | refine ix_map (fun x hx => ?_) | refine exU8 ?_ | refine nilc (fun hn => ?_) ?_ | exact cl3 | refine imp0 (fun hpos => ?_) | refine fits_i64 ?_ ?_ | exact rfl | (with_reducible first | show LeG _ _ | show Lp _ _ _ _ | show Exists _ | show callX _ _ _ _ _)))) <;> (try exact cl5)
          rw [List.drop_zero, List.take_of_length_le (by simp)]
          ((all_goals (try refine LeG.mk ?_)); (repeat' (first | exact PV.le_refl _ | exact PV.le_nil _ _ _ | exact PV.le_clip _ _ _ | exact PV.le_nilF _ _ _ | refine PV.le_agg ?_ | refine PV.le_tup ?_ | exact PV.leL_nil | refine PV.leL_cons ?_ ?_ | refine PV.le_of ?_ | rfl)))
end Go.Proofs.Ytijkiolobmkhhaa

namespace Go.Proofs.Ytijkiolobmkhhaa
open Go Go.Sg
set_option maxRecDepth 100000
set_option maxHeartbeats 40000000
theorem take_app (a : Bs) (X : List PV) : List.take (a.length + X.length) (List.drop 0 (a.map (PV.int .u8) ++ X)) = a.map (PV.int .u8) ++ X := by
  rw [List.drop_zero, List.take_of_length_le (by rw [List.length_append, List.length_map]; exact Nat.le_refl _)]
def eRA : Option (Bs × Nat) → PV
  | some (b, m) => .tup [eB b, eI m]
  | none => .tup [.sl 1 true [], eI 0]
theorem record_calls (l : List Bs) (i : Nat) (hi : i ≤ l.length) (hl : l.length ≤ 4096) (hB : ∀ s ∈ l, s.length = 128 ∧ B8 s) : PCalls Try.prog 62 [eS l, eI i] (eRA (recAt l i)) := by
  have hlm : (l.map eB).length = l.length := List.length_map _
  refine PCalls.of (N := 72) (res := [.tmp 4, .tmp 5]) mixed Try.func62 rfl rfl rfl (by kernel_rfl) (by simp) [0, 1, 4, 5, 6, 7, 8, 15, 55, 68] ?_
  repeat' (first | exact cl1 | ((with_reducible show Exists _); refine exU8 ?_) | ((fail_if_success with_reducible first | show LeG _ _ | show Lp _ _ _ _ | show Exists _ | show callX _ _ _ _ _ | show (_ : Int) ≤ _ | show (_ : Int) < _ | show (_ : Nat) ≤ _ | show (_ : Nat) < _); (conv => whnf) <;> (first | exact cl2 | refine XAlt.l ?_ | refine Sq.pr ?_ | refine Br.dec (fun hc => ?_) (fun hc => ?_) | refine Br.tt ?_ | refine Br.ff ?_ | refine Br.not ?_ | refine Br.mk (fun hc => ?_) (fun hc => ?_) | refine Opt.nn ?_ | refine Opt.ss ?_ | refine AltA.l ?_ | exact PV.leL_nil | refine PV.leL_cons ?_ ?_ | refine And.intro ?_ ?_ | refine ix_map (fun x hx => ?_) | refine exU8 ?_ | refine nilc (fun hn => ?_) ?_ | exact cl3 | refine imp0 (fun hpos => ?_) | refine fits_i64 ?_ ?_ | exact rfl | (with_reducible first | show LeG _ _ | show Lp _ _ _ _ | show Exists _ | show callX _ _ _ _ _)))) <;> (try exact cl5)
  refine Wpc.loopA (α := {x : Nat × Bs // i + x.1 ≤ l.length ∧ x.2.length ≤ 128 * x.1 ∧ recAt l i = (scanR (l.drop (i + x.1)) (i + x.1) (decide (x.1 = 0)) (gAt l i)).map (fun y => (x.2 ++ y.1, y.2 + x.1))}) mixed [0, 1, 4, 5, 6, 7, 8, 15, 55, 68] (fun x => [(6, .rsl 128 1 0 x.1.2.length), (7, .p (eI x.1.1))]) (fun x => [(128, .row 1 (x.1.2.map (.int .u8)))]) (fun _ => 0) (fun x => l.length - x.1.1) ⟨(0, []), hi, Nat.zero_le _, by (show recAt l i = (scanR (l.drop (i + 0)) (i + 0) (decide (0 = 0)) (gAt l i)).map (fun y => ([] ++ y.1, y.2 + 0))); rw [decide_eq_true rfl, Nat.add_zero]; unfold recAt; cases scanR (l.drop i) i true (gAt l i) <;> simp⟩ ?_ ?_
  · (first | refine Ent.ofA [] ?_ | refine Ent.ofC [] ?_) <;> (repeat' (first | exact trivial | refine HpLe.dd ?_ | refine HpLe.mk rfl (by simp) rfl (fun h => AObj.noConfusion h) ?_ ?_ | refine And.intro ?_ ?_ | exact cl9 | refine VLe.pe ?_ | refine VLe.agg ?_ | refine VLe.tup ?_ | refine VLe.fn ?_ ?_ | refine VLeL.cons ?_ ?_ | exact VLeL.nil | exact OLe.row _ _ | rfl | refine VLe.rsle rfl ?_ ?_ ?_ | refine OLe.rowe2 ?_ ?_ | refine OLe.mape ?_ ?_ | refine OLe.iter0 ?_ | refine OLe.itere ?_ ?_)) <;> try (first | (simp; done) | (congr 1; omega) | (congr 1; (first | (simp; done) | (simp; omega))))
  rintro ⟨⟨n, acc⟩, hn, hal, hrec⟩
  have hn : i + n ≤ l.length := hn
  have hal : acc.length ≤ 128 * n := hal
  have hrec : recAt l i = (scanR (l.drop (i + n)) (i + n) (decide (n = 0)) (gAt l i)).map (fun y => (acc ++ y.1, y.2 + n)) := hrec
  cases hxn : l[i + n]? with
  | none =>
    have hge : l.length ≤ i + n := List.getElem?_eq_none_iff.1 hxn
    have hno : ¬ ((i : Int) + (n : Int) < ((l.map eB).length : Int)) := by omega
    rw [scanR_end hge] at hrec
    repeat' (first | exact cl1 | ((with_reducible show Exists _); refine exU8 ?_) | ((fail_if_success with_reducible first | show LeG _ _ | show Lp _ _ _ _ | show Exists _ | show callX _ _ _ _ _ | show (_ : Int) ≤ _ | show (_ : Int) < _ | show (_ : Nat) ≤ _ | show (_ : Nat) < _); (conv => whnf) <;> (first | exact cl2 | refine Br.dec (fun hc => absurd hc hno) (fun hc => ?_) | refine XAlt.l ?_ | refine Sq.pr ?_ | refine Br.dec (fun hc => ?_) (fun hc => ?_) | refine Br.tt ?_ | refine Br.ff ?_ | refine Br.not ?_ | refine Br.mk (fun hc => ?_) (fun hc => ?_) | refine Opt.nn ?_ | refine Opt.ss ?_ | refine AltA.l ?_ | exact PV.leL_nil | refine PV.leL_cons ?_ ?_ | refine And.intro ?_ ?_ | refine ix_map (fun x hx => ?_) | refine exU8 ?_ | refine nilc (fun hn => ?_) ?_ | exact cl3 | refine imp0 (fun hpos => ?_) | refine fits_i64 ?_ ?_ | exact rfl | (with_reducible first | show LeG _ _ | show Lp _ _ _ _ | show Exists _ | show callX _ _ _ _ _)))) <;> (try exact cl5)
    all_goals (rw [hrec]; ((all_goals (try refine LeG.mk ?_)); (repeat' (first | exact PV.le_refl _ | exact PV.le_nil _ _ _ | exact PV.le_clip _ _ _ | exact PV.le_nilF _ _ _ | refine PV.le_agg ?_ | refine PV.le_tup ?_ | exact PV.leL_nil | refine PV.leL_cons ?_ ?_ | refine PV.le_of ?_ | rfl))))
  | some s =>
    have hlt : i + n < l.length := (List.getElem?_eq_some_iff.1 hxn).1
    have hyes : ((i : Int) + (n : Int) < ((l.map eB).length : Int)) := by omega
    obtain ⟨si, hxi⟩ : ∃ si, l[i]? = some si := ⟨_, List.getElem?_eq_getElem (by omega)⟩
    obtain ⟨s1, s2⟩ := hB s (List.mem_of_getElem? hxn)
    obtain ⟨t1, t2⟩ := hB si (List.mem_of_getElem? hxi)
    have hgi : gAt l i = genS si := by unfold gAt; rw [List.getD, hxi]; rfl
    have e4 : ∀ s : Bs, eB (s.take 4) = .sl 1 false (List.drop (Int.toNat 0) (List.take (Int.toNat 4) (s.map (PV.int .u8)))) := fun s => eB_sl s 0 4
    have p1 := rgood_calls s (i + n) s1 s2 (by omega)
    have p2 := number_calls (s.take 4) (s2.take 4) (by rw [List.length_take]; omega)
    have p3 := number_calls (si.take 4) (t2.take 4) (by rw [List.length_take]; omega)
    rw [e4] at p2 p3
    rw [show eI ((i + n : Nat) : Int) = .int .i64 ((i : Int) + (n : Int)) from congrArg (PV.int .i64) (Int.natCast_add i n)] at p1
    have h11 := at8_get (s := s) (i := 11) (by omega)
    have h10 := at8_get (s := s) (i := 10) (by omega)
    obtain ⟨a0, a1⟩ := at8_B8 s2 11
    obtain ⟨b0, b1⟩ := at8_B8 s2 10
    have ht : (at8 s 10).tmod 2 = at8 s 10 % 2 := Int.tmod_eq_emod_of_nonneg b0
    have hw : IntKind.i64.wrap (at8 s 11) = at8 s 11 := wrap_i64 (by omega) (by omega)
    rw [scanR_cons hxn] at hrec
    have hms : (s.map (PV.int .u8)).length = 128 := by rw [List.length_map, s1]
    have hmi : (si.map (PV.int .u8)).length = 128 := by rw [List.length_map, t1]
    have hxn' : l[((i : Int) + (n : Int)).toNat]? = some s := by rw [show ((i : Int) + (n : Int)).toNat = i + n by omega]; exact hxn
    cases hg : goodB s (i + n) with
    | false =>
      rw [hg] at p1
      rw [hg, if_neg (fun h => Bool.noConfusion h.1)] at hrec
      repeat' (first | exact cl1 | ((with_reducible show Exists _); refine exU8 ?_) | ((with_reducible show callX _ _ _ _ _); (first | refine call_p (p1) (by kernel_rfl) rfl ?_)) | ((fail_if_success with_reducible first | show LeG _ _ | show Lp _ _ _ _ | show Exists _ | show callX _ _ _ _ _ | show (_ : Int) ≤ _ | show (_ : Int) < _ | show (_ : Nat) ≤ _ | show (_ : Nat) < _); (conv => whnf) <;> (first | exact cl2 | refine Br.dec (fun hc => ?_) (fun hc => absurd hyes hc) | refine ix_b hxn' ?_ | refine XAlt.l ?_ | refine Sq.pr ?_ | refine Br.dec (fun hc => ?_) (fun hc => ?_) | refine Br.tt ?_ | refine Br.ff ?_ | refine Br.not ?_ | refine Br.mk (fun hc => ?_) (fun hc => ?_) | refine Opt.nn ?_ | refine Opt.ss ?_ | refine AltA.l ?_ | exact PV.leL_nil | refine PV.leL_cons ?_ ?_ | refine And.intro ?_ ?_ | refine ix_map (fun x hx => ?_) | refine exU8 ?_ | refine nilc (fun hn => ?_) ?_ | exact cl3 | refine imp0 (fun hpos => ?_) | refine fits_i64 ?_ ?_ | exact rfl | (with_reducible first | show LeG _ _ | show Lp _ _ _ _ | show Exists _ | show callX _ _ _ _ _)))) <;> (try exact cl5)
      all_goals (rw [hrec]; ((all_goals (try refine LeG.mk ?_)); (repeat' (first | exact PV.le_refl _ | exact PV.le_nil _ _ _ | exact PV.le_clip _ _ _ | exact PV.le_nilF _ _ _ | refine PV.le_agg ?_ | refine PV.le_tup ?_ | exact PV.leL_nil | refine PV.leL_cons ?_ ?_ | refine PV.le_of ?_ | rfl))))
    | true =>
      rw [hg] at p1
      obtain ⟨hq1, hq2, hq3, hq4⟩ : at8 s 11 ≤ 112 ∧ at8 s 10 ≤ 3 ∧ (at8 s 10 < 2 → at8 s 11 = 112) ∧ (at8 s 10 % 2 = 0 → at8 s 11 ≠ 0) := by
        unfold goodB at hg
        simp only [Bool.and_eq_true] at hg
        exact of_decide_eq_true hg.1.1
      have hpm : List.drop (Int.toNat 12) (List.take (12 + IntKind.i64.wrap (at8 s 11)).toNat (s.map (PV.int .u8))) = (pieceS s).map (PV.int .u8) := by
        rw [hw]
        unfold pieceS
        rw [← List.map_take, ← List.map_drop, List.drop_take, show (12 + at8 s 11).toNat - Int.toNat 12 = (at8 s 11).toNat by show (12 + at8 s 11).toNat - 12 = _; omega]; rfl
      have hpl : (pieceS s).length = (at8 s 11).toNat := by unfold pieceS; rw [List.length_take, List.length_drop]; omega
      by_cases hb1 : begS s = decide (n = 0)
      · have ok1 : decide ((at8 s 10).tmod 2 = 1) = decide ((n : Int) = 0) := by
          rw [ht, show decide (at8 s 10 % 2 = 1) = begS s from rfl, hb1]
          exact decide_eq_decide.2 (by omega)
        by_cases hb2 : genS s = gAt l i
        · rw [if_pos ⟨hg, hb1, hb2⟩] at hrec
          have ok2 : ¬ ((numB (s.take 4) : Nat) : Int) ≠ ((numB (si.take 4) : Nat) : Int) := fun h => h (congrArg (fun n : Nat => (n : Int)) (hb2.trans hgi))
          by_cases hend : 2 ≤ at8 s 10
          · rw [show endS s = true from decide_eq_true hend, if_pos rfl] at hrec
            repeat' (first | exact cl1 | ((with_reducible show Exists _); refine exU8 ?_) | ((with_reducible show callX _ _ _ _ _); (first | refine call_p (p1) (by kernel_rfl) rfl ?_ | refine call_p (p2) (by kernel_rfl) rfl ?_ | refine call_p (p3) (by kernel_rfl) rfl ?_)) | ((fail_if_success with_reducible first | show LeG _ _ | show Lp _ _ _ _ | show Exists _ | show callX _ _ _ _ _ | show (_ : Int) ≤ _ | show (_ : Int) < _ | show (_ : Nat) ≤ _ | show (_ : Nat) < _); (conv => whnf) <;> (first | exact cl2 | refine Br.dec (fun hc => ?_) (fun hc => absurd hyes hc) | refine Br.dec (fun hc => ?_) (fun hc => absurd ok1 hc) | refine Br.dec (fun hc => absurd hc ok2) (fun hc => ?_) | refine ix_b hxn' ?_ | refine ix_b hxi ?_ | refine ix_c h10 ?_ | refine ix_c h11 ?_ | refine XAlt.l ?_ | refine Sq.pr ?_ | refine Br.dec (fun hc => ?_) (fun hc => ?_) | refine Br.tt ?_ | refine Br.ff ?_ | refine Br.not ?_ | refine Br.mk (fun hc => ?_) (fun hc => ?_) | refine Opt.nn ?_ | refine Opt.ss ?_ | refine AltA.l ?_ | exact PV.leL_nil | refine PV.leL_cons ?_ ?_ | refine And.intro ?_ ?_ | refine ix_map (fun x hx => ?_) | refine exU8 ?_ | refine nilc (fun hn => ?_) ?_ | exact cl3 | refine imp0 (fun hpos => ?_) | refine fits_i64 ?_ ?_ | exact rfl | (with_reducible first | show LeG _ _ | show Lp _ _ _ _ | show Exists _ | show callX _ _ _ _ _)))) <;> (try exact cl5)
            all_goals
              refine LeG.of (Eq.trans ?_ (congrArg eRA hrec).symm)
              show PV.tup [PV.sl 1 false (List.take (acc.length + (List.drop (Int.toNat 12) (List.take (12 + IntKind.i64.wrap (at8 s 11)).toNat (s.map (PV.int .u8)))).length) (List.drop 0 (acc.map (PV.int .u8) ++ List.drop (Int.toNat 12) (List.take (12 + IntKind.i64.wrap (at8 s 11)).toNat (s.map (PV.int .u8)))))), PV.int .i64 ((n : Int) + 1)] = PV.tup [PV.sl 1 false ((acc ++ pieceS s).map (PV.int .u8)), PV.int .i64 ((1 + n : Nat) : Int)]
              rw [take_app, hpm, List.map_append, show (n : Int) + 1 = ((1 + n : Nat) : Int) by omega]
          · rw [show endS s = false from decide_eq_false hend, if_neg Bool.false_ne_true] at hrec
            repeat' (first | exact cl1 | ((with_reducible show Exists _); refine exU8 ?_) | ((with_reducible show callX _ _ _ _ _); (first | refine call_p (p1) (by kernel_rfl) rfl ?_ | refine call_p (p2) (by kernel_rfl) rfl ?_ | refine call_p (p3) (by kernel_rfl) rfl ?_)) | ((fail_if_success with_reducible first | show LeG _ _ | show Lp _ _ _ _ | show Exists _ | show callX _ _ _ _ _ | show (_ : Int) ≤ _ | show (_ : Int) < _ | show (_ : Nat) ≤ _ | show (_ : Nat) < _); (conv => whnf) <;> (first | exact cl2 | refine Br.dec (fun hc => ?_) (fun hc => absurd hyes hc) | refine Br.dec (fun hc => ?_) (fun hc => absurd ok1 hc) | refine Br.dec (fun hc => absurd hc ok2) (fun hc => ?_) | refine ix_b hxn' ?_ | refine ix_b hxi ?_ | refine ix_c h10 ?_ | refine ix_c h11 ?_ | refine XAlt.l ?_ | refine Sq.pr ?_ | refine Br.dec (fun hc => ?_) (fun hc => ?_) | refine Br.tt ?_ | refine Br.ff ?_ | refine Br.not ?_ | refine Br.mk (fun hc => ?_) (fun hc => ?_) | refine Opt.nn ?_ | refine Opt.ss ?_ | refine AltA.l ?_ | exact PV.leL_nil | refine PV.leL_cons ?_ ?_ | refine And.intro ?_ ?_ | refine ix_map (fun x hx => ?_) | refine exU8 ?_ | refine nilc (fun hn => ?_) ?_ | exact cl3 | refine imp0 (fun hpos => ?_) | refine fits_i64 ?_ ?_ | exact rfl | (with_reducible first | show LeG _ _ | show Lp _ _ _ _ | show Exists _ | show callX _ _ _ _ _)))) <;> (try exact cl5)
            all_goals
              have hrec' : recAt l i = (scanR (l.drop (i + (n + 1))) (i + (n + 1)) (decide (n + 1 = 0)) (gAt l i)).map (fun y => ((acc ++ pieceS s) ++ y.1, y.2 + (n + 1))) := by
                rw [decide_eq_false (by omega), hrec, Option.map_map]
                show Option.map _ (scanR (l.drop (i + n + 1)) (i + n + 1) false (gAt l i)) = Option.map _ (scanR (l.drop (i + (n + 1))) (i + (n + 1)) false (gAt l i))
                rw [Nat.add_assoc i n 1]
                congr 1
                funext y
                show (acc ++ (pieceS s ++ y.1), y.2 + 1 + n) = ((acc ++ pieceS s) ++ y.1, y.2 + (n + 1))
                rw [List.append_assoc, show y.2 + 1 + n = y.2 + (n + 1) by omega]
              refine ⟨⟨(n + 1, acc ++ pieceS s), hlt, by (show (acc ++ pieceS s).length ≤ 128 * (n + 1)); rw [List.length_append]; omega, hrec'⟩, by show l.length - (n + 1) < l.length - n; omega, ?_⟩
              rw [hpm]
              show Ent _ _ (hdS _ _ _ _ [(6, .rsl 128 1 0 (acc ++ pieceS s).length), (7, .p (eI ((n + 1 : Nat) : Int)))] [(128, .row 1 ((acc ++ pieceS s).map (.int .u8)))] 0)
              rw [List.map_append]
              (first | refine Ent.ofA [] ?_ | refine Ent.ofC [] ?_) <;> (repeat' (first | exact trivial | refine HpLe.dd ?_ | refine HpLe.mk rfl (by simp) rfl (fun h => AObj.noConfusion h) ?_ ?_ | refine And.intro ?_ ?_ | exact cl9 | refine VLe.pe ?_ | refine VLe.agg ?_ | refine VLe.tup ?_ | refine VLe.fn ?_ ?_ | refine VLeL.cons ?_ ?_ | exact VLeL.nil | exact OLe.row _ _ | rfl | refine VLe.rsle rfl ?_ ?_ ?_ | refine OLe.rowe2 ?_ ?_ | refine OLe.mape ?_ ?_ | refine OLe.iter0 ?_ | refine OLe.itere ?_ ?_)) <;> try (first | (simp; done) | (congr 1; omega) | (congr 1; (first | (simp; done) | (simp; omega))))
        · rw [if_neg (fun h => hb2 h.2.2)] at hrec
          have hn0 : (n : Int) > 0 := by
            rcases Nat.eq_zero_or_pos n with h | h
            · subst h
              rw [Nat.add_zero] at hxn
              rw [hxn] at hxi; injection hxi with h; subst h
              exact absurd hgi.symm hb2
            · omega
          have ok2 : ((numB (s.take 4) : Nat) : Int) ≠ ((numB (si.take 4) : Nat) : Int) := fun h => hb2 (by rw [hgi]; show numB (s.take 4) = numB (si.take 4); omega)
          repeat' (first | exact cl1 | ((with_reducible show Exists _); refine exU8 ?_) | ((with_reducible show callX _ _ _ _ _); (first | refine call_p (p1) (by kernel_rfl) rfl ?_ | refine call_p (p2) (by kernel_rfl) rfl ?_ | refine call_p (p3) (by kernel_rfl) rfl ?_)) | ((fail_if_success with_reducible first | show LeG _ _ | show Lp _ _ _ _ | show Exists _ | show callX _ _ _ _ _ | show (_ : Int) ≤ _ | show (_ : Int) < _ | show (_ : Nat) ≤ _ | show (_ : Nat) < _); (conv => whnf) <;> (first | exact cl2 | refine Br.dec (fun hc => ?_) (fun hc => absurd hyes hc) | refine Br.dec (fun hc => ?_) (fun hc => absurd ok1 hc) | refine Br.dec (fun hc => ?_) (fun hc => absurd ok2 hc) | refine Br.dec (fun hc => ?_) (fun hc => absurd hn0 hc) | refine ix_b hxn' ?_ | refine ix_b hxi ?_ | refine ix_c h10 ?_ | refine ix_c h11 ?_ | refine XAlt.l ?_ | refine Sq.pr ?_ | refine Br.dec (fun hc => ?_) (fun hc => ?_) | refine Br.tt ?_ | refine Br.ff ?_ | refine Br.not ?_ | refine Br.mk (fun hc => ?_) (fun hc => ?_) | refine Opt.nn ?_ | refine Opt.ss ?_ | refine AltA.l ?_ | exact PV.leL_nil | refine PV.leL_cons ?_ ?_ | refine And.intro ?_ ?_ | refine ix_map (fun x hx => ?_) | refine exU8 ?_ | refine nilc (fun hn => ?_) ?_ | exact cl3 | refine imp0 (fun hpos => ?_) | refine fits_i64 ?_ ?_ | exact rfl | (with_reducible first | show LeG _ _ | show Lp _ _ _ _ | show Exists _ | show callX _ _ _ _ _)))) <;> (try exact cl5)
          all_goals (rw [hrec]; ((all_goals (try refine LeG.mk ?_)); (repeat' (first | exact PV.le_refl _ | exact PV.le_nil _ _ _ | exact PV.le_clip _ _ _ | exact PV.le_nilF _ _ _ | refine PV.le_agg ?_ | refine PV.le_tup ?_ | exact PV.leL_nil | refine PV.leL_cons ?_ ?_ | refine PV.le_of ?_ | rfl))))
      · rw [if_neg (fun h => hb1 h.2.1)] at hrec
        have ok1 : ¬ decide ((at8 s 10).tmod 2 = 1) = decide ((n : Int) = 0) := by
          rw [ht, show decide (at8 s 10 % 2 = 1) = begS s from rfl]
          intro h
          exact hb1 (h.trans (decide_eq_decide.2 (by omega)))
        repeat' (first | exact cl1 | ((with_reducible show Exists _); refine exU8 ?_) | ((with_reducible show callX _ _ _ _ _); (first | refine call_p (p1) (by kernel_rfl) rfl ?_ | refine call_p (p2) (by kernel_rfl) rfl ?_ | refine call_p (p3) (by kernel_rfl) rfl ?_)) | ((fail_if_success with_reducible first | show LeG _ _ | show Lp _ _ _ _ | show Exists _ | show callX _ _ _ _ _ | show (_ : Int) ≤ _ | show (_ : Int) < _ | show (_ : Nat) ≤ _ | show (_ : Nat) < _); (conv => whnf) <;> (first | exact cl2 | refine Br.dec (fun hc => ?_) (fun hc => absurd hyes hc) | refine Br.dec (fun hc => absurd hc ok1) (fun hc => ?_) | refine ix_b hxn' ?_ | refine ix_b hxi ?_ | refine ix_c h10 ?_ | refine ix_c h11 ?_ | refine XAlt.l ?_ | refine Sq.pr ?_ | refine Br.dec (fun hc => ?_) (fun hc => ?_) | refine Br.tt ?_ | refine Br.ff ?_ | refine Br.not ?_ | refine Br.mk (fun hc => ?_) (fun hc => ?_) | refine Opt.nn ?_ | refine Opt.ss ?_ | refine AltA.l ?_ | exact PV.leL_nil | refine PV.leL_cons ?_ ?_ | refine And.intro ?_ ?_ | refine ix_map (fun x hx => ?_) | refine exU8 ?_ | refine nilc (fun hn => ?_) ?_ | exact cl3 | refine imp0 (fun hpos => ?_) | refine fits_i64 ?_ ?_ | exact rfl | (with_reducible first | show LeG _ _ | show Lp _ _ _ _ | show Exists _ | show callX _ _ _ _ _)))) <;> (try exact cl5)
        all_goals (rw [hrec]; ((all_goals (try refine LeG.mk ?_)); (repeat' (first | exact PV.le_refl _ | exact PV.le_nil _ _ _ | exact PV.le_clip _ _ _ | exact PV.le_nilF _ _ _ | refine PV.le_agg ?_ | refine PV.le_tup ?_ | exact PV.leL_nil | refine PV.leL_cons ?_ ?_ | refine PV.le_of ?_ | rfl))))
end Go.Proofs.Ytijkiolobmkhhaa

namespace Go.Proofs.Ytijkiolobmkhhaa
open Go Go.Sg
set_option maxRecDepth 100000
set_option maxHeartbeats 40000000
theorem rrecords_calls (l : List Bs) (hl : l.length ≤ 4096) (hB : ∀ s ∈ l, s.length = 128 ∧ B8 s) : PCalls Try.prog 34 [eS l] (eS (recB l)) := by
  have hlm : (l.map eB).length = l.length := List.length_map _
  refine PCalls.of (N := 41) (res := [.tmp 2]) mixed Try.func34 rfl rfl rfl (by kernel_rfl) (by simp) [0, 2, 3, 4, 5, 6, 7, 26] ?_
  repeat' (first | exact cl1 | ((with_reducible show Exists _); refine exU8 ?_) | ((fail_if_success with_reducible first | show LeG _ _ | show Lp _ _ _ _ | show Exists _ | show callX _ _ _ _ _ | show (_ : Int) ≤ _ | show (_ : Int) < _ | show (_ : Nat) ≤ _ | show (_ : Nat) < _); (conv => whnf) <;> (first | exact cl2 | refine XAlt.l ?_ | refine Sq.pr ?_ | refine Br.dec (fun hc => ?_) (fun hc => ?_) | refine Br.tt ?_ | refine Br.ff ?_ | refine Br.not ?_ | refine Br.mk (fun hc => ?_) (fun hc => ?_) | refine Opt.nn ?_ | refine Opt.ss ?_ | refine AltA.l ?_ | exact PV.leL_nil | refine PV.leL_cons ?_ ?_ | refine And.intro ?_ ?_ | refine ix_map (fun x hx => ?_) | refine exU8 ?_ | refine nilc (fun hn => ?_) ?_ | exact cl3 | refine imp0 (fun hpos => ?_) | refine fits_i64 ?_ ?_ | exact rfl | (with_reducible first | show LeG _ _ | show Lp _ _ _ _ | show Exists _ | show callX _ _ _ _ _)))) <;> (try exact cl5)
  refine Wpc.loopA (α := {x : Nat × Nat × Nat // x.1 ≤ l.length ∧ x.2.1 < 4294967296 ∧ x.2.2 ≤ (recsL l).length ∧ (recsL l).drop x.2.2 = recsA l (l.length + 1) x.1 x.2.1}) mixed [0, 2, 3, 4, 5, 6, 7, 26] (fun x => [(3, .rsl 64 1 0 ((recB l).take x.1.2.2).length), (4, .p (eI x.1.1)), (5, .p (eU x.1.2.1))]) (fun x => [(64, .row 1 (((recB l).take x.1.2.2).map eB))]) (fun _ => 0) (fun x => l.length + 1 - x.1.1) ⟨(0, 0, 0), Nat.zero_le _, by decide, Nat.zero_le _, rfl⟩ ?_ ?_
  · (first | refine Ent.ofA [] ?_ | refine Ent.ofC [] ?_) <;> (repeat' (first | exact trivial | refine HpLe.dd ?_ | refine HpLe.mk rfl (by simp) rfl (fun h => AObj.noConfusion h) ?_ ?_ | refine And.intro ?_ ?_ | exact cl9 | refine VLe.pe ?_ | refine VLe.agg ?_ | refine VLe.tup ?_ | refine VLe.fn ?_ ?_ | refine VLeL.cons ?_ ?_ | exact VLeL.nil | exact OLe.row _ _ | rfl | refine VLe.rsle rfl ?_ ?_ ?_ | refine OLe.rowe2 ?_ ?_ | refine OLe.mape ?_ ?_ | refine OLe.iter0 ?_ | refine OLe.itere ?_ ?_)) <;> try (first | (simp; done) | (congr 1; omega) | (congr 1; (first | (simp; done) | (simp; omega))))
  rintro ⟨⟨i, last, j⟩, hi, hlast, hj, hR⟩
  have hi : i ≤ l.length := hi
  have hlast : last < 4294967296 := hlast
  have hj : j ≤ (recsL l).length := hj
  have hR : (recsL l).drop j = recsA l (l.length + 1) i last := hR
  rw [recsA_step (by omega) hi] at hR
  have hBl : (recB l).length = (recsL l).length := List.length_map _
  have hBl2 := recB_len l
  have htl : ((recB l).take j).length = j := by rw [List.length_take]; omega
  have p := record_calls l i hi hl hB
  have hend : (recsL l).drop j = [] → LeG (PV.sl 1 false (List.take ((recB l).take j).length (List.drop 0 (((recB l).take j).map eB)))) (eS (recB l)) := fun h => by
    have h1 := List.drop_eq_nil_iff.1 h
    rw [List.drop_zero, List.take_of_length_le (by rw [List.length_map]; exact Nat.le_refl _), List.take_of_length_le (by omega)]
    exact LeG.refl _
  cases hr : recAt l i with
  | none =>
    rw [hr] at p hR
    repeat' (first | exact cl1 | ((with_reducible show Exists _); refine exU8 ?_) | ((with_reducible show callX _ _ _ _ _); (first | refine call_p (p) (by kernel_rfl) rfl ?_)) | ((fail_if_success with_reducible first | show LeG _ _ | show Lp _ _ _ _ | show Exists _ | show callX _ _ _ _ _ | show (_ : Int) ≤ _ | show (_ : Int) < _ | show (_ : Nat) ≤ _ | show (_ : Nat) < _); (conv => whnf) <;> (first | exact cl2 | refine XAlt.l ?_ | refine Sq.pr ?_ | refine Br.dec (fun hc => ?_) (fun hc => ?_) | refine Br.tt ?_ | refine Br.ff ?_ | refine Br.not ?_ | refine Br.mk (fun hc => ?_) (fun hc => ?_) | refine Opt.nn ?_ | refine Opt.ss ?_ | refine AltA.l ?_ | exact PV.leL_nil | refine PV.leL_cons ?_ ?_ | refine And.intro ?_ ?_ | refine ix_map (fun x hx => ?_) | refine exU8 ?_ | refine nilc (fun hn => ?_) ?_ | exact cl3 | refine imp0 (fun hpos => ?_) | refine fits_i64 ?_ ?_ | exact rfl | (with_reducible first | show LeG _ _ | show Lp _ _ _ _ | show Exists _ | show callX _ _ _ _ _)))) <;> (try exact cl5)
    all_goals exact hend hR
  | some y =>
    obtain ⟨b, m⟩ := y
    rw [hr] at p hR
    obtain ⟨m1, m2⟩ := recAt_m hr
    have hm0 : ¬ ((m : Nat) : Int) = 0 := by omega
    obtain ⟨si, hxi⟩ : ∃ si, l[i]? = some si := ⟨_, List.getElem?_eq_getElem (by omega)⟩
    obtain ⟨t1, t2⟩ := hB si (List.mem_of_getElem? hxi)
    have hgi : gAt l i = numB (si.take 4) := by unfold gAt; rw [List.getD, hxi]; rfl
    have p3 := number_calls (si.take 4) (t2.take 4) (by rw [List.length_take]; omega)
    rw [show eB (si.take 4) = .sl 1 false (List.drop (Int.toNat 0) (List.take (Int.toNat 4) (si.map (PV.int .u8)))) from eB_sl si 0 4] at p3
    have hmi : (si.map (PV.int .u8)).length = 128 := by rw [List.length_map, t1]
    have hg32 : numB (si.take 4) < 4294967296 := numB_lt 4 (si.take 4) (by rw [List.length_take]; omega) (t2.take 4)
    by_cases hlt : gAt l i < last
    · have hR : (recsL l).drop j = [] := by rw [hR]; exact if_pos hlt
      have hlt' : ((numB (si.take 4) : Nat) : Int) < (last : Int) := by omega
      repeat' (first | exact cl1 | ((with_reducible show Exists _); refine exU8 ?_) | ((with_reducible show callX _ _ _ _ _); (first | refine call_p (p) (by kernel_rfl) rfl ?_ | refine call_p (p3) (by kernel_rfl) rfl ?_)) | ((fail_if_success with_reducible first | show LeG _ _ | show Lp _ _ _ _ | show Exists _ | show callX _ _ _ _ _ | show (_ : Int) ≤ _ | show (_ : Int) < _ | show (_ : Nat) ≤ _ | show (_ : Nat) < _); (conv => whnf) <;> (first | exact cl2 | refine Br.dec (fun hc => absurd hc hm0) (fun hc => ?_) | refine Br.dec (fun hc => ?_) (fun hc => absurd hlt' hc) | refine ix_b hxi ?_ | refine XAlt.l ?_ | refine Sq.pr ?_ | refine Br.dec (fun hc => ?_) (fun hc => ?_) | refine Br.tt ?_ | refine Br.ff ?_ | refine Br.not ?_ | refine Br.mk (fun hc => ?_) (fun hc => ?_) | refine Opt.nn ?_ | refine Opt.ss ?_ | refine AltA.l ?_ | exact PV.leL_nil | refine PV.leL_cons ?_ ?_ | refine And.intro ?_ ?_ | refine ix_map (fun x hx => ?_) | refine exU8 ?_ | refine nilc (fun hn => ?_) ?_ | exact cl3 | refine imp0 (fun hpos => ?_) | refine fits_i64 ?_ ?_ | exact rfl | (with_reducible first | show LeG _ _ | show Lp _ _ _ _ | show Exists _ | show callX _ _ _ _ _)))) <;> (try exact cl5)
      all_goals exact hend hR
    · have hR : (recsL l).drop j = (i + m, b) :: recsA l (l.length + 1) (i + m) (gAt l i) := by rw [hR]; exact if_neg hlt
      have hlt' : ¬ ((numB (si.take 4) : Nat) : Int) < (last : Int) := by omega
      have hjlt : j < (recsL l).length := by
        refine Nat.lt_of_not_le fun h => ?_
        rw [List.drop_eq_nil_of_le h] at hR; cases hR
      have hget : (recsL l)[j]? = some (i + m, b) := by
        have := congrArg (fun x => x[0]?) hR
        simpa using this
      have hFy : (recB l)[j]? = some b := by unfold recB; rw [List.getElem?_map, hget]; rfl
      have htk : (recB l).take (j + 1) = (recB l).take j ++ [b] := by rw [List.take_add_one, hFy]; rfl
      have hR1 : (recsL l).drop (j + 1) = recsA l (l.length + 1) (i + m) (gAt l i) := by
        rw [← List.drop_drop, hR]; rfl
      rw [hgi] at hR1
      repeat' (first | exact cl1 | ((with_reducible show Exists _); refine exU8 ?_) | ((with_reducible show callX _ _ _ _ _); (first | refine call_p (p) (by kernel_rfl) rfl ?_ | refine call_p (p3) (by kernel_rfl) rfl ?_)) | ((fail_if_success with_reducible first | show LeG _ _ | show Lp _ _ _ _ | show Exists _ | show callX _ _ _ _ _ | show (_ : Int) ≤ _ | show (_ : Int) < _ | show (_ : Nat) ≤ _ | show (_ : Nat) < _); (conv => whnf) <;> (first | exact cl2 | refine Br.dec (fun hc => absurd hc hm0) (fun hc => ?_) | refine Br.dec (fun hc => absurd hc hlt') (fun hc => ?_) | refine ix_b hxi ?_ | refine XAlt.l ?_ | refine Sq.pr ?_ | refine Br.dec (fun hc => ?_) (fun hc => ?_) | refine Br.tt ?_ | refine Br.ff ?_ | refine Br.not ?_ | refine Br.mk (fun hc => ?_) (fun hc => ?_) | refine Opt.nn ?_ | refine Opt.ss ?_ | refine AltA.l ?_ | exact PV.leL_nil | refine PV.leL_cons ?_ ?_ | refine And.intro ?_ ?_ | refine ix_map (fun x hx => ?_) | refine exU8 ?_ | refine nilc (fun hn => ?_) ?_ | exact cl3 | refine imp0 (fun hpos => ?_) | refine fits_i64 ?_ ?_ | exact rfl | (with_reducible first | show LeG _ _ | show Lp _ _ _ _ | show Exists _ | show callX _ _ _ _ _)))) <;> (try exact cl5)
      all_goals
        refine ⟨⟨(i + m, numB (si.take 4), j + 1), m2, hg32, hjlt, hR1⟩, by show l.length + 1 - (i + m) < l.length + 1 - i; omega, ?_⟩
        show Ent _ _ (hdS _ _ _ _ [(3, .rsl 64 1 0 ((recB l).take (j + 1)).length), (4, .p (eI ((i + m : Nat) : Int))), (5, .p (eU (numB (si.take 4))))] [(64, .row 1 (((recB l).take (j + 1)).map eB))] 0)
        rw [htk, List.map_append, List.length_append]
        (first | refine Ent.ofA [] ?_ | refine Ent.ofC [] ?_) <;> (repeat' (first | exact trivial | refine HpLe.dd ?_ | refine HpLe.mk rfl (by simp) rfl (fun h => AObj.noConfusion h) ?_ ?_ | refine And.intro ?_ ?_ | exact cl9 | refine VLe.pe ?_ | refine VLe.agg ?_ | refine VLe.tup ?_ | refine VLe.fn ?_ ?_ | refine VLeL.cons ?_ ?_ | exact VLeL.nil | exact OLe.row _ _ | rfl | refine VLe.rsle rfl ?_ ?_ ?_ | refine OLe.rowe2 ?_ ?_ | refine OLe.mape ?_ ?_ | refine OLe.iter0 ?_ | refine OLe.itere ?_ ?_)) <;> try (first | (simp; done) | (congr 1; omega) | (congr 1; (first | (simp; done) | (simp; omega))))
def ropenJ := openJ
theorem ropen_calls (d : Dk) (h1 : d.secs.length < 1000000) (h2 : d.pend.length < 1000000) (hB : ∀ s ∈ d.secs, B8 s) : PCalls Try.prog 13 [eD d] (eJR (openJ d)) := by
  have p1 := rcheck_calls d h1 h2
  unfold openJ
  cases hd : okD d with
  | false =>
    rw [hd, if_neg Bool.false_ne_true] at p1
    rw [if_neg Bool.false_ne_true]
    refine PCalls.of (N := 30) (res := [.cell 2 29, .tmp 3]) mixed Try.func13 rfl rfl rfl (by kernel_rfl) (by simp) [0, 1, 2, 3, 4, 5, 9, 13, 18] ?_
    repeat' (first | exact cl1 | ((with_reducible show Exists _); refine exU8 ?_) | ((with_reducible show callX _ _ _ _ _); (first | refine call_p (p1) (by kernel_rfl) rfl ?_)) | ((fail_if_success with_reducible first | show LeG _ _ | show Lp _ _ _ _ | show Exists _ | show callX _ _ _ _ _ | show (_ : Int) ≤ _ | show (_ : Int) < _ | show (_ : Nat) ≤ _ | show (_ : Nat) < _); (conv => whnf) <;> (first | exact cl2 | refine XAlt.l ?_ | refine Sq.pr ?_ | refine Br.dec (fun hc => ?_) (fun hc => ?_) | refine Br.tt ?_ | refine Br.ff ?_ | refine Br.not ?_ | refine Br.mk (fun hc => ?_) (fun hc => ?_) | refine Opt.nn ?_ | refine Opt.ss ?_ | refine AltA.l ?_ | exact PV.leL_nil | refine PV.leL_cons ?_ ?_ | refine And.intro ?_ ?_ | refine ix_map (fun x hx => ?_) | refine exU8 ?_ | refine nilc (fun hn => ?_) ?_ | exact cl3 | refine imp0 (fun hpos => ?_) | refine fits_i64 ?_ ?_ | exact rfl | (with_reducible first | show LeG _ _ | show Lp _ _ _ _ | show Exists _ | show callX _ _ _ _ _)))) <;> (try exact cl5)
    ((all_goals (try simp only [*, ↓reduceIte, Bool.false_eq_true, Bool.not_true, Bool.not_false, Bool.and_true, Bool.true_and, Bool.and_false, Bool.false_and, List.nil_append, List.drop_zero, Nat.zero_add, List.take_length, Int.toNat_natCast, Int.toNat_zero, List.append_nil]))); ((all_goals (try refine LeG.mk ?_)); (repeat' (first | exact PV.le_refl _ | exact PV.le_nil _ _ _ | exact PV.le_clip _ _ _ | exact PV.le_nilF _ _ _ | refine PV.le_agg ?_ | refine PV.le_tup ?_ | exact PV.leL_nil | refine PV.leL_cons ?_ ?_ | refine PV.le_of ?_ | rfl)))
  | true =>
    rw [hd, if_pos rfl] at p1
    rw [if_pos rfl]
    obtain ⟨⟨k1, k2⟩, k3, k4, k5, k6⟩ := okD_spec hd
    have p2 := rrecords_calls d.secs k2 (fun s hs => ⟨k6 s hs, hB s hs⟩)
    have hrl := recB_len d.secs
    refine PCalls.of (N := 30) (res := [.cell 2 29, .tmp 3]) mixed Try.func13 rfl rfl rfl (by kernel_rfl) (by simp) [0, 1, 2, 3, 4, 5, 9, 13, 18] ?_
    repeat' (first | exact cl1 | ((with_reducible show Exists _); refine exU8 ?_) | ((with_reducible show callX _ _ _ _ _); (first | refine call_p (p1) (by kernel_rfl) rfl ?_ | refine call_p (p2) (by kernel_rfl) rfl ?_)) | ((fail_if_success with_reducible first | show LeG _ _ | show Lp _ _ _ _ | show Exists _ | show callX _ _ _ _ _ | show (_ : Int) ≤ _ | show (_ : Int) < _ | show (_ : Nat) ≤ _ | show (_ : Nat) < _); (conv => whnf) <;> (first | exact cl2 | refine XAlt.l ?_ | refine Sq.pr ?_ | refine Br.dec (fun hc => ?_) (fun hc => ?_) | refine Br.tt ?_ | refine Br.ff ?_ | refine Br.not ?_ | refine Br.mk (fun hc => ?_) (fun hc => ?_) | refine Opt.nn ?_ | refine Opt.ss ?_ | refine AltA.l ?_ | exact PV.leL_nil | refine PV.leL_cons ?_ ?_ | refine And.intro ?_ ?_ | refine ix_map (fun x hx => ?_) | refine exU8 ?_ | refine nilc (fun hn => ?_) ?_ | exact cl3 | refine imp0 (fun hpos => ?_) | refine fits_i64 ?_ ?_ | exact rfl | (with_reducible first | show LeG _ _ | show Lp _ _ _ _ | show Exists _ | show callX _ _ _ _ _)))) <;> (try exact cl5)
    · rw [if_pos hc]; ((all_goals (try refine LeG.mk ?_)); (repeat' (first | exact PV.le_refl _ | exact PV.le_nil _ _ _ | exact PV.le_clip _ _ _ | exact PV.le_nilF _ _ _ | refine PV.le_agg ?_ | refine PV.le_tup ?_ | exact PV.leL_nil | refine PV.leL_cons ?_ ?_ | refine PV.le_of ?_ | rfl)))
    · rename_i hst
      rw [if_neg (by rw [hst]; exact Bool.noConfusion), if_pos hc]
      ((all_goals (try refine LeG.mk ?_)); (repeat' (first | exact PV.le_refl _ | exact PV.le_nil _ _ _ | exact PV.le_clip _ _ _ | exact PV.le_nilF _ _ _ | refine PV.le_agg ?_ | refine PV.le_tup ?_ | exact PV.leL_nil | refine PV.leL_cons ?_ ?_ | refine PV.le_of ?_ | rfl)))
    · rename_i hst
      rw [if_neg (by rw [hst]; exact Bool.noConfusion), if_neg hc]
      refine LeG.of ?_
      show PV.tup [PV.agg [eS (recB d.secs), eI ((d.secs.map eB).length : Nat), eI (((recB d.secs).map eB).length : Nat)], eE 0] = _
      rw [List.length_map, List.length_map]; rfl
end Go.Proofs.Ytijkiolobmkhhaa

namespace Go.Proofs.Ytijkiolobmkhhaa
open Go Go.Sg
set_option maxRecDepth 100000
set_option maxHeartbeats 40000000
def genM (n : Nat) (s : Bs) : Nat := max n (max (numB (s.take 4)) (numB (s.drop 124)))
/-- The greatest generation on sectors. -/
def genL (l : List Bs) : Nat := l.foldl genM 0
theorem genL_take {l : List Bs} {i : Nat} {s : Bs} (h : l[i]? = some s) : genL (l.take (i + 1)) = genM (genL (l.take i)) s := by
  unfold genL; rw [List.take_add_one, h]; simp [List.foldl_append]
theorem genM_lt {n : Nat} {s : Bs} (h : n < 4294967296) (hs : s.length = 128) (hB : B8 s) : genM n s < 4294967296 := by
  have h1 := numB_lt 4 (s.take 4) (by rw [List.length_take]; omega) (hB.take 4)
  have h2 := numB_lt 4 (s.drop 124) (by rw [List.length_drop]; omega) (hB.drop 124)
  unfold genM; omega
theorem genL_lt : ∀ (l : List Bs) (n : Nat), n < 4294967296 → (∀ s ∈ l, s.length = 128 ∧ B8 s) → l.foldl genM n < 4294967296
  | [], _, h, _ => h
  | s :: r, n, h, hB => genL_lt r _ (genM_lt h (hB s (by simp)).1 (hB s (by simp)).2) (fun t ht => hB t (by simp [ht]))
def mxI (a b : Int) : Int := if true = true then (if b > a then b else a) else (if b < a then b else a)
theorem mxI_eq (a b : Int) : mxI a b = max a b := by
  unfold mxI; rw [if_pos rfl]; split <;> omega
theorem generation_calls (l : List Bs) (hl : l.length ≤ 4096) (hB : ∀ s ∈ l, s.length = 128 ∧ B8 s) : PCalls Try.prog 45 [eS l] (eU (genL l + 1)) := by
  have hlm : (l.map eB).length = l.length := List.length_map _
  refine PCalls.of (N := 27) (res := [.tmp 2]) mixed Try.func45 rfl rfl rfl (by kernel_rfl) (by simp) [0, 2, 3, 4, 8] ?_
  repeat' (first | exact cl1 | ((with_reducible show Exists _); refine exU8 ?_) | ((fail_if_success with_reducible first | show LeG _ _ | show Lp _ _ _ _ | show Exists _ | show callX _ _ _ _ _ | show (_ : Int) ≤ _ | show (_ : Int) < _ | show (_ : Nat) ≤ _ | show (_ : Nat) < _); (conv => whnf) <;> (first | exact cl2 | refine XAlt.l ?_ | refine Sq.pr ?_ | refine Br.dec (fun hc => ?_) (fun hc => ?_) | refine Br.tt ?_ | refine Br.ff ?_ | refine Br.not ?_ | refine Br.mk (fun hc => ?_) (fun hc => ?_) | refine Opt.nn ?_ | refine Opt.ss ?_ | refine AltA.l ?_ | exact PV.leL_nil | refine PV.leL_cons ?_ ?_ | refine And.intro ?_ ?_ | refine ix_map (fun x hx => ?_) | refine exU8 ?_ | refine nilc (fun hn => ?_) ?_ | exact cl3 | refine imp0 (fun hpos => ?_) | refine fits_i64 ?_ ?_ | exact rfl | (with_reducible first | show LeG _ _ | show Lp _ _ _ _ | show Exists _ | show callX _ _ _ _ _)))) <;> (try exact cl5)
  refine Wpc.loopB (α := {i : Nat // i ≤ l.length}) mixed [0, 2, 3, 4, 8] (fun i => [(3, .p (eU (genL (l.take i.1)))), (4, .p (eI i.1))]) (fun i => l.length - i.1) ⟨0, Nat.zero_le _⟩ ?_ ?_
  · (first | refine Ent.ofA [] ?_ | refine Ent.ofC [] ?_) <;> (repeat' (first | exact trivial | refine HpLe.dd ?_ | refine HpLe.mk rfl (by simp) rfl (fun h => AObj.noConfusion h) ?_ ?_ | refine And.intro ?_ ?_ | exact cl9 | refine VLe.pe ?_ | refine VLe.agg ?_ | refine VLe.tup ?_ | refine VLe.fn ?_ ?_ | refine VLeL.cons ?_ ?_ | exact VLeL.nil | exact OLe.row _ _ | rfl | refine VLe.rsle rfl ?_ ?_ ?_ | refine OLe.rowe2 ?_ ?_ | refine OLe.mape ?_ ?_ | refine OLe.iter0 ?_ | refine OLe.itere ?_ ?_)) <;> try (first | (simp; done) | (congr 1; omega) | (congr 1; (first | (simp; done) | (simp; omega))))
  rintro ⟨i, hi⟩
  have hi : i ≤ l.length := hi
  have hg := genL_lt (l.take i) 0 (by decide) (fun s hs => hB s (List.mem_of_mem_take hs))
  have hg : genL (l.take i) < 4294967296 := hg
  cases hxi : l[i]? with
  | none =>
    have hge : l.length ≤ i := List.getElem?_eq_none_iff.1 hxi
    have hno : ¬ ((i : Int) < ((l.map eB).length : Int)) := by omega
    rw [List.take_of_length_le hge] at hg ⊢
    repeat' (first | exact cl1 | ((with_reducible show Exists _); refine exU8 ?_) | ((fail_if_success with_reducible first | show LeG _ _ | show Lp _ _ _ _ | show Exists _ | show callX _ _ _ _ _ | show (_ : Int) ≤ _ | show (_ : Int) < _ | show (_ : Nat) ≤ _ | show (_ : Nat) < _); (conv => whnf) <;> (first | exact cl2 | refine Br.dec (fun hc => absurd hc hno) (fun hc => ?_) | refine XAlt.l ?_ | refine Sq.pr ?_ | refine Br.dec (fun hc => ?_) (fun hc => ?_) | refine Br.tt ?_ | refine Br.ff ?_ | refine Br.not ?_ | refine Br.mk (fun hc => ?_) (fun hc => ?_) | refine Opt.nn ?_ | refine Opt.ss ?_ | refine AltA.l ?_ | exact PV.leL_nil | refine PV.leL_cons ?_ ?_ | refine And.intro ?_ ?_ | refine ix_map (fun x hx => ?_) | refine exU8 ?_ | refine nilc (fun hn => ?_) ?_ | exact cl3 | refine imp0 (fun hpos => ?_) | refine fits_i64 ?_ ?_ | exact rfl | (with_reducible first | show LeG _ _ | show Lp _ _ _ _ | show Exists _ | show callX _ _ _ _ _)))) <;> (try exact cl5)
    all_goals exact fits_u64 (by omega) (by omega)
  | some s =>
    have hlt : i < l.length := (List.getElem?_eq_some_iff.1 hxi).1
    have hyes : ((i : Int) < ((l.map eB).length : Int)) := by omega
    obtain ⟨t1, t2⟩ := hB s (List.mem_of_getElem? hxi)
    have hms : (s.map (PV.int .u8)).length = 128 := by rw [List.length_map, t1]
    have p1 := number_calls (s.take 4) (t2.take 4) (by rw [List.length_take]; omega)
    have p2 := number_calls (s.drop 124) (t2.drop 124) (by rw [List.length_drop]; omega)
    rw [show eB (s.take 4) = .sl 1 false (List.drop (Int.toNat 0) (List.take (Int.toNat 4) (s.map (PV.int .u8)))) from eB_sl s 0 4] at p1
    have e2 : eB (s.drop 124) = .sl 1 false (List.drop (Int.toNat 124) (List.take ((s.map (PV.int .u8)).length : Int).toNat (s.map (PV.int .u8)))) := by
      show PV.sl 1 false _ = PV.sl 1 false _
      rw [List.map_drop, Int.toNat_natCast, List.take_length]; rfl
    rw [e2] at p2
    have ht := genL_take hxi
    repeat' (first | exact cl1 | ((with_reducible show Exists _); refine exU8 ?_) | ((with_reducible show callX _ _ _ _ _); (first | refine call_p (p1) (by kernel_rfl) rfl ?_ | refine call_p (p2) (by kernel_rfl) rfl ?_)) | ((fail_if_success with_reducible first | show LeG _ _ | show Lp _ _ _ _ | show Exists _ | show callX _ _ _ _ _ | show (_ : Int) ≤ _ | show (_ : Int) < _ | show (_ : Nat) ≤ _ | show (_ : Nat) < _); (conv => whnf) <;> (first | exact cl2 | refine Br.dec (fun hc => ?_) (fun hc => absurd hyes hc) | refine ix_b hxi ?_ | refine XAlt.l ?_ | refine Sq.pr ?_ | refine Br.dec (fun hc => ?_) (fun hc => ?_) | refine Br.tt ?_ | refine Br.ff ?_ | refine Br.not ?_ | refine Br.mk (fun hc => ?_) (fun hc => ?_) | refine Opt.nn ?_ | refine Opt.ss ?_ | refine AltA.l ?_ | exact PV.leL_nil | refine PV.leL_cons ?_ ?_ | refine And.intro ?_ ?_ | refine ix_map (fun x hx => ?_) | refine exU8 ?_ | refine nilc (fun hn => ?_) ?_ | exact cl3 | refine imp0 (fun hpos => ?_) | refine fits_i64 ?_ ?_ | exact rfl | (with_reducible first | show LeG _ _ | show Lp _ _ _ _ | show Exists _ | show callX _ _ _ _ _)))) <;> (try exact cl5)
    refine ⟨⟨i + 1, hlt⟩, by show l.length - (i + 1) < l.length - i; omega, ?_⟩
    (first | refine Ent.ofA [] ?_ | refine Ent.ofC [] ?_) <;> (repeat' (first | exact trivial | refine HpLe.dd ?_ | refine HpLe.mk rfl (by simp) rfl (fun h => AObj.noConfusion h) ?_ ?_ | refine And.intro ?_ ?_ | exact cl9 | refine VLe.pe ?_ | refine VLe.agg ?_ | refine VLe.tup ?_ | refine VLe.fn ?_ ?_ | refine VLeL.cons ?_ ?_ | exact VLeL.nil | exact OLe.row _ _ | rfl | refine VLe.rsle rfl ?_ ?_ ?_ | refine OLe.rowe2 ?_ ?_ | refine OLe.mape ?_ ?_ | refine OLe.iter0 ?_ | refine OLe.itere ?_ ?_)) <;> try (first | (simp; done) | (congr 1; omega) | (congr 1; (first | (simp; done) | (simp; omega))))
    show PV.int .u64 (mxI (mxI ((genL (l.take i) : Nat) : Int) ((numB (s.take 4) : Nat) : Int)) ((numB (s.drop 124) : Nat) : Int)) = eU (genL (l.take (i + 1)))
    rw [ht, mxI_eq, mxI_eq]
    refine congrArg (PV.int .u64) ?_
    unfold genM; omega
end Go.Proofs.Ytijkiolobmkhhaa

namespace Go.Proofs.Ytijkiolobmkhhaa
open Go Go.Sg
set_option maxRecDepth 100000
set_option maxHeartbeats 8000000
theorem okD_in {d : Dk} (h1 : 1 ≤ d.secs.length) (h2 : d.secs.length ≤ 4096) (h3 : d.pend.length ≤ 4096) (h4 : -1 ≤ d.left) (h5 : d.left ≤ 65536) (h6 : ∀ w ∈ d.pend, (0 ≤ w.pos ∧ w.pos < d.secs.length) ∧ w.data.length = 128) (h7 : ∀ b ∈ d.secs, b.length = 128) : okD d = true := by
  unfold okD
  simp only [List.length_map]
  rw [if_neg (by omega), if_neg (by omega), if_neg (by omega), if_neg (by omega), if_neg (by omega)]
  rw [if_neg]
  · simp [isS]; intro b hb; have := h7 b hb; omega
  · intro e
    obtain ⟨w, hw, e⟩ := List.any_eq_true.1 e
    have := h6 w hw
    simp [badW, isS] at e
    omega
theorem fillB_len (b : Bs) (h : b.length ≤ 128) : (fillB b).length = 128 := by simp [fillB]; omega
/-- A disk with one more write. -/
def addD (d : Dk) (n : Int) (b : Bs) : Dk := { d with pend := d.pend ++ [⟨n, fillB b⟩] }
theorem addD_ok {d : Dk} {n : Int} {b : Bs} (h : okD d = true) (h1 : hasD d n = true) (h2 : b.length ≤ 128) (h3 : d.pend.length ≠ 4096) : okD (addD d n b) = true := by
  obtain ⟨⟨k1, k2⟩, k3, k4, k5, k6⟩ := okD_spec h
  refine okD_in k1 k2 (by simp [addD]; omega) k4.1 k4.2 (fun w hw => ?_) k6
  rcases List.mem_append.1 hw with hw | hw
  · exact k5 w hw
  · simp only [List.mem_singleton] at hw; subst hw
    simp [hasD] at h1
    exact ⟨h1, fillB_len b h2⟩
theorem writeD_ok {d : Dk} {n : Int} {b : Bs} (h : runD d = true) (h1 : hasD d n = true) (h2 : b.length ≤ 128) (h3 : d.pend.length ≠ 4096) : writeD d n b = (addD d n b, 0) := by
  unfold writeD
  rw [h, h1, if_pos rfl, if_pos rfl, if_neg (by simp only [List.length_map]; omega), if_neg (by simp only [List.length_map]; omega)]
  rfl
theorem syncD_ok {d : Dk} (h : runD d = true) (h1 : ¬ (0 ≤ d.left ∧ d.left < d.pend.length)) : ∃ n, syncD d = (⟨perf d.secs d.pend, [], n, false⟩, 0) ∧ okD ⟨perf d.secs d.pend, [], n, false⟩ = true := by
  have ho : okD d = true := by simp [runD] at h; exact h.1
  obtain ⟨⟨k1, k2⟩, k3, k4, k5, k6⟩ := okD_spec ho
  have hq := perf_all (Q := fun b => b.length = 128) d.pend d.secs k6 (fun w hw => (k5 w hw).2)
  unfold syncD
  rw [h, if_pos rfl]
  simp only [List.length_map]
  by_cases e : 0 ≤ d.left
  · rw [if_pos e, if_neg (fun f => h1 ⟨e, f⟩)]
    have : ¬ d.left < d.pend.length := fun f => h1 ⟨e, f⟩
    exact ⟨_, rfl, okD_in (by rw [perf_len]; omega) (by rw [perf_len]; omega) (by simp) (by show -1 ≤ d.left - _; omega) (by show d.left - _ ≤ 65536; omega) (by simp) hq⟩
  · rw [if_neg e]
    exact ⟨_, rfl, okD_in (by rw [perf_len]; omega) (by rw [perf_len]; omega) (by simp) k4.1 k4.2 (by simp) hq⟩
theorem syncD_stop {d : Dk} (h : runD d = true) (h1 : 0 ≤ d.left ∧ d.left < d.pend.length) : ∃ l, syncD d = (⟨l, [], 0, true⟩, 40) := by
  unfold syncD
  rw [h, if_pos rfl]
  simp only [List.length_map]
  rw [if_pos h1.1, if_pos h1.2]
  exact ⟨_, rfl⟩
/-! ### What Sync writes -/
def kdW (first : Bool) (m : Nat) : Nat := (if first then 1 else 0) + (if m = 0 then 2 else 0)
/-- The writes of a record, of which so many sectors are left. -/
def wrR (g : Nat) : Nat → Bool → Nat → Bs → List Wr
  | _, _, 0, _ => []
  | p, first, m + 1, b => ⟨(p : Int), secS g p (kdW first m) (b.take 112)⟩ :: wrR g (p + 1) false m (b.drop 112)
/-- The writes of records. -/
def wrs (g : Nat) : Nat → List Bs → List Wr
  | _, [] => []
  | p, b :: r => wrR g p true (secN b.length) b ++ wrs g (p + secN b.length) r
theorem wrR_len (g : Nat) : ∀ (m p : Nat) (first : Bool) (b : Bs), (wrR g p first m b).length = m
  | 0, _, _, _ => rfl
  | m + 1, p, first, b => by rw [wrR, List.length_cons, wrR_len g m]
theorem usedN_cons (b : Bs) (r : List Bs) : usedN (b :: r) = secN b.length + usedN r := by simp [usedN]
theorem wrs_len (g : Nat) : ∀ (l : List Bs) (p : Nat), (wrs g p l).length = usedN l
  | [], _ => rfl
  | b :: r, p => by rw [wrs, List.length_append, wrR_len, wrs_len g r, usedN_cons]
theorem wrR_ok (g : Nat) : ∀ (m p : Nat) (first : Bool) (b : Bs), ∀ w ∈ wrR g p first m b, (p : Int) ≤ w.pos ∧ w.pos < (p : Int) + m ∧ w.data.length = 128
  | 0, _, _, _, w, h => by cases h
  | m + 1, p, first, b, w, h => by
    rw [wrR] at h
    rcases List.mem_cons.1 h with e | e
    · subst e
      refine ⟨Int.le_refl _, by show (p : Int) < _; omega, secS_len (by rw [List.length_take]; omega)⟩
    · have := wrR_ok g m (p + 1) false _ w e
      omega
theorem wrs_ok (g : Nat) : ∀ (l : List Bs) (p : Nat), ∀ w ∈ wrs g p l, (p : Int) ≤ w.pos ∧ w.pos < (p : Int) + usedN l ∧ w.data.length = 128
  | [], _, w, h => by cases h
  | b :: r, p, w, h => by
    rw [wrs] at h
    rw [usedN_cons]
    rcases List.mem_append.1 h with e | e
    · have := wrR_ok g _ _ _ _ w e
      omega
    · have := wrs_ok g r _ w e
      omega
theorem wrs_append (g : Nat) : ∀ (l m : List Bs) (p : Nat), wrs g p (l ++ m) = wrs g p l ++ wrs g (p + usedN l) m
  | [], m, p => by simp [wrs, usedN]
  | b :: r, m, p => by
    rw [List.cons_append, wrs, wrs, wrs_append g r m, usedN_cons, List.append_assoc, Nat.add_assoc]
/-- The disk while Sync writes. -/
def dW (d : Dk) (P : List Wr) : Dk := ⟨d.secs, P, d.left, false⟩
theorem dW_ok {d : Dk} (hd : okD d = true) {P : List Wr} (hl : P.length ≤ 4096) (hP : ∀ w ∈ P, (0 ≤ w.pos ∧ w.pos < d.secs.length) ∧ w.data.length = 128) : okD (dW d P) = true := by
  obtain ⟨⟨k1, k2⟩, k3, k4, k5, k6⟩ := okD_spec hd
  exact okD_in k1 k2 hl k4.1 k4.2 hP k6
theorem dW_write {d : Dk} (hd : okD d = true) {P : List Wr} {p : Nat} {b : Bs} (hl : P.length < 4096) (hP : ∀ w ∈ P, (0 ≤ w.pos ∧ w.pos < d.secs.length) ∧ w.data.length = 128) (hp : p < d.secs.length) (hb : b.length = 128) :
    writeD (dW d P) p b = (dW d (P ++ [⟨p, b⟩]), 0) := by
  have h1 := dW_ok hd (by omega) hP
  rw [writeD_ok (by unfold runD; rw [h1]; rfl) (by unfold hasD; rw [decide_eq_true (by omega), decide_eq_true (by show (p : Int) < ((dW d P).secs.length : Int); show (p : Int) < (d.secs.length : Int); omega)]; rfl) (by omega) (by show P.length ≠ 4096; omega)]
  unfold addD dW fillB
  rw [hb]; simp
/-- What Sync answers. -/
def newR (j : Jn) : List Bs := j.recs.drop j.sync.toNat
def oldR (j : Jn) : List Bs := j.recs.take j.sync.toNat
def wrJ (j : Jn) (d : Dk) : List Wr := wrs (genL d.secs + 1) (usedN (oldR j)) (newR j)
def syncJ (j : Jn) (d : Dk) : Jn × Dk × Int :=
  if chkJ j = false then (j0, d0, 1) else if okD d = false then (j0, d0, 40) else if d.stop = true then (j0, d0, 40) else
  if j.many ≠ d.secs.length then (j0, d0, 1) else if 0 < d.pend.length then (j0, d0, 1) else
  if ¬ (recB d.secs = oldR j ∧ genL d.secs + 1 < 4294967296) then (j0, d0, 50) else
  if j.sync = j.recs.length then (j, d, 0) else
  let s := syncD (dW d (wrJ j d))
  if s.2 ≠ 0 then (j0, s.1, s.2) else ({ j with sync := j.recs.length }, s.1, 0)
def eJD (x : Jn × Dk × Int) : PV := .tup [eJ x.1, eD x.2.1, eE x.2.2]
end Go.Proofs.Ytijkiolobmkhhaa
