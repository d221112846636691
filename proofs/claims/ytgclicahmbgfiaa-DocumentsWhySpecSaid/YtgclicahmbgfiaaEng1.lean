/- A part of the proof: the engine, that follows the model step by step with abstract values; no program in sight. -/
import Derived.Test.YtgclicahmbgfiaaEng0
import Derived.Laws.StructEq
import Derived.Laws.Externs
import Derived.Lib.Overlaps
import Derived.ChangeKeysEq
import Derived.Maps.RangeRun
import Derived.Conc.LoneSelectN
import Derived.Conc.SmallLaws
set_option linter.unusedSimpArgs false
set_option linter.unusedVariables false
set_option linter.unnecessarySimpa false
namespace Go.Sg
open Go
theorem cells_one {p : PV} (h : p.one = true) : p.cells = [p] := by cases p <;> first | rfl | cases h
theorem one_p (c : PV) : (AV.p c).one = c.one := by cases c <;> rfl
theorem rowC_ones : ∀ {l : List PV}, (∀ c ∈ l, c.one = true) → rowC l = l.map .p
  | [], _ => rfl
  | c :: r, h => by
    rw [← List.singleton_append, rowC_append, rowC_one, cells_one (h c (by simp)), rowC_ones fun x hx => h x (by simp [hx])]; rfl
theorem okRow_ones {l : List PV} (h : ∀ c ∈ l, c.one = true) : okRow 1 l := fun c hc => by
  have := cells_one (h c hc)
  exact ⟨by rw [this]; rfl, by rw [this]; intro x hx; simp at hx; subst hx; exact h _ hc⟩
theorem okRow_rep {sz : Nat} {z : PV} (h : okE sz z) (n : Nat) : okRow sz (List.replicate n z) := fun p hp => by
  rw [(List.mem_replicate.1 hp).2]; exact h
theorem eqS_eq {a b : PV} (h : eqS a b = true) : b = a := by
  unfold eqS at h
  split at h
  · simp at h; rw [h.1, h.2]
  · simp at h; rw [h]
  · cases h
theorem tArr_spec {P : Program} {t : TypeId} {n : Nat} {z0 : PV} (h : tArr P t = some (n, z0)) : tZ P t = some (List.replicate n z0) ∧ z0.one = true ∧ tA P t = some (n, 1, false) := by
  unfold tArr at h
  split at h
  · rename_i n' z r h1 h2
    split at h
    · rename_i hc
      obtain ⟨h3, h4, h5⟩ := hc
      injection h with h; injection h with e1 e2; subst e1; subst e2
      refine ⟨?_, h5, h1⟩
      rw [h2]; congr 1
      subst h3
      have : ∀ x ∈ r, x = z := fun x hx => eqS_eq (List.all_eq_true.1 h4 x hx)
      have hr : r = List.replicate r.length z := List.eq_replicate_iff.2 ⟨rfl, this⟩
      rw [List.replicate_succ, ← hr]
    · cases h
  · cases h
theorem setAtP_length : ∀ (vs cs : List PV) (off : Nat), (setAtP cs off vs).length = cs.length
  | [], _, _ => rfl
  | v :: r, cs, off => by rw [setAtP, setAtP_length r]; simp
theorem setAtP_map : ∀ (vs cs : List PV) (off : Nat), (setAtP cs off vs).map AV.p = setAtL (cs.map .p) off (vs.map .p)
  | [], _, _ => rfl
  | v :: r, cs, off => by rw [setAtP, setAtP_map r, List.map_cons, setAtL, List.map_set]
theorem mem_setAtP : ∀ (vs cs : List PV) (off : Nat) (x : PV), x ∈ setAtP cs off vs → x ∈ cs ∨ x ∈ vs
  | [], _, _, _, h => .inl h
  | v :: r, cs, off, x, h => by
    rcases mem_setAtP r _ _ x h with h' | h'
    · rcases List.mem_or_eq_of_mem_set h' with h'' | h''
      · exact .inl h''
      · exact .inr (by simp [h''])
    · exact .inr (by simp [h'])
theorem rowC_setPart {sz : Nat} (h0 : 0 < sz) {l cs vs : List PV} (h : okRow sz l) {i j : Nat} (hp : l[i]? = some (.agg cs)) (hj : j + vs.length ≤ sz) :
    setAtL (rowC l) (i * sz + j) (vs.map .p) = rowC (l.set i (.agg (setAtP cs j vs))) := by
  have hi : i < l.length := (List.getElem?_eq_some_iff.1 hp).1
  have hcs : cs.length = sz := (h _ (List.mem_of_getElem? hp)).1
  have hlen := rowC_len h0 h
  have hle : i * sz + sz ≤ l.length * sz := by
    have : (i + 1) * sz ≤ l.length * sz := Nat.mul_le_mul_right _ (by omega)
    rw [Nat.add_mul, Nat.one_mul] at this; exact this
  have e1 : l.set i (.agg (setAtP cs j vs)) = l.take i ++ [PV.agg (setAtP cs j vs)] ++ l.drop (i + 1) := (set_splice l i _ hi).symm
  rw [e1, rowC_append, rowC_append, rowC_one]
  have e2 : (PV.agg (setAtP cs j vs)).cells.map AV.p = setAtL (cs.map .p) j (vs.map .p) := setAtP_map vs cs j
  rw [e2, setAtL_eq _ _ _ (by simp; omega), setAtL_eq _ _ _ (by simp; omega), ← rowC_take h0 h, ← rowC_drop h0 h]
  have hmid : ((rowC l).drop (i * sz)).take sz = cs.map .p := by
    have := rowC_mid h0 h i 1
    have e3 : (l.drop i).take 1 = [.agg cs] := by
      rw [List.drop_eq_getElem_cons hi]
      have : l[i] = .agg cs := by rw [List.getElem?_eq_getElem hi] at hp; injection hp
      rw [this]; rfl
    rw [e3, rowC_one, Nat.one_mul] at this; exact this
  have e4 : (rowC l).take (i * sz + j) = (rowC l).take (i * sz) ++ (cs.map AV.p).take j := by
    rw [← hmid, List.take_take, Nat.min_eq_left (by omega), List.take_add]
  have e5 : (rowC l).drop (i * sz + j + (vs.map AV.p).length) = (cs.map AV.p).drop (j + (vs.map AV.p).length) ++ (rowC l).drop ((i + 1) * sz) := by
    rw [← hmid, List.length_map, Nat.add_mul, Nat.one_mul]
    have a1 : (rowC l).drop (i * sz + j + vs.length) = ((rowC l).drop (i * sz)).drop (j + vs.length) := by rw [List.drop_drop, Nat.add_assoc]
    have a2 : (rowC l).drop (i * sz + sz) = ((rowC l).drop (i * sz)).drop sz := by rw [List.drop_drop]
    rw [a1, a2]
    generalize (rowC l).drop (i * sz) = r
    have a3 : r.drop (j + vs.length) = (r.take sz ++ r.drop sz).drop (j + vs.length) := by rw [List.take_append_drop]
    rw [a3]
    by_cases hr : sz ≤ r.length
    · rw [List.drop_append_of_le_length (by simp; omega)]
    · rw [List.drop_append]
      congr 1
      rw [List.drop_of_length_le (l := r) (by omega)]; simp
  rw [e4, e5]
  simp [List.append_assoc]
theorem zerosOf_len {z : List PV} {s n : Nat} (h : z.length = s) : (zerosOf z n).length = n * s := by
  unfold zerosOf
  split
  · simp at h; simp [← h]
  · subst h
    induction n with
    | zero => simp
    | succ n ih => rw [List.replicate_succ, List.flatten_cons, List.length_append, ih, Nat.add_mul]; simp; omega
theorem pureParts_spec : ∀ {k : Nat} {parts : List (Nat × AV)} {vals : List PV}, pureParts k parts = some vals → parts = (vals.zipIdx k).map fun x => (x.2, AV.p x.1)
  | k, [], vals, h => by simp [pureParts] at h; subst h; rfl
  | k, (j, a) :: r, vals, h => by
    cases a with
    | p v =>
      simp only [pureParts] at h
      split at h
      · rename_i e
        split at h
        · rename_i q hq
          injection h with h; subst h; subst e
          rw [pureParts_spec hq]; rfl
        · cases h
      · cases h
    | _ => simp [pureParts] at h
section
variable {P : Program} {F : Nat → Prop} {μ : Num} {σ : Heap} {w : World} {nid : Nat} {K : AV → Heap → Prop}
def liftW (K : AV → Heap → Prop) (v : AV) (us : Heap) : Prop := ∃ v' us', K v' us' ∧ Imp v v' ∧ us = unH us' ∧ ∀ x ∈ us', okO x.2
theorem WOut.lift {s : Sem Value} (hσ : SimH F μ σ w) (h : WOut P F μ (unH σ) w nid (liftW K) s) : WOut P F μ σ w nid K s := by
  obtain ⟨av, us, v, w', F', μ', ⟨v', us', h1, h2, h3, h4⟩, h5, h6, h7, h8, h9⟩ := h
  subst h3
  exact ⟨v', us', v, w', F', μ', h1, h5, h6, hσ.re h7 h4, h2 _ _ _ _ h8, h9⟩
theorem rowAlloc_sound {t : TypeId} {old : Value} (hσ : SimH F μ σ w) (hn : μ nid = none) (h : rowAlloc P t nid K) : WOut P F μ σ w nid K (Instr.alloc t true old) := by
  unfold rowAlloc at h
  split at h
  · rename_i n z0 ht
    obtain ⟨hz, hone, _⟩ := tArr_spec ht
    refine WOut.lift hσ (allocK_sound hσ.un hn ?_)
    simp only [allocK, hz]
    have hones : ∀ c ∈ List.replicate n z0, c.one = true := fun c hc => by rw [(List.mem_replicate.1 hc).2]; exact hone
    exact ⟨_, _, h, Imp.eptr (by omega), by simp only [unH, List.map_cons, List.map_nil, unO, rowC_ones hones], fun x hx => by
      simp at hx; subst hx; exact okRow_ones hones⟩
  · exact allocK_sound hσ hn h
theorem rowBox_sound {t : TypeId} {x : AV} {v : Value} (hσ : SimH F μ σ w) (hn : μ nid = none) (hx : RV F μ w v x) (h : rowBox P t x nid K) : WOut P F μ σ w nid K (Instr.box t v) := by
  unfold rowBox at h
  split at h
  · split at h
    · rename_i cs
      obtain ⟨hones, hK⟩ := h
      refine WOut.lift hσ (boxK_sound hσ.un hn hx ⟨rfl, _, _, hK, Imp.eptr (by omega), ?_, fun x hx => ?_⟩)
      · simp only [unH, List.map_cons, List.map_nil, unO, rowC_ones hones]; rfl
      · simp at hx; subst hx; exact okRow_ones hones
    · exact h.elim
  · exact boxK_sound hσ hn hx h
theorem cells_map {v : PV} : (AV.p v).cells = v.cells.map .p := by cases v <;> rfl
theorem rowStore_sound {t : TypeId} {a x : AV} {va v : Value} (hσ : SimH F μ σ w) (ha : RV F μ w va a) (hx : RV F μ w v x) (h : rowStore P t a x σ K) :
    ∃ us w', K undefA us ∧ (Instr.storeAt t va v).run P w = .ok () w' ∧ Step F μ w F μ w' ∧ SimH F μ (us ++ σ) w' := by
  cases a with
  | eptr o sz i j =>
    have go : storeK P t (unV (.eptr o sz i j)) x (unH σ) (fun v us => v = undefA ∧ ∃ us', K undefA us' ∧ us = unH us' ∧ ∀ x ∈ us', okO x.2) := by
      simp only [rowStore] at h
      split at h
      · rename_i v
        split at h
        · rename_i s g sz' l ht ho
          have hok := row_of hσ ho
          simp only [storeK, unV, ht, un_get ho, unO, cells_map]
          split at h
          · rename_i hd
            obtain rfl := of_decide_eq_true hd
            obtain ⟨⟨rfl, h0, rfl, hi, hv⟩, hK⟩ := h
            have hlen := rowC_len h0 hok
            have hle : i * sz' + sz' ≤ l.length * sz' := by
              have : (i + 1) * sz' ≤ l.length * sz' := Nat.mul_le_mul_right _ (by omega)
              rw [Nat.add_mul, Nat.one_mul] at this; exact this
            refine ⟨⟨by first | trivial | rfl, by simp [hv.1], by omega, fun c hc => ?_⟩, by first | trivial | rfl, _, hK, ?_, ?_⟩
            · obtain ⟨c', hc', rfl⟩ := List.mem_map.1 hc
              rw [one_p]; exact hv.2 c' hc'
            · simp only [unH, List.map_cons, List.map_nil, unO, Nat.add_zero, rowC_set h0 hok hv i hi]
            · intro y hy; simp at hy; subst hy; exact hok.set i hv
          · rename_i hd1 hd2
            have hs := of_decide_eq_true hd2
            obtain ⟨⟨rfl, h0, hj, hi, hv⟩, hK⟩ := h
            have hK := hK _ (List.getElem?_eq_getElem hi)
            split at hK
            · rename_i cs hcs
              have hp : l[i]? = some (.agg cs) := by rw [List.getElem?_eq_getElem hi, hcs]
              have hlen := rowC_len h0 hok
              have hle : i * sz' + sz' ≤ l.length * sz' := by
                have : (i + 1) * sz' ≤ l.length * sz' := Nat.mul_le_mul_right _ (by omega)
                rw [Nat.add_mul, Nat.one_mul] at this; exact this
              refine ⟨⟨by first | trivial | rfl, by simp [hv.1], by omega, fun c hc => ?_⟩, by first | trivial | rfl, _, hK, ?_, ?_⟩
              · obtain ⟨c', hc', rfl⟩ := List.mem_map.1 hc
                rw [one_p]; exact hv.2 c' hc'
              · simp only [unH, List.map_cons, List.map_nil, unO]
                rw [rowC_setPart h0 hok hp (by rw [hv.1]; exact hj)]
              · intro y hy; simp at hy; subst hy
                have hcs' := hok _ (List.mem_of_getElem? hp)
                refine hok.set i ⟨by simp only [PV.cells, setAtP_length]; exact hcs'.1, fun c hc => ?_⟩
                rcases mem_setAtP _ _ _ _ hc with h' | h'
                · exact hcs'.2 c h'
                · exact hv.2 c h'
            · exact hK.elim
          · split at h
            · rename_i cs
              obtain ⟨⟨rfl, rfl, rfl, rfl, rfl, hcl, hones⟩, hK⟩ := h
              have hlen := rowC_len (by omega) hok
              refine ⟨⟨by first | trivial | rfl, by simp [PV.cells, hcl], by omega, fun c hc => ?_⟩, by first | trivial | rfl, _, hK, ?_, ?_⟩
              · obtain ⟨c', hc', rfl⟩ := List.mem_map.1 hc
                rw [one_p]; exact hones c' hc'
              · simp only [unH, List.map_cons, List.map_nil, unO, PV.cells]
                rw [setAtL_eq _ _ _ (by simp; omega), rowC_ones hones]
                simp only [Nat.zero_mul, Nat.add_zero, List.take_zero, List.nil_append, Nat.zero_add, List.length_map]
                rw [List.drop_of_length_le (by omega), List.append_nil]
              · intro y hy; simp at hy; subst hy; exact okRow_ones hones
            · exact h.elim
        · exact h.elim
      · exact h.elim
    obtain ⟨us, w', ⟨_, us', h1, rfl, h2⟩, h3, h4, h5⟩ := storeK_sound (P := P) hσ.un ha.un hx go
    exact ⟨us', w', h1, h3, h4, hσ.re h5 h2⟩
  | _ => exact storeK_sound hσ ha hx (storeF_to h)
theorem rowBuildSlice_sound {t : TypeId} {len : Nat} {parts : List (Nat × AV)} {vs : List (Nat × Value)} (hσ : SimH F μ σ w) (hn : μ nid = none) (hl : vs.length = parts.length)
    (hp : ∀ (i : Nat) p, parts[i]? = some p → ∃ v, vs[i]? = some (p.1, v) ∧ RV F μ w v p.2) (h : rowBuildSlice P t len parts nid K) : WOut P F μ σ w nid K (Instr.buildSlice t len vs.toArray) := by
  unfold rowBuildSlice at h
  split at h
  · rename_i vals hv
    split at h
    · rename_i hd
      have hd := of_decide_eq_true hd
      split at h
      · rename_i s g z hE hz
        obtain ⟨⟨h1, h2, h3, h4⟩, hK⟩ := h
        refine WOut.lift hσ (buildSliceK_sound hσ.un hn hl hp ?_)
        simp only [buildSliceK, hE, hz]
        have hzl : (zerosOf z len).length = len * s := zerosOf_len h1
        have hf := fillA_row h2 vals 0 (zerosOf z len) h4 (by rw [hzl, hd, Nat.zero_add]; exact Nat.le_refl _)
        rw [pureParts_spec hv, hf]
        refine ⟨⟨h1, h2, h3⟩, _, _, hK, Imp.rsl' (by omega), ?_, fun x hx => by simp at hx; subst hx; exact h4⟩
        simp only [unH, List.map_cons, List.map_nil, unO, Nat.zero_mul, List.take_zero, List.nil_append, Nat.zero_add]
        rw [List.drop_of_length_le (by rw [hzl, hd]; exact Nat.le_refl _), List.append_nil]
      · exact h.elim
    · exact buildSliceK_sound hσ hn hl hp h
  · exact buildSliceK_sound hσ hn hl hp h
theorem rowMake_sound {t : TypeId} {n c : AV} {vn vc : Value} (hσ : SimH F μ σ w) (hnew : μ nid = none) (hn : RV F μ w vn n) (hc : RV F μ w vc c) (h : rowMake P t n c nid K) : WOut P F μ σ w nid K (Instr.makeSlice t vn vc) := by
  unfold rowMake at h
  split at h
  · rename_i k1 n k2 c s g z bt hE hz hb
    obtain ⟨⟨h1, h2, h3, h4, h5⟩, ⟨h6, h7, h8⟩, hK⟩ := h
    refine WOut.lift hσ (makeSliceK_sound hσ.un hnew hn hc ?_)
    simp only [makeSliceK, hE, hz, hb]
    refine ⟨⟨h3, h4, h6, h7, h8, h5⟩, _, _, hK, Imp.rsl' (by omega), ?_, fun x hx => by simp at hx; subst hx; exact okRow_rep h1 _⟩
    simp only [unH, List.map_cons, List.map_nil, unO]
    rw [rowC_replicate z g _ _ h2]
  · exact h.elim
theorem rowSrc_un {x : AV} {s : Nat} {v : Value} {Kn : Nat → List PV → Prop} (h0 : 0 < s) (hσ : SimH F μ σ w) (hx : RV F μ w v x) (h : rowSrc x s σ Kn) :
    srcK (unV x) s (unH σ) fun n new => ∃ l, new = rowC l ∧ okRow s l ∧ l.length = n ∧ Kn n l := by
  unfold rowSrc at h
  split at h
  · rename_i sz c l
    obtain ⟨h1, hK⟩ := h
    refine ⟨h1, l, rfl, ?_, rfl, hK⟩
    intro p hp
    rcases h1 with rfl | rfl
    · cases hx.pure_inv with
      | esl a cap sz clip e1 e2 e3 => simp at hp
      | sl b off len cap sz clip l cv hb hl h3 h4 h5 h6 h7 h8 =>
        obtain ⟨i, hi, rfl⟩ := List.getElem_of_mem hp
        exact h6 i _ (List.getElem?_eq_getElem hi)
    · simp at hp
  · rename_i o sz i n
    obtain ⟨rfl, h⟩ := h
    split at h
    · rename_i sz' l ho
      obtain ⟨⟨rfl, hle⟩, hK⟩ := h
      have hok := row_of hσ ho
      simp only [srcK, unV, un_get ho, unO]
      refine ⟨trivial, ?_, _, rowC_mid h0 hok i n, (hok.drop i).take n, by simp; omega, hK⟩
      rw [rowC_len h0 hok, ← Nat.add_mul]; exact Nat.mul_le_mul_right _ hle
    · exact h.elim
  · rename_i b
    obtain ⟨rfl, hK⟩ := h
    have hones : ∀ c ∈ (b.data.toList.map fun u => PV.int .u8 u.toNat), c.one = true := fun c hc => by
      obtain ⟨u, _, rfl⟩ := List.mem_map.1 hc; rfl
    simp only [srcK, unV]
    refine ⟨trivial, _, ?_, okRow_ones hones, by rw [List.length_map, Array.length_toList]; rfl, hK⟩
    rw [rowC_ones hones, List.map_map]; rfl
  · exact h.elim
theorem ones_of {s : Nat} {l : List PV} (h : okRow s l) (c : AV) (hc : c ∈ rowC l) : c.one = true := by
  simp only [rowC, List.mem_map, List.mem_flatMap] at hc
  obtain ⟨q, ⟨p, hp, hq⟩, rfl⟩ := hc
  rw [one_p]; exact (h p hp).2 q hq
theorem srcK_mono {x : AV} {s : Nat} {Kn Kn' : Nat → List AV → Prop} (h : srcK x s σ Kn) (hk : ∀ n new, Kn n new → Kn' n new) : srcK x s σ Kn' := by
  unfold srcK at *
  split at h
  · exact ⟨h.1, hk _ _ h.2⟩
  · refine ⟨h.1, ?_⟩
    have h2 := h.2
    split at h2
    · exact ⟨h2.1, hk _ _ h2.2⟩
    · exact h2.elim
  · exact ⟨h.1, hk _ _ h.2⟩
  · exact h.elim
theorem srcK_self {x : AV} {s : Nat} {Kn : Nat → List AV → Prop} (h : srcK x s σ Kn) : srcK x s σ fun n new => Kn n new ∧ srcK x s σ fun n' _ => n' = n := by
  unfold srcK at *
  split at h
  · exact ⟨h.1, h.2, h.1, rfl⟩
  · rename_i o sz off n
    obtain ⟨h1, h2⟩ := h
    subst h1
    cases ho : σ.get o with
    | cells cs => simp only [ho] at h2 ⊢; exact ⟨trivial, h2.1, h2.2, trivial, h2.1, trivial⟩
    | _ => simp only [ho] at h2
  · exact ⟨h.1, h.2, h.1, rfl⟩
  · exact h.elim
theorem rowSrc_ex {x : AV} {s : Nat} {Kn : Nat → List PV → Prop} (h : rowSrc x s σ Kn) : ∃ n l, Kn n l := by
  unfold rowSrc at h
  split at h
  · exact ⟨_, _, h.2⟩
  · have h2 := h.2
    split at h2
    · exact ⟨_, _, h2.2⟩
    · exact h2.elim
  · exact ⟨_, _, h.2⟩
  · exact h.elim
theorem rowAppend_sound {t xt ty : TypeId} {a x : AV} {va vx : Value} (hσ : SimH F μ σ w) (hnew : μ nid = none) (ha : RV F μ w va a) (hx : RV F μ w vx x) (h : rowAppend P t xt a x σ nid K) :
    WOut P F μ σ w nid K (Builtin.append_ #[t, xt] ty #[va, vx]) := by
  unfold rowAppend at h
  split at h
  · exact appendK_sound hσ hnew ha hx h
  · split at h
    · rename_i s g z bt hE hz hb
      obtain ⟨⟨h1, h2, h3, h4⟩, h⟩ := h
      have hsrc := rowSrc_un h2 hσ hx h
      cases a with
      | rsl o sz i len =>
        by_cases hcase : srcK (unV x) s (unH σ) fun n _ => n = 0
        · obtain ⟨n, new, ⟨⟨l', e1, e2, e3, hk⟩, hself⟩, hlen, hnl, hfc⟩ := srcK_sound (P := P) h2 hσ.un hx.un (srcK_self hsrc)
          have hn0 : n = 0 := by
            have := srcK_self hcase
            have h5 : ∀ {x : AV} {s : Nat} {σ : Heap} {n : Nat}, srcK x s σ (fun n' _ => n' = n) → srcK x s σ (fun n' _ => n' = 0) → n = 0 := by
              intro x s σ n ha hb
              unfold srcK at ha hb
              split at ha
              · exact ha.2.symm.trans hb.2
              · have ha2 := ha.2
                have hb2 := hb.2
                split at ha2
                · rename_i hcs; simp only [hcs] at hb2; exact ha2.2.symm.trans hb2.2
                · exact ha2.elim
              · exact ha.2.symm.trans hb.2
              · exact ha.elim
            exact h5 hself hcase
          subst hn0
          have hl' : l' = [] := List.length_eq_zero_iff.1 e3
          subst hl'
          simp only at hk
          split at hk
          · rename_i sz' l ho
            obtain ⟨⟨rfl, rfl, rfl, rfl, hsm⟩, hK⟩ := hk
            obtain ⟨e, hu, hs, _⟩ := tEZ_spec hE hz
            cases ha with
            | rsl _ _ _ _ _ ha =>
            cases ha with
            | msl o sz off off' len cap b t' n' hbm hcap hsh hbd hlc hcm =>
            have hd : σ.get o ≠ .dead := by rw [ho]; simp
            have hobj := hσ.obj o b hbm
            rw [ho] at hobj
            have hst := (hσ.renew hnew rfl hd hbm .dead trivial).1
            obtain ⟨k1, k2⟩ := hσ.renew hnew rfl hd hbm (.row sz' (l ++ [])) (by rw [List.append_nil]; exact hobj.step hst rfl fun c hc => ⟨hc, rfl⟩)
            have hoff : off' = 0 ∨ cap = 0 := by rcases hcap with h' | h' <;> omega
            obtain ⟨cells, c1, c2, _⟩ := hfc 0 (Nat.le_refl _)
            have hc0 : cells = #[] := by apply Array.eq_empty_of_size_eq_zero; omega
            subst hc0
            have c1' := c1 w (fun _ _ => rfl)
            refine ⟨_, _, .slice (some ⟨b, off', none⟩) (l.length + 0) cap, w, F, _, hK, ?_, k1, k2, .rsl _ _ _ _ _ (.msl _ _ _ _ _ _ _ t' n' (Num.put_self _ _ _) ?_ hsh hbd hlc hcm), fun o ho => if_neg ho⟩
            · rw [run_append_fits hu hs h4 hlen (by omega), c1']
              simp [storeCells]
            · rcases hcap with h' | h'
              · exact .inl h'
              · exact .inr h'
          · exact hk.elim
        · refine WOut.lift hσ (appendK_sound hσ.un hnew ha.un hx.un ?_)
          simp only [appendK, unV, hE, hz, hb]
          refine ⟨⟨h1, h2, h3, h4⟩, srcK_mono (srcK_self hsrc) fun n new ⟨⟨l', e1, e2, e3, hk⟩, hself⟩ => ?_⟩
          subst e1
          simp only at hk
          split at hk
          · rename_i sz' l ho
            obtain ⟨⟨rfl, rfl, rfl, rfl, hsm⟩, hK⟩ := hk
            have hok := row_of hσ ho
            rw [un_get ho]
            simp only [unO]
            refine ⟨⟨by first | trivial | rfl, by omega, by rw [rowC_len h2 hok], hsm, fun c hc => ones_of e2 c hc⟩, fun hn => absurd ?_ hcase, fun hn => ⟨_, _, hK, Imp.rsl' (by omega), ?_, fun y hy => ?_⟩⟩
            · subst hn; exact hself
            · simp only [unH, List.map_cons, List.map_nil, unO, rowC_append]
            · simp at hy
              rcases hy with rfl | rfl
              · exact hok.append e2
              · trivial
          · exact hk.elim
      | p q =>
        cases q with
        | sl sz c l =>
          refine WOut.lift hσ (appendK_sound hσ.un hnew ha (hx.un) ?_)
          simp only [appendK, hE, hz, hb]
          refine ⟨⟨h1, h2, h3, h4⟩, srcK_mono hsrc fun n new ⟨l', e1, e2, e3, hk⟩ => ?_⟩
          subst e1
          obtain ⟨hc, hk0, hkp⟩ := hk
          refine ⟨hc, fun hn => ⟨_, [], hk0 hn, Imp.refl _, rfl, by simp⟩, fun hn => ⟨_, _, hkp hn, Imp.rsl' (by omega), ?_, fun x hx => ?_⟩⟩
          · simp only [unH, List.map_cons, List.map_nil, unO, rowC_append]; rfl
          · simp at hx; subst hx
            refine okRow.append ?_ e2
            intro p hp
            rcases hc.2.1 with rfl | rfl
            · cases ha.pure_inv with
              | esl a cap sz clip e1 e2 e3 => simp at hp
              | sl b off len cap sz clip l cv hb hl h3 h4 h5 h6 h7 h8 =>
                obtain ⟨i, hi, rfl⟩ := List.getElem_of_mem hp
                exact h6 i _ (List.getElem?_eq_getElem hi)
            · simp at hp
        | _ => obtain ⟨_, _, hf⟩ := rowSrc_ex h; exact hf.elim
      | _ => obtain ⟨_, _, hf⟩ := rowSrc_ex h; exact hf.elim
    · exact h.elim
theorem rowCopy_sound {t xt ty : TypeId} {a x : AV} {va vx : Value} (hσ : SimH F μ σ w) (ha : RV F μ w va a) (hx : RV F μ w vx x) (h : rowCopy P t a x σ K) : WOut P F μ σ w nid K (Builtin.copy_ #[t, xt] ty #[va, vx]) := by
  cases a with
  | rsl o sz i len =>
    simp only [rowCopy] at h
    split at h
    · rename_i s g hE
      obtain ⟨h0, h⟩ := h
      have hsrc := rowSrc_un h0 hσ hx h
      refine WOut.lift hσ (copyK_sound hσ.un ha.un hx.un ?_)
      simp only [copyK, unV, hE]
      refine ⟨h0, srcK_mono hsrc fun n new ⟨l', e1, e2, e3, hk⟩ => ?_⟩
      subst e1
      split at hk
      · rename_i sz' l ho
        obtain ⟨⟨rfl, rfl, hle⟩, hK⟩ := hk
        have hok := row_of hσ ho
        rw [un_get ho]
        simp only [unO]
        have hlen := rowC_len h0 hok
        rw [rowC_take h0 e2]
        have hml : (l'.take (min n len)).length = min n len := by simp; omega
        refine ⟨⟨trivial, by rw [hlen, ← Nat.add_mul]; exact Nat.mul_le_mul_right _ hle, fun c hc => ones_of (e2.take _) c hc⟩, _, _, hK, Imp.refl _, ?_, fun y hy => ?_⟩
        · simp only [unH, List.map_cons, List.map_nil, unO]
          rw [rowC_splice h0 hok (e2.take _) i (by rw [hml]; omega), hml]
        · obtain rfl := List.mem_singleton.1 hy
          show okRow sz' (l.take i ++ l'.take (min n len) ++ l.drop (i + min n len))
          exact (okRow.append (hok.take _) (e2.take _)).append (hok.drop _)
      · exact hk.elim
    · exact h.elim
  | _ => exact copyK_sound hσ ha hx h
end
end Go.Sg
namespace Go.Sg
open Go
section
variable {P : Program} {F : Nat → Prop} {μ : Num} {σ : Heap} {w : World} {nid : Nat}
theorem xQ_sound {o : Oper} {ev : Operand → AV} {a : Operand → Value} {K : AV → Prop} (hσ : SimH F μ σ w) (hev : ∀ x, RV F μ w (a x) (ev x)) (h : xQ P o.op ev σ K) : QtN P F μ w K (execOp a o) := by
  obtain ⟨dst, op, ty, pos, after, guard⟩ := o
  cases op <;> simp only [xQ] at h
  case load t x => exact (rowLoad_sound hσ (hev x) h).next
  case nilCheck x =>
    obtain ⟨av, h1, h2, h3⟩ := rowNil_sound (hev x) h
    refine ⟨av, a x, h1, h2, fun w' _ => ?_⟩
    simp only [execOp]
    revert h3
    generalize a x = v
    intro h3
    unfold nonNil at h3
    split at h3 <;> first | rfl | cases h3
  case fieldAddr t x f => exact (rowFa_sound (hev x) h).next
  case indexAddr t x i => exact (rowIx_sound (hev x) (hev i) h).next
  case convert s d x => exact (rowConv_sound hσ (hev x) h).next
  case slice t x lo hi mx => exact (rowSl_sound hσ (hev x) (opt_rv hev) (opt_rv hev) (opt_rv hev) h).next
  case call c =>
    obtain ⟨callee, args, ats⟩ := c
    cases callee with
    | builtin b =>
      cases b with
      | len =>
        simp only [] at h
        split at h
        · rename_i x t hx ht
          have hargs : args = #[x] := by apply Array.ext'; simpa using hx
          subst hargs
          have := (rowLen_sound (t := t) (ty := ty) (hev x) h).next
          have e : Builtin.len_ ats ty #[a x] = Builtin.len_ #[t] ty #[a x] := by simp only [Builtin.len_, ht]; rfl
          have e2 : execOp a { dst := dst, op := .call { callee := .builtin .len, args := #[x], argTypes := ats }, type := ty, pos := pos, after := after, guard := guard } = (do pure (.value (← Builtin.len_ ats ty (#[x].map a)))) := rfl
          rw [e2]
          have e3 : #[x].map a = #[a x] := by simp
          rw [e3, e]; exact this
        · exact h.elim
      | _ => exact qK_sound hσ hev h
    | _ => exact qK_sound hσ hev h
  all_goals exact qK_sound hσ hev h
theorem xW_sound {o : Oper} {ev : Operand → AV} {a : Operand → Value} {K : AV → Heap → Prop} (hσ : SimH F μ σ w) (hnew : μ nid = none) (hev : ∀ x, RV F μ w (a x) (ev x)) (h : xW P o.op ev σ nid K) : WOutN P F μ σ w nid K (execOp a o) := by
  obtain ⟨dst, op, ty, pos, after, guard⟩ := o
  have parts_rv : ∀ (parts : Array (Nat × Operand)), (∀ (i : Nat) p, (parts.toList.map fun y => (y.1, ev y.2))[i]? = some p → ∃ v, (parts.toList.map fun y => (y.1, a y.2))[i]? = some (p.1, v) ∧ RV F μ w v p.2) := fun parts i p hp => by
    simp only [List.getElem?_map, Option.map_eq_some_iff] at hp
    obtain ⟨y, hy, rfl⟩ := hp
    exact ⟨a y.2, by simp [hy], hev y.2⟩
  cases op <;> simp only [xW] at h
  case alloc t => exact (rowAlloc_sound (old := .tuple #[]) hσ hnew h).next
  case box t x => exact (rowBox_sound (t := t) hσ hnew (hev x) h).next
  case store t x y =>
    obtain ⟨us, w', h1, h2, h3, h4⟩ := rowStore_sound (P := P) hσ (hev x) (hev y) h
    refine ⟨undefA, us, undef, w', F, μ, h1, .inr ⟨?_, rfl⟩, h3, h4, .p (.tup _ _ rfl (by simp)), fun _ _ => rfl⟩
    simp [execOp, h2]
  case buildSlice t n parts =>
    have := rowBuildSlice_sound (P := P) (F := F) (μ := μ) (w := w) (K := K) (t := t) (len := n) (parts := parts.toList.map fun y => (y.1, ev y.2)) (vs := parts.toList.map fun y => (y.1, a y.2)) hσ hnew (by simp) (parts_rv parts) h
    have e : (parts.map fun (i, x) => (i, a x)) = (parts.toList.map fun y => (y.1, a y.2)).toArray := by
      apply Array.ext'; simp
    simp only [execOp]
    rw [e]
    exact this.next
  case makeSlice t n c => exact (rowMake_sound hσ hnew (hev n) (hev c) h).next
  case call c =>
    obtain ⟨callee, args, ats⟩ := c
    have hats : ∀ {t xt : TypeId}, ats[0]? = some t → ats[1]? = some xt → ∀ (args' : Array Value) (ty : TypeId), Builtin.append_ ats ty args' = Builtin.append_ #[t, xt] ty args' := fun h1 h2 args' ty => by
      simp only [Builtin.append_, h1, h2]; rfl
    split at h
    · rename_i x y t xt hc harg h1 h2
      simp only at hc harg h1 h2
      subst hc
      have hargs : args = #[x, y] := by apply Array.ext'; simpa using harg
      subst hargs
      have := (rowAppend_sound (ty := ty) hσ hnew (hev x) (hev y) h).next
      have e : execOp a { dst := dst, op := .call { callee := .builtin .append, args := #[x, y], argTypes := ats }, type := ty, pos := pos, after := after, guard := guard } = (do pure (.value (← Builtin.append_ ats ty (#[x, y].map a)))) := rfl
      rw [e, hats h1 h2]
      simpa using this
    · rename_i x y t hc harg h1
      simp only at hc harg h1
      subst hc
      have hargs : args = #[x, y] := by apply Array.ext'; simpa using harg
      subst hargs
      have := (rowCopy_sound (nid := nid) (xt := 0) (ty := ty) hσ (hev x) (hev y) h).next
      have e : execOp a { dst := dst, op := .call { callee := .builtin .copy, args := #[x, y], argTypes := ats }, type := ty, pos := pos, after := after, guard := guard } = (do pure (.value (← Builtin.copy_ ats ty (#[x, y].map a)))) := rfl
      have e2 : Builtin.copy_ ats ty (#[x, y].map a) = Builtin.copy_ #[t, 0] ty #[a x, a y] := by
        simp only [Builtin.copy_, h1, List.map_toArray, List.map_cons, List.map_nil]; rfl
      rw [e, e2]
      exact this
    · exact h.elim
  all_goals exact wK_sound hσ hnew hev h
end
end Go.Sg
namespace Go.Sg
open Go
mutual
def renV (f : Nat → Nat) : AV → AV
  | .ptr o off => .ptr (f o) off
  | .msl o sz off len => .msl (f o) sz off len
  | .rsl o sz i len => .rsl (f o) sz i len
  | .csl o sz i len cap => .csl (f o) sz i len cap
  | .eptr o sz i j => .eptr (f o) sz i j
  | .mp o => .mp (f o)
  | .ch o => .ch (f o)
  | .agg cs => .agg (renL f cs)
  | .tup cs => .tup (renL f cs)
  | .fn g a b => .fn g (renL f a) (renL f b)
  | .any => .any
  | .p v => .p v
def renL (f : Nat → Nat) : List AV → List AV
  | [] => []
  | a :: r => renV f a :: renL f r
end
theorem renL_map (f : Nat → Nat) : ∀ l : List AV, renL f l = l.map (renV f)
  | [] => rfl
  | a :: r => by rw [renL, renL_map f r]; rfl
def renM (f : Nat → Nat) : MV → MV
  | .h l => .h l
  | .v a => .v (renV f a)
def renO (f : Nat → Nat) : AObj → AObj
  | .mapS ks sz m => .mapS ks sz (m.map fun x => (x.1, renM f x.2))
  | .cells cs => .cells (renL f cs)
  | .map ks m => .map ks m
  | x => x
section
variable {P : Program} {F : Nat → Prop} {μ μ' : Num} {w : World} {f : Nat → Nat}
theorem RV.ren_out (h : ∀ o b, μ o = some b → μ' (f o) = some b) {v : Value} {a : AV} (hr : RV F μ w v a) : RV F μ' w v (renV f a) := by
  induction hr with
  | any v => exact .any v
  | p hp => exact .p hp
  | ptr o off b hb => exact .ptr _ off b (h o b hb)
  | msl o sz off off' len cap b t n h1 h0 h2 h3 h4 h5 => exact .msl _ sz off off' len cap b t n (h o b h1) h0 h2 h3 h4 h5
  | rsl o sz i len v _ ih => exact .rsl _ sz i len v ih
  | csl o sz i len cap base _ ih => exact .csl _ sz i len cap base ih
  | eptr o sz i j v _ ih => exact .eptr _ sz i j v ih
  | mp o b hb => exact .mp _ b (h o b hb)
  | ch o b hb => exact .ch _ b (h o b hb)
  | agg cs l h1 _ ih =>
    simp only [renV, renL_map]
    refine .agg cs _ (by simpa using h1) fun i p hp => ?_
    simp only [List.getElem?_map, Option.map_eq_some_iff] at hp
    obtain ⟨q, hq, rfl⟩ := hp
    exact ih i q hq
  | tup cs l h1 _ ih =>
    simp only [renV, renL_map]
    refine .tup cs _ (by simpa using h1) fun i p hp => ?_
    simp only [List.getElem?_map, Option.map_eq_some_iff] at hp
    obtain ⟨q, hq, rfl⟩ := hp
    exact ih i q hq
  | fn g as bs ls ms h1 h2 _ _ i1 i2 =>
    simp only [renV, renL_map]
    refine .fn g as bs _ _ (by simpa using h1) (by simpa using h2) (fun i p hp => ?_) (fun i p hp => ?_)
    · simp only [List.getElem?_map, Option.map_eq_some_iff] at hp
      obtain ⟨q, hq, rfl⟩ := hp
      exact i1 i q hq
    · simp only [List.getElem?_map, Option.map_eq_some_iff] at hp
      obtain ⟨q, hq, rfl⟩ := hp
      exact i2 i q hq
theorem RV.ren_in (h : ∀ o b, μ (f o) = some b → μ' o = some b) {v : Value} {x : AV} (hr : RV F μ w v x) : ∀ {a : AV}, x = renV f a → RV F μ' w v a := by
  induction hr with
  | any v => intro a e; cases a <;> simp only [renV] at e <;> first | exact .any v | cases e
  | p hp => intro a e; cases a <;> simp only [renV] at e <;> first | (injection e with e; subst e; exact .p hp) | cases e
  | ptr o off b hb => intro a e; cases a <;> simp only [renV] at e <;> first | (injection e with e1 e2; subst e1; subst e2; exact .ptr _ _ b (h _ b hb)) | cases e
  | msl o sz off off' len cap b t n h1 h0 h2 h3 h4 h5 =>
    intro a e; cases a <;> simp only [renV] at e <;> first | (injection e with e1 e2 e3 e4; subst e1; subst e2; subst e3; subst e4; exact .msl _ _ _ off' _ cap b t n (h _ b h1) h0 h2 h3 h4 h5) | cases e
  | rsl o sz i len v _ ih => intro a e; cases a <;> simp only [renV] at e <;> first | (injection e with e1 e2 e3 e4; subst e1; subst e2; subst e3; subst e4; exact .rsl _ _ _ _ v (ih rfl)) | cases e
  | csl o sz i len cap base _ ih => intro a e; cases a <;> simp only [renV] at e <;> first | (injection e with e1 e2 e3 e4 e5; subst e1; subst e2; subst e3; subst e4; subst e5; exact .csl _ _ _ _ _ base (ih rfl)) | cases e
  | eptr o sz i j v _ ih => intro a e; cases a <;> simp only [renV] at e <;> first | (injection e with e1 e2 e3 e4; subst e1; subst e2; subst e3; subst e4; exact .eptr _ _ _ _ v (ih rfl)) | cases e
  | mp o b hb => intro a e; cases a <;> simp only [renV] at e <;> first | (injection e with e1; subst e1; exact .mp _ b (h _ b hb)) | cases e
  | ch o b hb => intro a e; cases a <;> simp only [renV] at e <;> first | (injection e with e1; subst e1; exact .ch _ b (h _ b hb)) | cases e
  | agg cs l h1 _ ih =>
    intro a e
    cases a with
    | agg l' =>
      simp only [renV] at e; injection e with e; subst e
      rw [renL_map] at h1 ih
      exact .agg cs l' (by simpa using h1) fun i p hp => ih i (renV f p) (by simp [hp]) rfl
    | _ => simp only [renV] at e; cases e
  | tup cs l h1 _ ih =>
    intro a e
    cases a with
    | tup l' =>
      simp only [renV] at e; injection e with e; subst e
      rw [renL_map] at h1 ih
      exact .tup cs l' (by simpa using h1) fun i p hp => ih i (renV f p) (by simp [hp]) rfl
    | _ => simp only [renV] at e; cases e
  | fn g as bs ls ms h1 h2 _ _ i1 i2 =>
    intro a e
    cases a with
    | fn g' l' m' =>
      simp only [renV] at e; injection e with e0 e1 e2; subst e0; subst e1; subst e2
      rw [renL_map] at h1 i1 h2 i2
      exact .fn g as bs l' m' (by simpa using h1) (by simpa using h2) (fun i p hp => i1 i (renV f p) (by simp [hp]) rfl) (fun i p hp => i2 i (renV f p) (by simp [hp]) rfl)
    | _ => simp only [renV] at e; cases e
theorem RO.ren_out (h : ∀ o b, μ o = some b → μ' (f o) = some b) {b : Nat} (hh : ∀ c, μ.hid c b → μ'.hid c b) {x : AObj} (hr : RO F μ w b x) : RO F μ' w b (renO f x) := by
  cases x with
  | dead => trivial
  | cells cs =>
    obtain ⟨cur, t, h1, h2, h3⟩ := hr
    simp only [renO, renL_map]
    refine ⟨cur, t, h1, by simpa using h2, fun i c hc => ?_⟩
    simp only [List.getElem?_map, Option.map_eq_some_iff] at hc
    obtain ⟨q, hq, rfl⟩ := hc
    exact (h3 i q hq).ren_out h
  | row sz l =>
    obtain ⟨h0, cur, t, h1, h2, h3⟩ := hr
    refine ⟨h0, cur, t, h1, h2, fun i c hc => ?_⟩
    have := h3 i c hc
    simp only [rowC, List.getElem?_map, Option.map_eq_some_iff] at hc
    obtain ⟨q, _, rfl⟩ := hc
    exact .p this.pure_inv
  | map ks m => exact hr
  | chan cap buf => exact hr
  | iter rem cur => exact hr
  | mapS ks sz m =>
    obtain ⟨h0, es, clock, h1, h2, h3, c, h4, h5⟩ := hr
    simp only [renO]
    refine ⟨fun x hx => ?_, es, clock, h1, by simpa using h2, h3, c, fun i k x hx => ?_, fun i j k k' l l' hi hj => ?_⟩
    · obtain ⟨y, hy, rfl⟩ := List.mem_map.1 hx; exact h0 y hy
    · simp only [List.getElem?_map, Option.map_eq_some_iff] at hx
      obtain ⟨y, hy, e⟩ := hx
      injection e with e1 e2; subst e1; subst e2
      obtain ⟨e, a, d, g⟩ := h4 i y.1 y.2 hy
      refine ⟨e, a, d, ?_⟩
      generalize y.2 = z at g ⊢
      cases z with
      | h l => exact ⟨hh _ g.1, g.2⟩
      | v av => exact RV.ren_out h g
    · simp only [List.getElem?_map, Option.map_eq_some_iff] at hi hj
      obtain ⟨⟨y1, y2⟩, hy, e⟩ := hi
      obtain ⟨⟨z1, z2⟩, hz, e'⟩ := hj
      cases y2 with
      | v _ => cases e
      | h l2 =>
        cases z2 with
        | v _ => cases e'
        | h l3 => exact h5 i j y1 z1 l2 l3 hy hz
theorem RO.ren_in (h : ∀ o b, μ (f o) = some b → μ' o = some b) {b : Nat} (hh : ∀ c, μ.hid c b → μ'.hid c b) {x : AObj} (hr : RO F μ w b (renO f x)) : RO F μ' w b x := by
  cases x with
  | dead => trivial
  | cells cs =>
    simp only [renO, renL_map] at hr
    obtain ⟨cur, t, h1, h2, h3⟩ := hr
    exact ⟨cur, t, h1, by simpa using h2, fun i c hc => (h3 i (renV f c) (by simp [hc])).ren_in h rfl⟩
  | row sz l =>
    obtain ⟨h0, cur, t, h1, h2, h3⟩ := hr
    refine ⟨h0, cur, t, h1, h2, fun i c hc => ?_⟩
    have := h3 i c hc
    simp only [rowC, List.getElem?_map, Option.map_eq_some_iff] at hc
    obtain ⟨q, _, rfl⟩ := hc
    exact .p this.pure_inv
  | map ks m => exact hr
  | chan cap buf => exact hr
  | iter rem cur => exact hr
  | mapS ks sz m =>
    simp only [renO] at hr
    obtain ⟨h0, es, clock, h1, h2, h3, c, h4, h5⟩ := hr
    refine ⟨fun x hx => h0 (x.1, renM f x.2) (List.mem_map.2 ⟨x, hx, rfl⟩), es, clock, h1, by simpa using h2, h3, c, fun i k x hx => ?_, fun i j k k' l l' hi hj => ?_⟩
    · obtain ⟨e, a, d, g⟩ := h4 i k (renM f x) (by rw [List.getElem?_map, hx]; rfl)
      refine ⟨e, a, d, ?_⟩
      cases x with
      | h l => exact ⟨hh _ g.1, g.2⟩
      | v av => exact RV.ren_in h g rfl
    · exact h5 i j k k' l l' (by rw [List.getElem?_map, hi]; rfl) (by rw [List.getElem?_map, hj]; rfl)
theorem renO_dead {x : AObj} : renO f x = .dead ↔ x = .dead := by cases x <;> simp [renO]
end
end Go.Sg
namespace Go.Sg
open Go
def Frz (σ : Heap) (Z : Nat → Prop) (av : AV) (p : PV) : Prop :=
  ∀ (F : Nat → Prop) (μ : Num) (w : World) (v : Value), (∀ o b, Z o → σ.get o ≠ .dead → μ o = some b → RO F μ w b (σ.get o)) → RV F μ w v av →
    RP (fun b => F b ∨ ∃ o, Z o ∧ σ.get o ≠ .dead ∧ μ o = some b) w v p
inductive FrzL (σ : Heap) (Z : Nat → Prop) : List AV → List PV → Prop
  | nil : FrzL σ Z [] []
  | cons {a : AV} {p : PV} {l : List AV} {m : List PV} : Frz σ Z a p → FrzL σ Z l m → FrzL σ Z (a :: l) (p :: m)
theorem FrzL.get {σ : Heap} {Z : Nat → Prop} {l : List AV} {m : List PV} (h : FrzL σ Z l m) : l.length = m.length ∧ ∀ (i : Nat) p, m[i]? = some p → ∃ a, l[i]? = some a ∧ Frz σ Z a p := by
  induction h with
  | nil => simp
  | cons h _ ih =>
    refine ⟨by simp [ih.1], fun i p hp => ?_⟩
    cases i with
    | zero => simp at hp; subst hp; exact ⟨_, rfl, h⟩
    | succ i => simp at hp; simpa using ih.2 i p hp
theorem Frz.local {σ σ' : Heap} {Z : Nat → Prop} {a : AV} {p : PV} (h : Frz σ Z a p) (e : ∀ o, Z o → σ'.get o = σ.get o) : Frz σ' Z a p := fun F μ w v h1 h2 => by
  have := h F μ w v (fun o b z d m => by rw [← e o z]; exact h1 o b z (by rw [e o z]; exact d) m) h2
  refine this.mono (fun b hb => ?_) (fun _ _ => rfl)
  rcases hb with hb | ⟨o, h1, h2, h3⟩
  · exact .inl hb
  · exact .inr ⟨o, h1, by rw [e o h1]; exact h2, h3⟩
theorem FrzL.local {σ σ' : Heap} {Z : Nat → Prop} {l : List AV} {m : List PV} (h : FrzL σ Z l m) (e : ∀ o, Z o → σ'.get o = σ.get o) : FrzL σ' Z l m := by
  induction h with
  | nil => exact .nil
  | cons h _ ih => exact .cons (h.local e) ih
section
variable {σ : Heap} {Z : Nat → Prop}
theorem Frz.p {p q : PV} (h : PV.le p q) : Frz σ Z (.p p) q := fun F μ w v _ hv => by
  cases hv with
  | p hv => exact (h F w v hv).mono (fun _ => .inl) (fun _ _ => rfl)
theorem Frz.refl (p : PV) : Frz σ Z (.p p) p := Frz.p (PV.le_refl p)
theorem FrzL.refl : ∀ (l : List PV), FrzL σ Z (l.map .p) l
  | [] => .nil
  | p :: l => .cons (Frz.refl p) (FrzL.refl l)
theorem Frz.agg {l : List AV} {m : List PV} (h : FrzL σ Z l m) : Frz σ Z (.agg l) (.agg m) := fun F μ w v hz hv => by
  cases hv with
  | agg cs _ h1 h2 => exact .agg cs m (h1.trans h.get.1) fun i p hp => let ⟨a, h3, h4⟩ := h.get.2 i p hp; h4 F μ w _ hz (h2 i a h3)
theorem Frz.tup {l : List AV} {m : List PV} (h : FrzL σ Z l m) : Frz σ Z (.tup l) (.tup m) := fun F μ w v hz hv => by
  cases hv with
  | tup cs _ h1 h2 => exact .tup cs m (h1.trans h.get.1) fun i p hp => let ⟨a, h3, h4⟩ := h.get.2 i p hp; h4 F μ w _ hz (h2 i a h3)
theorem Frz.msl {o sz off len : Nat} {cs : List AV} {l : List PV} (ho : Z o) (hc : σ.get o = .cells cs) (h0 : 0 < sz) (hl : l.length = len) (hs : ∀ p ∈ l, okE sz p)
    (h : FrzL σ Z ((cs.drop off).take (len * sz)) (l.flatMap PV.cells)) : Frz σ Z (.msl o sz off len) (.sl sz false l) := fun F μ w v hz hv => by
  cases hv with
  | msl _ _ _ off' _ cap b t n hm h1 h2 h3 h4 h5 =>
    rcases h1 with h1 | h1
    · have : len = 0 := by omega
      have hl0 : l = [] := List.length_eq_zero_iff.1 (by omega)
      subst hl0
      subst this; subst h1
      exact .esl _ 0 sz false h5 (by simp) (by simp)
    · subst h1
      have hd : σ.get o ≠ .dead := by rw [hc]; simp
      have hr := hz o b ho hd hm
      rw [hc] at hr
      obtain ⟨cur, t', g1, g2, g3⟩ := hr
      obtain ⟨f1, f2⟩ := flatMap_get h0 l (fun p hp => (hs p hp).1)
      have key : ∀ (i : Nat) p (j : Nat) q, l[i]? = some p → p.cells[j]? = some q → ∃ a, cs[off' + (i * sz + j)]? = some a ∧ Frz σ Z a q := fun i p j q hp hq => by
        have hjs : j < sz := by have := (List.getElem?_eq_some_iff.1 hq).1; rw [(hs p (List.mem_of_getElem? hp)).1] at this; exact this
        have hdiv : (i * sz + j) / sz = i := by rw [Nat.mul_comm, Nat.mul_add_div h0, Nat.div_eq_of_lt hjs]; omega
        have hmod : (i * sz + j) % sz = j := by rw [Nat.mul_comm, Nat.mul_add_mod, Nat.mod_eq_of_lt hjs]
        have hk : (l.flatMap PV.cells)[i * sz + j]? = some q := by rw [f2, hdiv, hmod, hp]; exact hq
        obtain ⟨a, ha, hfa⟩ := h.get.2 _ q hk
        rw [List.getElem?_take] at ha
        split at ha
        · rw [List.getElem?_drop] at ha; exact ⟨a, ha, hfa⟩
        · cases ha
      refine .sl b off' len cap sz false l (fun i j => cur[off' + (i * sz + j)]?.getD undef) (.inr ⟨o, ho, hd, hm⟩) hl.symm h4 h5 (by simp) (fun i p hp => hs p (List.mem_of_getElem? hp)) (fun i p j q hp hq => ?_) (fun i p j q hp hq => ?_)
      · obtain ⟨a, ha, _⟩ := key i p j q hp hq
        have hlt : off' + (i * sz + j) < cur.size := Nat.lt_of_lt_of_le (List.getElem?_eq_some_iff.1 ha).1 g2
        rw [cell_row g1, show off' + i * sz + j = off' + (i * sz + j) by omega, Array.getElem?_eq_getElem hlt]; rfl
      · obtain ⟨a, ha, hfa⟩ := key i p j q hp hq
        exact hfa F μ w _ hz (g3 _ a ha)
theorem Frz.ptr {o off : Nat} {cs : List AV} {l : List PV} (ho : Z o) (hc : σ.get o = .cells cs) (h : FrzL σ Z ((cs.drop off).take l.length) l) : Frz σ Z (.ptr o off) (.ro l) := fun F μ w v hz hv => by
  cases hv with
  | ptr _ _ b hm =>
    have hd : σ.get o ≠ .dead := by rw [hc]; simp
    have hr := hz o b ho hd hm
    rw [hc] at hr
    obtain ⟨cur, t', g1, g2, g3⟩ := hr
    refine .ro' b off l (fun j => cur[off + j]?.getD undef) (.inr (.inr ⟨o, ho, hd, hm⟩)) fun j q hq => ?_
    obtain ⟨a, ha, hf⟩ := h.get.2 j q hq
    rw [List.getElem?_take] at ha
    split at ha
    · rw [List.getElem?_drop] at ha
      have hlt : off + j < cur.size := Nat.lt_of_lt_of_le (List.getElem?_eq_some_iff.1 ha).1 g2
      exact ⟨by rw [cell_row g1, Array.getElem?_eq_getElem hlt]; rfl, hf F μ w _ hz (g3 _ a ha)⟩
    · cases ha
theorem Frz.fn {f : Fn} {l m : List AV} {l' m' : List PV} (h : FrzL σ Z l l') (k : FrzL σ Z m m') : Frz σ Z (.fn f l m) (.fn f l' m') := fun F μ w v hz hv => by
  cases hv with
  | fn _ as bs _ _ h1 h2 h3 h4 =>
    refine .fn f as bs l' m' (h1.trans h.get.1) (h2.trans k.get.1) (fun i p hp => ?_) (fun i p hp => ?_)
    · obtain ⟨a, h5, h6⟩ := h.get.2 i p hp
      exact h6 F μ w _ hz (h3 i a h5)
    · obtain ⟨a, h5, h6⟩ := k.get.2 i p hp
      exact h6 F μ w _ hz (h4 i a h5)
end
def takeK : Nat → List PV → (List PV → List PV → Prop) → Prop
  | 0, l, K => K [] l
  | n + 1, c :: l, K => takeK n l fun a r => K (c :: a) r
  | _ + 1, [], _ => False
def elK (sz : Nat) (a : List PV) : PV := match sz, a with
  | 1, [c] => c
  | _, a => .agg a
def grpK (sz : Nat) : Nat → List PV → (List PV → Prop) → Prop
  | 0, _, K => K []
  | n + 1, l, K => takeK sz l fun a r => grpK sz n r fun m => K (elK sz a :: m)
theorem takeK_spec : ∀ {n : Nat} {l : List PV} {K : List PV → List PV → Prop}, takeK n l K → K (l.take n) (l.drop n) ∧ n ≤ l.length
  | 0, l, K, h => ⟨h, Nat.zero_le _⟩
  | n + 1, c :: l, K, h => by
    obtain ⟨h1, h2⟩ := takeK_spec (n := n) (l := l) h
    exact ⟨h1, by simp; omega⟩
  | n + 1, [], K, h => h.elim
theorem elK_ok {sz : Nat} {a : List PV} (hl : a.length = sz) (h1 : ∀ p ∈ a, p.one = true) : okE sz (elK sz a) ∧ (elK sz a).cells = a := by
  unfold elK
  split
  · rename_i c
    have hc : c.cells = [c] := cells_one (h1 c (by simp))
    exact ⟨⟨by rw [hc]; rfl, by rw [hc]; exact h1⟩, hc⟩
  · exact ⟨⟨hl, h1⟩, rfl⟩
theorem grpK_spec {sz : Nat} : ∀ {n : Nat} {l : List PV} {K : List PV → Prop}, (∀ p ∈ l, p.one = true) → grpK sz n l K → ∃ m, K m ∧ m.length = n ∧ (∀ p ∈ m, okE sz p) ∧ m.flatMap PV.cells = l.take (n * sz) ∧ ∀ K' : List PV → Prop, K' m → grpK sz n l K'
  | 0, l, K, _, h => ⟨[], h, rfl, by simp, by simp, fun K' h => h⟩
  | n + 1, l, K, h1, h => by
    obtain ⟨h2, h3⟩ := takeK_spec h
    obtain ⟨m, k1, k2, k3, k4, k5⟩ := grpK_spec (fun p hp => h1 p (List.mem_of_mem_drop hp)) h2
    obtain ⟨e1, e2⟩ := elK_ok (sz := sz) (a := l.take sz) (by simp; omega) (fun p hp => h1 p (List.mem_of_mem_take hp))
    refine ⟨_, k1, by simp [k2], fun p hp => ?_, ?_, fun K' hK' => ?_⟩
    · rcases List.mem_cons.1 hp with hp | hp
      · subst hp; exact e1
      · exact k3 p hp
    · rw [List.flatMap_cons, e2, k4, Nat.add_mul, Nat.one_mul, Nat.add_comm (n * sz), List.take_add]
    · have : ∀ (n : Nat) (l : List PV) (Q : List PV → List PV → Prop), n ≤ l.length → Q (l.take n) (l.drop n) → takeK n l Q := by
        intro n
        induction n with
        | zero => intro l Q _ h; exact h
        | succ n ih =>
          intro l Q hl h
          cases l with
          | nil => simp at hl
          | cons c l => exact ih l _ (by simpa using hl) h
      exact this sz l _ h3 (k5 _ hK')
mutual
def fzV (σ : Heap) : Nat → AV → List Nat → (PV → List Nat → Prop) → Prop
  | 0, _, _, _ => False
  | _ + 1, .p v, Z, K => K v Z
  | n + 1, .ptr o off, Z, K => (match σ.get o with
    | .cells cs => fzL σ n (cs.drop off) (o :: Z) fun l Z => K (.ro l) Z
    | _ => False)
  | n + 1, .msl o sz off len, Z, K => (match σ.get o with
    | .cells cs => (0 < sz ∧ off + len * sz ≤ cs.length) ∧ fzL σ n ((cs.drop off).take (len * sz)) (o :: Z) fun l Z => (∀ p ∈ l, p.one = true) ∧ grpK sz len l fun m => K (.sl sz false m) Z
    | _ => False)
  | _ + 1, .rsl o sz i len, Z, K => (match σ.get o with
    | .row sz' l => (sz' = sz ∧ 0 < sz ∧ i + len ≤ l.length) ∧ K (.sl sz false ((l.drop i).take len)) (o :: Z)
    | _ => False)
  | _ + 1, .csl o sz i len _, Z, K => (match σ.get o with
    | .row sz' l => (sz' = sz ∧ 0 < sz ∧ i + len ≤ l.length) ∧ K (.sl sz false ((l.drop i).take len)) (o :: Z)
    | _ => False)
  | _ + 1, .eptr o sz i j, Z, K => (match σ.get o with
    | .row sz' l => (sz' = sz ∧ 0 < sz ∧ j ≤ sz) ∧ K (.ro (((l.drop i).flatMap PV.cells).drop j)) (o :: Z)
    | _ => False)
  | _ + 1, .mp o, Z, K => (match σ.get o with
    | .map kt m => K (.mp kt m) (o :: Z)
    | _ => False)
  | n + 1, .agg l, Z, K => fzL σ n l Z fun m Z => K (.agg m) Z
  | n + 1, .tup l, Z, K => fzL σ n l Z fun m Z => K (.tup m) Z
  | n + 1, .fn f a b, Z, K => fzL σ n a Z fun l Z => fzL σ n b Z fun m Z => K (.fn f l m) Z
  | _, _, _, _ => False
def fzL (σ : Heap) : Nat → List AV → List Nat → (List PV → List Nat → Prop) → Prop
  | 0, _, _, _ => False
  | _ + 1, [], Z, K => K [] Z
  | n + 1, a :: l, Z, K => fzV σ n a Z fun p Z => fzL σ n l Z fun m Z => K (p :: m) Z
end
theorem Frz.monoZ {σ : Heap} {Z Z' : Nat → Prop} {a : AV} {p : PV} (h : Frz σ Z a p) (hz : ∀ o, Z o → Z' o) : Frz σ Z' a p := fun F μ w v hZ hv =>
  (h F μ w v (fun o b ho => hZ o b (hz o ho)) hv).mono (fun b hb => hb.imp id fun ⟨o, h1, h2⟩ => ⟨o, hz o h1, h2⟩) (fun _ _ => rfl)
theorem FrzL.monoZ {σ : Heap} {Z Z' : Nat → Prop} {l : List AV} {m : List PV} (h : FrzL σ Z l m) (hz : ∀ o, Z o → Z' o) : FrzL σ Z' l m := by
  induction h with
  | nil => exact .nil
  | cons h _ ih => exact .cons (h.monoZ hz) ih
theorem Frz.rsl {σ : Heap} {Z : Nat → Prop} {o sz i len : Nat} {l : List PV} (ho : Z o) (hc : σ.get o = .row sz l) (h0 : 0 < sz) (hl : i + len ≤ l.length) : Frz σ Z (.rsl o sz i len) (.sl sz false ((l.drop i).take len)) := by
  intro F μ w v hz hv
  cases hv with
  | rsl _ _ _ _ _ hv =>
  have hv' := hv
  cases hv with
  | msl _ _ _ off' _ cap b t n hm h1 h2 h3 h4 h5 =>
  have hr := hz o b ho (by rw [hc]; simp) hm
  have hr2 := hr
  rw [hc] at hr
  obtain ⟨hok, cur, t', g1, g2, g3⟩ := hr
  have hlen := rowC_len h0 hok
  have h6 : Frz [(o, AObj.cells (rowC l))] (· = o) (.msl o sz (i * sz) len) (.sl sz false ((l.drop i).take len)) := by
    refine Frz.msl (cs := rowC l) rfl (by simp [Heap.get]) h0 (by simp; omega) (okRow.take (okRow.drop hok i) len) ?_
    rw [rowC_mid h0 hok]
    exact FrzL.refl _
  refine (h6 F μ w _ (fun o' b' ho' _ hm' => ?_) hv').mono (fun b' hb' => ?_) (fun _ _ => rfl)
  · subst ho'
    rw [hm] at hm'; injection hm' with hm'; subst hm'
    have : Heap.get [(o', AObj.cells (rowC l))] o' = .cells (rowC l) := by simp [Heap.get]
    rw [this]; exact ⟨cur, t', g1, g2, g3⟩
  · rcases hb' with hb' | ⟨o', ho', _, hm'⟩
    · exact .inl hb'
    · subst ho'; exact .inr ⟨_, ho, by rw [hc]; simp, hm'⟩
theorem Frz.eptr {σ : Heap} {Z : Nat → Prop} {o sz i j : Nat} {l : List PV} (ho : Z o) (hc : σ.get o = .row sz l) (h0 : 0 < sz) (hj : j ≤ sz) : Frz σ Z (.eptr o sz i j) (.ro (((l.drop i).flatMap PV.cells).drop j)) := by
  intro F μ w v hz hv
  cases hv with
  | eptr _ _ _ _ _ hv =>
  have hv' := hv
  cases hv with
  | ptr _ _ b hm =>
  have hr := hz o b ho (by rw [hc]; simp) hm
  rw [hc] at hr
  obtain ⟨hok, cur, t', g1, g2, g3⟩ := hr
  have h6 : Frz [(o, AObj.cells (rowC l))] (· = o) (.ptr o (i * sz + j)) (.ro (((l.drop i).flatMap PV.cells).drop j)) := by
    refine Frz.ptr (cs := rowC l) rfl (by simp [Heap.get]) ?_
    rw [← List.drop_drop, rowC_drop h0 hok, List.take_of_length_le (by simp [rowC])]
    have : (rowC (l.drop i)).drop j = (((l.drop i).flatMap PV.cells).drop j).map .p := by simp [rowC, List.map_drop]
    rw [this]; exact FrzL.refl _
  refine (h6 F μ w _ (fun o' b' ho' _ hm' => ?_) hv').mono (fun b' hb' => ?_) (fun _ _ => rfl)
  · subst ho'
    rw [hm] at hm'; injection hm' with hm'; subst hm'
    have : Heap.get [(o', AObj.cells (rowC l))] o' = .cells (rowC l) := by simp [Heap.get]
    rw [this]; exact ⟨cur, t', g1, g2, g3⟩
  · rcases hb' with hb' | ⟨o', ho', _, hm'⟩
    · exact .inl hb'
    · subst ho'; exact .inr ⟨_, ho, by rw [hc]; simp, hm'⟩
theorem Frz.csl {σ : Heap} {Z : Nat → Prop} {o sz i len cap : Nat} {l : List PV} (ho : Z o) (hc : σ.get o = .row sz l) (h0 : 0 < sz) (hl : i + len ≤ l.length) : Frz σ Z (.csl o sz i len cap) (.sl sz false ((l.drop i).take len)) := by
  intro F μ w v hz hv
  cases hv with
  | csl _ _ _ _ _ _ hv => exact Frz.rsl ho hc h0 hl F μ w _ hz hv
theorem Frz.mp {σ : Heap} {Z : Nat → Prop} {o : Nat} {kt : List FK × Bool} {m : List (PV × PV)} (ho : Z o) (hc : σ.get o = .map kt m) : Frz σ Z (.mp o) (.mp kt m) := by
  intro F μ w v hz hv
  cases hv with
  | mp _ b hm =>
  have hr := hz o b ho (by rw [hc]; simp) hm
  rw [hc] at hr
  obtain ⟨hok, es, clock, g1, g2, g3, g4⟩ := hr
  refine .mp b kt m es clock (.inr ⟨o, ho, by rw [hc]; simp, hm⟩) g1 ⟨g2, g3⟩ hok (fun i k v e h1 h2 => ?_) (fun i k v e h1 h2 => ?_)
  · obtain ⟨e', h3, h4, _⟩ := g4 i k v h1
    rw [h2] at h3; injection h3 with h3; subst h3
    exact h4.mono (fun _ => .inl) (fun _ _ => rfl)
  · obtain ⟨e', h3, _, h5⟩ := g4 i k v h1
    rw [h2] at h3; injection h3 with h3; subst h3
    exact h5.mono (fun _ => .inl) (fun _ _ => rfl)
def liveZ (σ : Heap) (Z : List Nat) : Prop := ∀ o ∈ Z, σ.get o ≠ .dead
theorem liveZ.cons {σ : Heap} {Z : List Nat} {o : Nat} (h : liveZ σ Z) (ho : σ.get o ≠ .dead) : liveZ σ (o :: Z) := fun x hx => by
  rcases List.mem_cons.1 hx with e | e
  · subst e; exact ho
  · exact h x e
section
variable {σ : Heap}
theorem fz_both : ∀ n : Nat, (∀ (v : AV) (Z : List Nat) (K : PV → List Nat → Prop), liveZ σ Z → fzV σ n v Z K → ∃ p Z', K p Z' ∧ (∀ o ∈ Z, o ∈ Z') ∧ liveZ σ Z' ∧ Frz σ (· ∈ Z') v p) ∧
    (∀ (l : List AV) (Z : List Nat) (K : List PV → List Nat → Prop), liveZ σ Z → fzL σ n l Z K → ∃ m Z', K m Z' ∧ (∀ o ∈ Z, o ∈ Z') ∧ liveZ σ Z' ∧ FrzL σ (· ∈ Z') l m) := by
  intro n
  induction n with
  | zero => exact ⟨fun v Z K _ h => by simp [fzV] at h, fun l Z K _ h => by simp [fzL] at h⟩
  | succ n ih =>
    obtain ⟨ihV, ihL⟩ := ih
    refine ⟨fun v Z K hZ h => ?_, fun l Z K hZ h => ?_⟩
    · cases v with
      | p q => simp only [fzV] at h; exact ⟨q, Z, h, fun _ h => h, hZ, Frz.refl q⟩
      | ptr o off =>
        simp only [fzV] at h
        split at h
        · rename_i cs hc
          obtain ⟨m, Z', h1, h2, h3, h4⟩ := ihL _ _ _ (hZ.cons (by rw [hc]; simp)) h
          refine ⟨_, Z', h1, fun x hx => h2 x (by simp [hx]), h3, Frz.ptr (h2 o (by simp)) hc ?_⟩
          rw [List.take_of_length_le (by rw [h4.get.1]; exact Nat.le_refl _)]; exact h4
        · exact h.elim
      | msl o sz off len =>
        simp only [fzV] at h
        split at h
        · rename_i cs hc
          obtain ⟨⟨h0, hle⟩, h⟩ := h
          obtain ⟨m, Z', ⟨h1, hg⟩, h2, h3, h4⟩ := ihL _ _ _ (hZ.cons (by rw [hc]; simp)) h
          obtain ⟨q, k1, k2, k3, k4, _⟩ := grpK_spec h1 hg
          refine ⟨_, Z', k1, fun x hx => h2 x (by simp [hx]), h3, Frz.msl (h2 o (by simp)) hc h0 k2 k3 ?_⟩
          have hml : m.length = len * sz := by have := h4.get.1; simp at this; omega
          have ht : m.take (len * sz) = m := List.take_of_length_le (by omega)
          rw [k4, ht]; exact h4
        · exact h.elim
      | rsl o sz i len =>
        simp only [fzV] at h
        split at h
        · rename_i sz' l hc
          obtain ⟨⟨rfl, h0, hle⟩, h⟩ := h
          exact ⟨_, _, h, fun x hx => by simp [hx], hZ.cons (by rw [hc]; simp), Frz.rsl (by simp) hc h0 hle⟩
        · exact h.elim
      | csl o sz i len cap =>
        simp only [fzV] at h
        split at h
        · rename_i sz' l hc
          obtain ⟨⟨rfl, h0, hle⟩, h⟩ := h
          exact ⟨_, _, h, fun x hx => by simp [hx], hZ.cons (by rw [hc]; simp), Frz.csl (by simp) hc h0 hle⟩
        · exact h.elim
      | eptr o sz i j =>
        simp only [fzV] at h
        split at h
        · rename_i sz' l hc
          obtain ⟨⟨rfl, h0, hle⟩, h⟩ := h
          exact ⟨_, _, h, fun x hx => by simp [hx], hZ.cons (by rw [hc]; simp), Frz.eptr (by simp) hc h0 hle⟩
        · exact h.elim
      | mp o =>
        simp only [fzV] at h
        split at h
        · rename_i kt m hc
          exact ⟨_, _, h, fun x hx => by simp [hx], hZ.cons (by rw [hc]; simp), Frz.mp (by simp) hc⟩
        · exact h.elim
      | agg l =>
        simp only [fzV] at h
        obtain ⟨m, Z', h1, h2, h3, h4⟩ := ihL _ _ _ hZ h
        exact ⟨_, Z', h1, h2, h3, Frz.agg h4⟩
      | tup l =>
        simp only [fzV] at h
        obtain ⟨m, Z', h1, h2, h3, h4⟩ := ihL _ _ _ hZ h
        exact ⟨_, Z', h1, h2, h3, Frz.tup h4⟩
      | fn f a b =>
        simp only [fzV] at h
        obtain ⟨m, Z', h1, h2, h3, h4⟩ := ihL _ _ _ hZ h
        obtain ⟨m2, Z2, k1, k2, k3, k4⟩ := ihL _ _ _ h3 h1
        exact ⟨_, Z2, k1, fun x hx => k2 x (h2 x hx), k3, Frz.fn (h4.monoZ k2) k4⟩
      | _ => simp [fzV] at h
    · cases l with
      | nil => simp only [fzL] at h; exact ⟨[], Z, h, fun _ h => h, hZ, .nil⟩
      | cons a l =>
        simp only [fzL] at h
        obtain ⟨p, Z', h1, h2, h3, h4⟩ := ihV _ _ _ hZ h
        obtain ⟨m2, Z2, k1, k2, k3, k4⟩ := ihL _ _ _ h3 h1
        exact ⟨_, Z2, k1, fun x hx => k2 x (h2 x hx), k3, .cons (h4.monoZ k2) k4⟩
end
section
variable {σ : Heap}
theorem fz_mono : ∀ n : Nat, (∀ (v : AV) (Z : List Nat) (K K' : PV → List Nat → Prop), (∀ p Z, K p Z → K' p Z) → fzV σ n v Z K → fzV σ n v Z K') ∧
    (∀ (l : List AV) (Z : List Nat) (K K' : List PV → List Nat → Prop), (∀ p Z, K p Z → K' p Z) → fzL σ n l Z K → fzL σ n l Z K') := by
  intro n
  induction n with
  | zero => exact ⟨fun v Z K K' _ h => by simp [fzV] at h, fun l Z K K' _ h => by simp [fzL] at h⟩
  | succ n ih =>
    obtain ⟨ihV, ihL⟩ := ih
    refine ⟨fun v Z K K' hK h => ?_, fun l Z K K' hK h => ?_⟩
    · cases v with
      | p q => simp only [fzV] at *; exact hK _ _ h
      | ptr o off =>
        simp only [fzV] at *
        split at h
        · exact ihL _ _ _ _ (fun _ _ => hK _ _) h
        · exact h.elim
      | msl o sz off len =>
        simp only [fzV] at *
        split at h
        · refine ⟨h.1, ihL _ _ _ _ (fun l Z hl => ⟨hl.1, ?_⟩) h.2⟩
          obtain ⟨q, k1, _, _, _, k5⟩ := grpK_spec hl.1 hl.2
          exact k5 _ (hK _ _ k1)
        · exact h.elim
      | rsl o sz i len =>
        simp only [fzV] at *
        split at h
        · exact ⟨h.1, hK _ _ h.2⟩
        · exact h.elim
      | csl o sz i len cap =>
        simp only [fzV] at *
        split at h
        · exact ⟨h.1, hK _ _ h.2⟩
        · exact h.elim
      | eptr o sz i j =>
        simp only [fzV] at *
        split at h
        · exact ⟨h.1, hK _ _ h.2⟩
        · exact h.elim
      | mp o =>
        simp only [fzV] at *
        split at h
        · exact hK _ _ h
        · exact h.elim
      | agg l => simp only [fzV] at *; exact ihL _ _ _ _ (fun _ _ => hK _ _) h
      | tup l => simp only [fzV] at *; exact ihL _ _ _ _ (fun _ _ => hK _ _) h
      | fn f a b => simp only [fzV] at *; exact ihL _ _ _ _ (fun _ _ h => ihL _ _ _ _ (fun _ _ => hK _ _) h) h
      | _ => simp [fzV] at h
    · cases l with
      | nil => simp only [fzL] at *; exact hK _ _ h
      | cons a l => simp only [fzL] at *; exact ihV _ _ _ _ (fun _ _ h => ihL _ _ _ _ (fun _ _ => hK _ _) h) h
theorem fz_pick : ∀ n : Nat, (∀ (v : AV) (Z : List Nat) (K : PV → List Nat → Prop), fzV σ n v Z K → ∃ p Z', K p Z' ∧ (∀ o ∈ Z, o ∈ Z') ∧ ∀ σ' : Heap, (∀ q ∈ Z', σ'.get q = σ.get q) → fzV σ' n v Z (fun p' Z'' => p' = p ∧ Z'' = Z')) ∧
    (∀ (l : List AV) (Z : List Nat) (K : List PV → List Nat → Prop), fzL σ n l Z K → ∃ m Z', K m Z' ∧ (∀ o ∈ Z, o ∈ Z') ∧ ∀ σ' : Heap, (∀ q ∈ Z', σ'.get q = σ.get q) → fzL σ' n l Z (fun p' Z'' => p' = m ∧ Z'' = Z')) := by
  intro n
  induction n with
  | zero => exact ⟨fun v Z K h => by simp [fzV] at h, fun l Z K h => by simp [fzL] at h⟩
  | succ n ih =>
    obtain ⟨ihV, ihL⟩ := ih
    refine ⟨fun v Z K h => ?_, fun l Z K h => ?_⟩
    · cases v with
      | p q => simp only [fzV] at *; exact ⟨q, Z, h, fun _ h => h, fun _ _ => ⟨rfl, rfl⟩⟩
      | ptr o off =>
        simp only [fzV] at *
        split at h
        · rename_i cs hc
          obtain ⟨m, Z', h1, h2, h3⟩ := ihL _ _ _ h
          refine ⟨_, Z', h1, fun x hx => h2 x (by simp [hx]), fun σ' hσ' => ?_⟩
          rw [hσ' o (h2 o (by simp)), hc]
          exact (fz_mono n).2 _ _ _ _ (fun p Z h => ⟨by rw [h.1], h.2⟩) (h3 σ' hσ')
        · exact h.elim
      | msl o sz off len =>
        simp only [fzV] at *
        split at h
        · rename_i cs hc
          obtain ⟨hc1, h⟩ := h
          obtain ⟨m, Z', ⟨h1, hg⟩, h2, h3⟩ := ihL _ _ _ h
          obtain ⟨q, k1, k2, k3, k4, k5⟩ := grpK_spec h1 hg
          refine ⟨_, Z', k1, fun x hx => h2 x (by simp [hx]), fun σ' hσ' => ?_⟩
          rw [hσ' o (h2 o (by simp)), hc]
          refine ⟨hc1, (fz_mono n).2 _ _ _ _ (fun p Z h => ?_) (h3 σ' hσ')⟩
          obtain ⟨rfl, rfl⟩ := h
          exact ⟨h1, k5 _ ⟨rfl, rfl⟩⟩
        · exact h.elim
      | rsl o sz i len =>
        simp only [fzV] at *
        split at h
        · rename_i sz' l hc
          refine ⟨_, _, h.2, fun x hx => by simp [hx], fun σ' hσ' => ?_⟩
          rw [hσ' o (by simp), hc]
          exact ⟨h.1, rfl, rfl⟩
        · exact h.elim
      | csl o sz i len cap =>
        simp only [fzV] at *
        split at h
        · rename_i sz' l hc
          refine ⟨_, _, h.2, fun x hx => by simp [hx], fun σ' hσ' => ?_⟩
          rw [hσ' o (by simp), hc]
          exact ⟨h.1, rfl, rfl⟩
        · exact h.elim
      | eptr o sz i j =>
        simp only [fzV] at *
        split at h
        · rename_i sz' l hc
          refine ⟨_, _, h.2, fun x hx => by simp [hx], fun σ' hσ' => ?_⟩
          rw [hσ' o (by simp), hc]
          exact ⟨h.1, rfl, rfl⟩
        · exact h.elim
      | mp o =>
        simp only [fzV] at *
        split at h
        · rename_i kt m hc
          refine ⟨_, _, h, fun x hx => by simp [hx], fun σ' hσ' => ?_⟩
          rw [hσ' o (by simp), hc]
          exact ⟨rfl, rfl⟩
        · exact h.elim
      | agg l =>
        simp only [fzV] at *
        obtain ⟨m, Z', h1, h2, h3⟩ := ihL _ _ _ h
        exact ⟨_, Z', h1, h2, fun σ' hσ' => (fz_mono n).2 _ _ _ _ (fun p Z h => ⟨by rw [h.1], h.2⟩) (h3 σ' hσ')⟩
      | tup l =>
        simp only [fzV] at *
        obtain ⟨m, Z', h1, h2, h3⟩ := ihL _ _ _ h
        exact ⟨_, Z', h1, h2, fun σ' hσ' => (fz_mono n).2 _ _ _ _ (fun p Z h => ⟨by rw [h.1], h.2⟩) (h3 σ' hσ')⟩
      | fn f a b =>
        simp only [fzV] at *
        obtain ⟨m, Z', h1, h2, h3⟩ := ihL _ _ _ h
        obtain ⟨m2, Z2, k1, k2, k3⟩ := ihL _ _ _ h1
        refine ⟨_, Z2, k1, fun x hx => k2 x (h2 x hx), fun σ' hσ' => (fz_mono n).2 _ _ _ _ (fun p Z h => ?_) (h3 σ' fun q hq => hσ' q (k2 q hq))⟩
        obtain ⟨rfl, rfl⟩ := h
        exact (fz_mono n).2 _ _ _ _ (fun p Z h => ⟨by rw [h.1], h.2⟩) (k3 σ' hσ')
      | _ => simp [fzV] at h
    · cases l with
      | nil => simp only [fzL] at *; exact ⟨[], Z, h, fun _ h => h, fun _ _ => ⟨rfl, rfl⟩⟩
      | cons a l =>
        simp only [fzL] at *
        obtain ⟨m, Z', h1, h2, h3⟩ := ihV _ _ _ h
        obtain ⟨m2, Z2, k1, k2, k3⟩ := ihL _ _ _ h1
        refine ⟨_, Z2, k1, fun x hx => k2 x (h2 x hx), fun σ' hσ' => (fz_mono n).1 _ _ _ _ (fun p Z h => ?_) (h3 σ' fun q hq => hσ' q (k2 q hq))⟩
        obtain ⟨rfl, rfl⟩ := h
        exact (fz_mono n).2 _ _ _ _ (fun p Z h => ⟨by rw [h.1], h.2⟩) (k3 σ' hσ')
end
end Go.Sg
namespace Go.Sg
open Go
def uc : AV → AV
  | .csl o sz i len _ => .rsl o sz i len
  | v => v
theorem RV.uc {F : Nat → Prop} {μ : Num} {w : World} {v : Value} {a : AV} (h : RV F μ w v a) : RV F μ w v (uc a) := by
  cases h with
  | csl o sz i len cap base h => exact h
  | any v => exact .any v
  | p h => exact .p h
  | ptr o off b h => exact .ptr o off b h
  | msl o sz off off' len cap b t n h1 h0 h2 h3 h4 h5 => exact .msl o sz off off' len cap b t n h1 h0 h2 h3 h4 h5
  | rsl o sz i len v h => exact .rsl o sz i len v h
  | eptr o sz i j v h => exact .eptr o sz i j v h
  | mp o b h => exact .mp o b h
  | ch o b h => exact .ch o b h
  | agg cs l h1 h2 => exact .agg cs l h1 h2
  | tup cs l h1 h2 => exact .tup cs l h1 h2
  | fn f as bs ls ms h1 h2 h3 h4 => exact .fn f as bs ls ms h1 h2 h3 h4
def fkOf (P : Program) (t : TypeId) : Option FK :=
  match P.underlying t with
  | some (.int k) => some (.int k)
  | some .bool => some .bool
  | some .string => some .str
  | _ => none
def fksOf (P : Program) : Nat → List Field → Option (List FK)
  | _, [] => some []
  | i, f :: r => match fkOf P f.type, fksOf P (i + 1) r with
    | some k, some l => if f.name ≠ "_" ∧ f.offset = i ∧ tT P f.type = some (1, false) then some (k :: l) else none
    | _, _ => none
def flT (P : Program) (t : TypeId) : Option (List FK × Bool) :=
  match fkOf P t with
  | some k => some ([k], false)
  | none => match P.underlying t with
    | some (.struct fs) => if P.stoodInHeld t = false ∧ Nat.ble 2 P.depth = true then (match fksOf P 0 fs.toList with | some l => some (l, true) | none => none) else none
    | _ => none
def eqP : PV → PV → Bool
  | .int _ n, .int _ m => decide (n = m)
  | .bool a, .bool b => a == b
  | .str a, .str b => decide (a = b)
  | _, _ => false
def eqPs : List PV → List PV → Bool
  | [], [] => true
  | p :: r, q :: s => eqP p q && eqPs r s
  | _, _ => false
section
variable {P : Program} {F : Nat → Prop} {μ : Num} {σ : Heap} {w : World}
theorem rp_kind {k : FK} {p : PV} {v : Value} (hk : k.ok p = true) (h : RP F w v p) : (∃ kd n, k = .int kd ∧ p = .int kd n ∧ v = .int kd n) ∨ (∃ b, k = .bool ∧ p = .bool b ∧ v = .bool b) ∨ (∃ s, k = .str ∧ p = .str s ∧ v = .string s) := by
  cases k <;> cases h <;> simp [FK.ok] at hk
  · subst hk; exact .inl ⟨_, _, rfl, rfl, rfl⟩
  · exact .inr (.inl ⟨_, rfl, rfl, rfl⟩)
  · exact .inr (.inr ⟨_, rfl, rfl, rfl⟩)
theorem fkOf_int {t : TypeId} {k : IntKind} (h : fkOf P t = some (.int k)) : P.underlying t = some (.int k) := by
  unfold fkOf at h; split at h <;> simp_all
theorem fkOf_bool {t : TypeId} (h : fkOf P t = some .bool) : P.underlying t = some .bool := by
  unfold fkOf at h; split at h <;> simp_all
theorem fkOf_str {t : TypeId} (h : fkOf P t = some .str) : P.underlying t = some .string := by
  unfold fkOf at h; split at h <;> simp_all
theorem run_eqCell {t : TypeId} {k : FK} (ht : fkOf P t = some k) {p q : PV} {v u : Value} (hp : k.ok p = true) (hq : k.ok q = true) (hv : RP F w v p) (hu : RP F w u q) (d : Nat) (w' : World) :
    (Op.equalIn (d + 1) t v u).run P w' = .ok (eqP p q) w' := by
  rcases rp_kind hp hv with ⟨kd, n, rfl, rfl, rfl⟩ | ⟨b, rfl, rfl, rfl⟩ | ⟨s, rfl, rfl, rfl⟩
  · rcases rp_kind hq hu with ⟨kd', m, e, rfl, rfl⟩ | ⟨b, e, _⟩ | ⟨s, e, _⟩
    · injection e with e; subst e
      rw [run_equalIn_int w' d t _ _ n m (fkOf_int ht)]
      congr 1
    · cases e
    · cases e
  · rcases rp_kind hq hu with ⟨kd', m, e, _⟩ | ⟨b', e, rfl, rfl⟩ | ⟨s, e, _⟩
    · cases e
    · exact run_equalIn_bool' w' d t b b' (fkOf_bool ht)
    · cases e
  · rcases rp_kind hq hu with ⟨kd', m, e, _⟩ | ⟨b', e, _⟩ | ⟨s', e, rfl, rfl⟩
    · cases e
    · cases e
    · rw [run_equalIn_string w' d t s s' (fkOf_str ht), toList_inj]; rfl
theorem okKs_len : ∀ {ks : List FK} {l : List PV}, okKs ks l = true → ks.length = l.length
  | [], [], _ => rfl
  | k :: r, p :: s, h => by simp only [okKs, Bool.and_eq_true] at h; simp [okKs_len h.2]
  | [], _ :: _, h => by simp [okKs] at h
  | _ :: _, [], h => by simp [okKs] at h
theorem okKs_get : ∀ {ks : List FK} {l : List PV} {i : Nat} {k : FK} {p : PV}, okKs ks l = true → ks[i]? = some k → l[i]? = some p → k.ok p = true
  | k :: r, p :: s, i, k', p', h, hk, hp => by
    simp only [okKs, Bool.and_eq_true] at h
    cases i with
    | zero => simp at hk hp; subst hk; subst hp; exact h.1
    | succ i => simp at hk hp; exact okKs_get h.2 hk hp
theorem run_part1 {t : TypeId} (h : tT P t = some (1, false)) (cs : Array Value) {off : Nat} {v : Value} (hv : cs[off]? = some v) (w' : World) : (part t cs off).run P w' = .ok v w' := by
  simp [part, run_isAgg h, hv]
theorem run_eqFields {xs ys : Array Value} {cs ds : List PV} (hxs : xs.size = cs.length) (hys : ys.size = ds.length) (hx : ∀ (i : Nat) p, cs[i]? = some p → RP F w (xs[i]?.getD undef) p) (hy : ∀ (i : Nat) p, ds[i]? = some p → RP F w (ys[i]?.getD undef) p) (d : Nat) (w' : World) :
    ∀ (fs : List Field) (i : Nat) (ks : List FK), fksOf P i fs = some ks → okKs ks (cs.drop i) = true → okKs ks (ds.drop i) = true →
      (Op.eqFields (d + 1) xs ys fs).run P w' = .ok (eqPs (cs.drop i) (ds.drop i)) w'
  | [], i, ks, h, hc, hd => by
    simp [fksOf] at h; subst h
    have e1 : cs.drop i = [] := List.length_eq_zero_iff.1 (okKs_len hc).symm
    have e2 : ds.drop i = [] := List.length_eq_zero_iff.1 (okKs_len hd).symm
    rw [e1, e2]; rfl
  | f :: fs, i, ks, h, hc, hd => by
    simp only [fksOf] at h
    split at h
    · rename_i k l hk hl
      split at h
      · rename_i hf
        obtain ⟨h1, h2, h3⟩ := hf
        injection h with h; subst h
        have lc := okKs_len hc
        have ld := okKs_len hd
        simp only [List.length_cons, List.length_drop] at lc ld
        have hic : i < cs.length := by omega
        have hid : i < ds.length := by omega
        have ec : cs.drop i = cs[i] :: cs.drop (i + 1) := by rw [List.drop_eq_getElem_cons hic]
        have ed : ds.drop i = ds[i] :: ds.drop (i + 1) := by rw [List.drop_eq_getElem_cons hid]
        rw [ec] at hc ⊢; rw [ed] at hd ⊢
        simp only [okKs, Bool.and_eq_true] at hc hd
        have rx0 := hx i cs[i] (List.getElem?_eq_getElem hic)
        have ry0 := hy i ds[i] (List.getElem?_eq_getElem hid)
        rw [Array.getElem?_eq_getElem (by omega)] at rx0 ry0
        have rx : RP F w xs[i] cs[i] := rx0
        have ry : RP F w ys[i] ds[i] := ry0
        have px : (part f.type xs f.offset).run P w' = .ok xs[i] w' := run_part1 h3 xs (by rw [h2]; exact Array.getElem?_eq_getElem (by omega)) w'
        have py : (part f.type ys f.offset).run P w' = .ok ys[i] w' := run_part1 h3 ys (by rw [h2]; exact Array.getElem?_eq_getElem (by omega)) w'
        have re := run_eqCell (P := P) (F := F) (w := w) hk hc.1 hd.1 rx ry d w'
        simp only [Op.eqFields, h1, ne_eq, not_false_eq_true, if_true, Sem.run_bind, px, py, re, Result.andThen_ok, eqPs]
        cases eqP cs[i] ds[i] with
        | false => simp
        | true =>
          simp only [Bool.not_true, Bool.false_eq_true, if_false, Bool.true_and]
          exact run_eqFields hxs hys hx hy d w' fs (i + 1) l hl hc.2 hd.2
      · cases h
    · cases h
theorem fkOf_guard {t : TypeId} {k : FK} (h : fkOf P t = some k) : ∀ d, 1 ≤ d → P.eqGuardType d t = false := fun d hd => by
  cases d with
  | zero => omega
  | succ d =>
    unfold fkOf at h
    unfold Program.eqGuardType
    split at h <;> first | (rename_i e; rw [e]; done) | (rename_i e; simp [e]; done) | cases h
theorem fksOf_guard : ∀ (fs : List Field) (i : Nat) (l : List FK), fksOf P i fs = some l → ∀ d, 1 ≤ d → (fs.any fun f => f.name != "_" && P.eqGuardType d f.type) = false
  | [], _, _, _, _, _ => rfl
  | f :: r, i, l, h, d, hd => by
    simp only [fksOf] at h
    split at h
    · rename_i k l' hk hl
      simp only [List.any_cons, fkOf_guard hk d hd, Bool.and_false, Bool.false_or]
      exact fksOf_guard r _ _ hl d hd
    · cases h
theorem struct_guard {t : TypeId} {fs : Array Field} {l : List FK} (hu : P.underlying t = some (.struct fs)) (h : fksOf P 0 fs.toList = some l) : ∀ d, 2 ≤ d → P.eqGuardType d t = false := fun d hd => by
  cases d with
  | zero => omega
  | succ d =>
    unfold Program.eqGuardType
    rw [hu]
    have := fksOf_guard fs.toList 0 l h d (by omega)
    simpa using this
theorem flT_struct {t : TypeId} {ks : List FK} (h : flT P t = some (ks, true)) : ∃ fs, P.underlying t = some (.struct fs) ∧ P.stoodInHeld t = false ∧ P.eqGuardType P.depth t = false ∧ fksOf P 0 fs.toList = some ks := by
  unfold flT at h
  split at h
  · simp at h
  · split at h
    · rename_i fs hfs
      split at h
      · rename_i hc
        split at h
        · rename_i l hl
          simp at h; subst h
          exact ⟨fs, hfs, hc.1, struct_guard hfs hl _ (Nat.le_of_ble_eq_true hc.2), hl⟩
        · cases h
      · cases h
    · cases h
theorem flT_one {t : TypeId} {ks : List FK} (h : flT P t = some (ks, false)) : ∃ k, fkOf P t = some k ∧ ks = [k] := by
  unfold flT at h
  split at h
  · rename_i k hk; simp at h; exact ⟨k, hk, h.symm⟩
  · split at h
    · split at h
      · split at h <;> simp at h
      · cases h
    · cases h
theorem run_eqAgg {t : TypeId} {ks : List FK} (ht : flT P t = some (ks, true)) {v u : Value} {cs ds : List PV} (hv : RP F w v (.agg cs)) (hu : RP F w u (.agg ds)) (hc : okKs ks cs = true) (hd : okKs ks ds = true) (d : Nat) (w' : World) :
    (Op.equalIn (d + 2) t v u).run P w' = .ok (eqPs cs ds) w' := by
  obtain ⟨fs, h1, h2, h3, h4⟩ := flT_struct ht
  cases hv with
  | agg xs _ hxs hx =>
    cases hu with
    | agg ys _ hys hy =>
      have e : P.fieldsOf t = fs := by simp [Program.fieldsOf, h1]
      rw [run_equalIn_struct w' (d + 1) t xs ys (by rw [e]; exact h1) h2, e]
      exact run_eqFields hxs hys hx hy d w' fs.toList 0 ks h4 (by simpa using hc) (by simpa using hd)
theorem run_eqKey {t : TypeId} {kt : KT} (ht : flT P t = some kt) {v u : Value} {p q : PV} (hv : RP F w v p) (hu : RP F w u q) (hp : okK kt p = true) (hq : okK kt q = true) (w' : World) : (Op.equal t v u).run P w' = .ok (eqPs p.cells q.cells) w' := by
  obtain ⟨ks, g⟩ := kt
  cases g with
  | true =>
    cases p <;> simp only [okK] at hp <;> try (cases hp; done)
    cases q <;> simp only [okK] at hq <;> try (cases hq; done)
    exact run_eqAgg ht hv hu hp hq 9998 w'
  | false =>
    obtain ⟨k, hk, rfl⟩ := flT_one ht
    simp only [okK, okKs, Bool.and_true] at hp hq
    have one : ∀ {p : PV}, k.ok p = true → p.cells = [p] := by
      intro p h
      cases p <;> first | rfl | (cases k <;> simp [FK.ok] at h)
    rw [one hp, one hq]
    have := run_eqCell (P := P) hk hp hq hv hu 9999 w'
    rw [show Op.equal t v u = Op.equalIn 10000 t v u from rfl, this]
    simp [eqPs]
end
end Go.Sg
namespace Go.Sg
open Go
section
variable {β : Type} {P : Program} {F : Nat → Prop} {μ : Num} {σ : Heap} {w : World} {nid : Nat}
def mfindAt (k : PV) : Nat → List (PV × β) → Option (Nat × β)
  | _, [] => none
  | i, (k', v) :: r => match eqPs k.cells k'.cells with
    | true => some (i, v)
    | false => mfindAt k (i + 1) r
def mfind (k : PV) (m : List (PV × β)) : Option β := (mfindAt k 0 m).map Prod.snd
def mput (k : PV) (v : β) (m : List (PV × β)) : List (PV × β) :=
  match mfindAt k 0 m with
  | some (i, _) => m.set i (k, v)
  | none => m ++ [(k, v)]
theorem okFK_wide {k : FK} {p : PV} (h : k.ok p = true) : p.cells = [p] := by
  cases p <;> first | rfl | (cases k <;> simp [FK.ok] at h)
def foundOf (m : List (PV × β)) (es : List MapEntry) (k : PV) (i0 : Nat) : Option (Nat × Value) :=
  match mfindAt k i0 m with
  | some (i, _) => some (i, ((es[i - i0]?).map (·.val)).getD undef)
  | none => none
theorem mfindAt_ge {k : PV} : ∀ {m : List (PV × β)} {i0 i : Nat} {v : β}, mfindAt k i0 m = some (i, v) → i0 ≤ i ∧ ∃ k', m[i - i0]? = some (k', v) ∧ eqPs k.cells k'.cells = true
  | [], i0, i, v, h => by simp [mfindAt] at h
  | (k', v') :: r, i0, i, v, h => by
    simp only [mfindAt] at h
    split at h
    · rename_i e
      simp at h; obtain ⟨rfl, rfl⟩ := h
      exact ⟨Nat.le_refl _, k', by simp, e⟩
    · obtain ⟨h1, k2, h2, h3⟩ := mfindAt_ge h
      refine ⟨by omega, k2, ?_, h3⟩
      rw [show i - i0 = (i - (i0 + 1)) + 1 by omega]; simpa using h2
theorem run_findAsking {t : TypeId} {kt : KT} (ht : flT P t = some kt) {v : Value} {k : PV} (hv : RP F w v k) (hk : okK kt k = true) (w' : World) :
    ∀ (m : List (PV × β)) (es : List MapEntry) (i0 : Nat), es.length = m.length → (∀ x ∈ m, okK kt x.1 = true) → (∀ (i : Nat) k' v' e, m[i]? = some (k', v') → es[i]? = some e → RP F w e.key k') →
      (Instr.findAsking t v es i0).run P w' = .ok (foundOf m es k i0) w'
  | [], [], i0, _, _, _ => by simp [Instr.findAsking, foundOf, mfindAt]
  | (k', v') :: m, e :: es, i0, hl, hm, hr => by
    have h1 := run_eqKey (P := P) ht hv (hr 0 k' v' e rfl rfl) hk (hm (k', v') (by simp)) w'
    have ih := run_findAsking ht hv hk w' m es (i0 + 1) (by simpa using hl) (fun x hx => hm x (by simp [hx])) (fun i a b c ha hc => hr (i + 1) a b c (by simpa using ha) (by simpa using hc))
    simp only [Instr.findAsking, Sem.run_bind, h1, Result.andThen_ok]
    cases he : eqPs k.cells k'.cells with
    | true => simp [foundOf, mfindAt, he]
    | false =>
      simp only [Bool.false_eq_true, if_false, ih]
      simp only [foundOf, mfindAt, he]
      cases hf : mfindAt k (i0 + 1) m with
      | none => rfl
      | some x =>
        obtain ⟨i, u⟩ := x
        have := (mfindAt_ge hf).1
        simp only
        rw [show i - i0 = (i - (i0 + 1)) + 1 by omega]; rfl
theorem run_findKey {t : TypeId} {kt : KT} (ht : flT P t = some kt) {v : Value} {k : PV} (hv : RP F w v k) (hk : okK kt k = true) (w' : World) (m : List (PV × β)) (es : List MapEntry)
    (hl : es.length = m.length) (hm : ∀ x ∈ m, okK kt x.1 = true) (hr : ∀ (i : Nat) k' v' e, m[i]? = some (k', v') → es[i]? = some e → RP F w e.key k') :
      (Instr.findKey t v es).run P w' = .ok (foundOf m es k 0) w' := by
  obtain ⟨ks, g⟩ := kt
  have hasU : ∃ d, P.underlying t = some d := by
    cases g with
    | true => obtain ⟨fs, h, _⟩ := flT_struct ht; exact ⟨_, h⟩
    | false =>
      obtain ⟨k', hk', _⟩ := flT_one ht
      unfold fkOf at hk'
      split at hk' <;> first | exact ⟨_, ‹_›⟩ | cases hk'
  obtain ⟨d, hd⟩ := hasU
  have hask := run_findAsking (P := P) ht hv hk w' m es 0 hl hm hr
  have now : ∀ (m : List (PV × β)) (es : List MapEntry) (i0 : Nat), es.length = m.length → (∀ x ∈ m, okK (ks, g) x.1 = true) → (∀ (i : Nat) k' v' e, m[i]? = some (k', v') → es[i]? = some e → RP F w e.key k') →
      Instr.findNow d v es i0 = some (foundOf m es k i0) ∨ Instr.findNow d v es i0 = none := by
    intro m
    induction m with
    | nil =>
      intro es i0 hl _ _
      have : es = [] := by simpa using hl
      subst this
      exact .inl (by simp [Instr.findNow, foundOf, mfindAt])
    | cons x m ih =>
      obtain ⟨k', v'⟩ := x
      intro es i0 hl hm hr
      cases es with
      | nil => simp at hl
      | cons e es =>
        have ih' := ih es (i0 + 1) (by simpa using hl) (fun x hx => hm x (by simp [hx])) (fun i a b c ha hc => hr (i + 1) a b c (by simpa using ha) (by simpa using hc))
        have hkey := hr 0 k' v' e rfl rfl
        have hk' := hm (k', v') (by simp)
        have hs : Instr.sameNow d v e.key = none ∨ Instr.sameNow d v e.key = some (eqPs k.cells k'.cells) := by
          cases g with
          | true =>
            left
            obtain ⟨fs, h, _⟩ := flT_struct ht
            rw [hd] at h; injection h with h; subst h
            simp [Instr.sameNow]
          | false =>
            right
            obtain ⟨kk, hkk, rfl⟩ := flT_one ht
            simp only [okK, okKs, Bool.and_true] at hk hk'
            rw [okFK_wide hk, okFK_wide hk']
            rcases rp_kind hk hv with ⟨kd, n, rfl, rfl, rfl⟩ | ⟨b, rfl, rfl, rfl⟩ | ⟨s, rfl, rfl, rfl⟩
            · rcases rp_kind hk' hkey with ⟨kd', n', e1, rfl, e3⟩ | ⟨b, e1, _⟩ | ⟨s, e1, _⟩
              · injection e1 with e1; subst e1
                have := fkOf_int hkk
                rw [hd] at this; injection this with this; subst this
                rw [e3]; simp [Instr.sameNow, eqPs, eqP, Bool.beq_eq_decide_eq]
              · cases e1
              · cases e1
            · rcases rp_kind hk' hkey with ⟨kd', n', e1, _⟩ | ⟨b', e1, rfl, e3⟩ | ⟨s, e1, _⟩
              · cases e1
              · have := fkOf_bool hkk
                rw [hd] at this; injection this with this; subst this
                rw [e3]; simp [Instr.sameNow, eqPs, eqP]
              · cases e1
            · rcases rp_kind hk' hkey with ⟨kd', n', e1, _⟩ | ⟨b', e1, _⟩ | ⟨s', e1, rfl, e3⟩
              · cases e1
              · cases e1
              · have := fkOf_str hkk
                rw [hd] at this; injection this with this; subst this
                rw [e3]
                have e4 : (s == s') = decide (s = s') := by rw [← toList_inj, beq_toListBytes]
                simp [Instr.sameNow, eqPs, eqP, e4]
        rcases hs with hs | hs
        · right; simp [Instr.findNow, hs]
        · cases he : eqPs k.cells k'.cells with
          | true => rw [he] at hs; left; simp [Instr.findNow, hs, foundOf, mfindAt, he]
          | false =>
            rw [he] at hs
            simp only [Instr.findNow, hs]
            rcases ih' with h | h
            · left
              rw [h]
              simp only [foundOf, mfindAt, he]
              cases hf : mfindAt k (i0 + 1) m with
              | none => rfl
              | some x =>
                obtain ⟨i, u⟩ := x
                have := (mfindAt_ge hf).1
                simp only
                rw [show i - i0 = (i - (i0 + 1)) + 1 by omega]; rfl
            · right; exact h
  simp only [Instr.findKey, Sem.run_bind, run_underlying hd, Result.andThen_ok]
  rcases now m es 0 hl hm hr with h | h
  · rw [h]; rfl
  · rw [h]; exact hask
theorem run_checkKey {t : TypeId} {kt : KT} (ht : flT P t = some kt) {v : Value} {k : PV} (hv : RP F w v k) (hk : okK kt k = true) (e : Bool) (w' : World) : (Instr.checkKey e 10000 t v).run P w' = .ok () w' := by
  obtain ⟨ks, g⟩ := kt
  have one : ∀ (n : Nat) {t : TypeId} {kk : FK} {p : PV} {v : Value}, fkOf P t = some kk → (Instr.checkKey e (n + 1) t v).run P w' = .ok () w' := by
    intro n t kk p v hf
    unfold fkOf at hf
    split at hf <;> first | (rename_i hu; simp [Instr.checkKey, run_underlying hu]; done) | cases hf
  cases g with
  | false =>
    obtain ⟨kk, hkk, rfl⟩ := flT_one ht
    exact one 9999 (p := k) hkk
  | true =>
    obtain ⟨fs, h1, _, _, h4⟩ := flT_struct ht
    cases k <;> simp only [okK] at hk <;> try (cases hk; done)
    rename_i cs
    cases hv with
    | agg xs _ hxs hx =>
    have all : ∀ (fs : List Field) (i : Nat) (ks : List FK), fksOf P i fs = some ks → okKs ks (cs.drop i) = true → ∀ f ∈ fs, tT P f.type = some (1, false) ∧ (∃ kk, fkOf P f.type = some kk) ∧ f.offset < cs.length := by
      intro fs
      induction fs with
      | nil => intro i ks _ _ f hf; simp at hf
      | cons f fs ih =>
        intro i ks h hc g hg
        simp only [fksOf] at h
        split at h
        · rename_i k l hk hl
          split at h
          · rename_i hf
            injection h with h; subst h
            have lc := okKs_len hc
            simp only [List.length_cons, List.length_drop] at lc
            have hic : i < cs.length := by omega
            have ec : cs.drop i = cs[i] :: cs.drop (i + 1) := by rw [List.drop_eq_getElem_cons hic]
            rw [ec] at hc
            simp only [okKs, Bool.and_eq_true] at hc
            rcases List.mem_cons.1 hg with hg | hg
            · subst hg; exact ⟨hf.2.2, ⟨_, hk⟩, by omega⟩
            · exact ih (i + 1) l hl hc.2 g hg
          · cases h
        · cases h
    have hall := all fs.toList 0 ks h4 (by simpa using hk)
    rw [show (10000 : Nat) = 9999 + 1 from rfl, Instr.checkKey]
    simp only [Sem.run_bind, run_underlying h1, Result.andThen_ok]
    rw [← Array.forIn_toList]
    revert hall
    generalize fs.toList = l
    intro hall
    clear h4 h1
    induction l with
    | nil => simp
    | cons f l ih =>
      obtain ⟨a1, ⟨kk, a2⟩, a3⟩ := hall f (by simp)
      have hp : (part f.type xs f.offset).run P w' = .ok (xs[f.offset]'(by omega)) w' := run_part1 a1 xs (Array.getElem?_eq_getElem (by omega)) w'
      have hc := one 9998 (t := f.type) (p := .nilp) (v := xs[f.offset]'(by omega)) a2
      have ih' := ih fun g hg => hall g (by simp [hg])
      simp only [List.forIn_cons, Sem.run_bind, Sem.run_ite]
      split
      · simp only [Sem.run_bind, hp, Result.andThen_ok, hc, Sem.run_pure]
        exact ih'
      · simp only [Sem.run_pure, Result.andThen_ok]
        exact ih'
end
end Go.Sg
namespace Go.Sg
open Go
structure Opt {β : Type} (o : Option β) (A : β → Prop) (B : Prop) : Prop where
  s : ∀ v, o = some v → A v
  n : o = none → B
theorem Opt.mono {β : Type} {o : Option β} {A A' : β → Prop} {B B' : Prop} (h : Opt o A B) (ha : ∀ v, A v → A' v) (hb : B → B') : Opt o A' B' := ⟨fun v e => ha v (h.s v e), fun e => hb (h.n e)⟩
theorem Opt.of {α β : Type} {o : Option β} {q : Option α} {f : α → β} {A : β → Prop} {B : Prop} (h : o = q.map f) (s : ∀ y, q = some y → A (f y)) (n : q = none → B) : Opt o A B := by
  subst h
  refine ⟨fun v e => ?_, fun e => ?_⟩
  · cases q with
    | none => cases e
    | some y => injection e with e; subst e; exact s y rfl
  · cases q with
    | none => exact n rfl
    | some y => cases e
theorem Opt.nn {β : Type} {A : β → Prop} {B : Prop} (h : B) : Opt none A B := ⟨fun _ e => absurd e (fun k => by cases k), fun _ => h⟩
theorem Opt.ss {β : Type} {v : β} {A : β → Prop} {B : Prop} (h : A v) : Opt (some v) A B := ⟨fun u e => (Option.some.inj e) ▸ h, fun e => absurd e (fun k => by cases k)⟩
def tMap (P : Program) (t : TypeId) : Option (KT × TypeId) :=
  match P.underlying t with
  | some (.map k e) => (match flT P k with | some kt => some (kt, e) | none => none)
  | _ => none
def zAV (P : Program) (t : TypeId) (K : AV → Prop) : Prop :=
  match P.info? t with
  | some i => (match i.zero with | some v => K (constAV v) | none => False)
  | none => False
def lookK (P : Program) (t : TypeId) (ok : Bool) (kt' : KT) (m : List (PV × PV)) (k : AV) (K : AV → Prop) : Prop :=
  match tMap P t, k with
  | some (kt, e), .p key => (kt' = kt ∧ okK kt key = true) ∧ (match ok with
    | true => Opt (mfind key m) (fun v => K (.p (.tup [v, .bool true]))) (zAV P e fun z => K (mkTup [z, .p (.bool false)]))
    | false => Opt (mfind key m) (fun v => K (.p v)) (zAV P e K))
  | _, _ => False
def lookupK (P : Program) (t : TypeId) (x k : AV) (ok : Bool) (σ : Heap) (K : AV → Prop) : Prop :=
  match x with
  | .mp o => (match σ.get o with | .map kt m => lookK P t ok kt m k K | _ => False)
  | .p (.mp kt m) => lookK P t ok kt m k K
  | _ => False
def lookS (P : Program) (t : TypeId) (o : Nat) (k : AV) (ok : Bool) (kt' : KT) (sz : Nat) (m : List (PV × MV)) (nid : Nat) (K : AV → Heap → Prop) : Prop :=
  match tMap P t, k, ok with
  | some (kt, e), .p key, false => (kt' = kt ∧ okK kt key = true) ∧ Opt (mfind key m) (fun x => match x with
      | .h l => K (.rsl nid sz 0 l.length) [(nid, .row sz l), (o, .mapS kt sz (mput key (.v (.rsl nid sz 0 l.length)) m))]
      | .v a => K a []) (zAV P e fun z => K z [])
  | _, _, _ => False
def isLkS (op : Op) (ev : Operand → AV) (σ : Heap) : Option (TypeId × Nat × AV × Bool × KT × Nat × List (PV × MV)) :=
  match op with
  | .lookup t x i ok => (match ev x with
    | .mp o => (match σ.get o with
      | .mapS kt sz m => some (t, o, ev i, ok, kt, sz, m)
      | _ => none)
    | _ => none)
  | _ => none
def capK (P : Program) (t : TypeId) (x : AV) (K : AV → Prop) : Prop :=
  match x with
  | .csl _ _ _ _ cap => (tE P t).isSome = true ∧ K (.p (.int .i64 cap))
  | _ => False
def cslSl (P : Program) (t : TypeId) (o sz i len cap : Nat) (lo hi mx : Option AV) (K : AV → Prop) : Prop :=
  match tE P t, optI 0 lo, optI len hi, mx with
  | some (s, _), some a, some b, none => (sz = s ∧ 0 ≤ a ∧ a ≤ b ∧ b ≤ cap) ∧ K (.csl o sz (i + a.toNat) (b.toNat - a.toNat) (cap - a.toNat))
  | _, _, _, _ => False
def eqF1 : PV → PV → (Bool → Prop) → Prop
  | .int _ n, .int _ m, K => K (decide (n = m))
  | .bool a, .bool b, K => K (a == b)
  | .str a, .str b, K => K (decide (a = b))
  | _, _, _ => False
def eqF : List PV → List PV → (Bool → Prop) → Prop
  | [], [], K => K true
  | p :: r, q :: s, K => eqF1 p q fun b => (match r with | [] => (match s with | [] => K b | _ => False) | _ => eqF r s fun c => K (b && c))
  | _, _, _ => False
theorem eqF1_spec {p q : PV} {K : Bool → Prop} (h : eqF1 p q K) : K (eqP p q) := by
  cases p <;> cases q <;> first | exact h.elim | exact h
theorem eqF_spec : ∀ {a b : List PV} {K : Bool → Prop}, eqF a b K → K (eqPs a b)
  | [], [], K, h => h
  | [], _ :: _, K, h => h.elim
  | _ :: _, [], K, h => h.elim
  | p :: r, q :: s, K, h => by
    have h1 := eqF1_spec h
    cases r with
    | nil =>
      cases s with
      | nil => simpa [eqPs] using h1
      | cons _ _ => exact h1.elim
    | cons x r =>
      have h2 := eqF_spec (a := x :: r) (b := s) h1
      exact h2
def arT (P : Program) (t : TypeId) : Option (Nat × FK) :=
  match P.underlying t with
  | some (.array n e) => (match fkOf P e with
    | some k => if tT P e = some (1, false) ∧ Nat.ble 2 P.depth = true then some (n, k) else none
    | none => none)
  | _ => none
def eqAgg (P : Program) (op : BinOp) (t : TypeId) (a b : List PV) (K : AV → Prop) : Prop :=
  match flT P t with
  | some (ks, true) => (okKs ks a = true ∧ okKs ks b = true) ∧ (match op with | .eql => eqF a b fun r => K (.p (.bool r)) | .neq => eqF a b fun r => K (.p (.bool !r)) | _ => False)
  | some (_, false) => False
  | none => match arT P t with
    | some (n, k) => (okKs (List.replicate n k) a = true ∧ okKs (List.replicate n k) b = true) ∧ (match op with | .eql => eqF a b fun r => K (.p (.bool r)) | .neq => eqF a b fun r => K (.p (.bool !r)) | _ => False)
    | none => False
def tChan (P : Program) (t : TypeId) : Bool :=
  match P.underlying t with
  | some (.chan _ e) => (match P.info? e with | some i => decide (i.bytes ≤ 100000) | none => false)
  | _ => false
def yLen (P : Program) (t : TypeId) (x : AV) (σ : Heap) (K : AV → Prop) : Prop :=
  match x with
  | .mp o => (match σ.get o with | .map _ m => (tMap P t).isSome = true ∧ K (.p (.int .i64 m.length)) | _ => False)
  | .p (.mp _ m) => (tMap P t).isSome = true ∧ K (.p (.int .i64 m.length))
  | .ch o => (match σ.get o with | .chan _ b => tChan P t = true ∧ K (.p (.int .i64 b.length)) | _ => False)
  | x => rowLen (uc x) P t K
structure Nx (o : Nat) (rem : List (PV × PV)) (K : AV → Heap → Prop) : Prop where
  z : rem = [] → K (.p (.tup [.bool false])) []
  s : ∀ (i : Nat) k v, rem[i]? = some (k, v) → K (.p (.tup [.bool true, k, v])) [(o, .iter (rem.eraseIdx i) (some (k, v)))]
theorem Nx.of {α : Type} {o : Nat} {f : α → PV × PV} {R : List α} {K : AV → Heap → Prop} (h1 : R = [] → K (.p (.tup [.bool false])) []) (h2 : ∀ (i : Nat) x, R[i]? = some x → K (.p (.tup [.bool true, (f x).1, (f x).2])) [(o, .iter ((R.eraseIdx i).map f) (some (f x)))]) : Nx o (R.map f) K := by
  refine ⟨fun h => h1 (by simpa using h), fun i k v h => ?_⟩
  rw [List.getElem?_map] at h
  obtain ⟨x, hx, e⟩ := Option.map_eq_some_iff.1 h
  have := h2 i x hx
  have em : (R.map f).eraseIdx i = (R.eraseIdx i).map f := by simp [List.eraseIdx_eq_take_drop_succ, List.map_take, List.map_drop]
  rw [e] at this
  rw [em]; exact this
def rangeK (P : Program) (t : TypeId) (x : AV) (nid : Nat) (K : AV → Heap → Prop) : Prop :=
  match x with
  | .p (.mp _ m) => (tMap P t).isSome = true ∧ K (.ptr nid 0) [(nid, .iter m none)]
  | _ => False
def nextK (x : AV) (s : Bool) (σ : Heap) (K : AV → Heap → Prop) : Prop :=
  match x, s with
  | .ptr o 0, false => (match σ.get o with | .iter rem _ => Nx o rem K | _ => False)
  | _, _ => False
def entryK (x : AV) (σ : Heap) (K : AV → Prop) : Prop :=
  match x with
  | .ptr o 0 => (match σ.get o with | .iter _ (some c) => K (.p (.tup [c.1, c.2])) | _ => False)
  | _ => False
def yQ (P : Program) (op : Op) (ev : Operand → AV) (σ : Heap) (K : AV → Prop) : Prop :=
  match op with
  | .move x => K (ev x)
  | .assign x => K (ev x)
  | .lookup t x i ok => lookupK P t (ev x) (ev i) ok σ K
  | .slice t x lo hi mx => (match ev x with
    | .csl o sz i len cap => cslSl P t o sz i len cap (lo.map ev) (hi.map ev) (mx.map ev) K
    | _ => xQ P (.slice t x lo hi mx) ev σ K)
  | .binOp bop t x y z => (match ev x, ev y with
    | .p (.agg a), .p (.agg b) => eqAgg P bop t a b K
    | _, _ => xQ P (.binOp bop t x y z) ev σ K)
  | .call c => (match c.callee with
    | .builtin .cap => (match c.args.toList, c.argTypes[0]? with | [x], some t => capK P t (ev x) K | _, _ => False)
    | .builtin .len => (match c.args.toList, c.argTypes[0]? with | [x], some t => yLen P t (ev x) σ K | _, _ => False)
    | _ => xQ P (.call c) ev σ K)
  | op => xQ P op (fun x => uc (ev x)) σ K
def deadZ (Z : List Nat) : Heap := Z.map fun o => (o, .dead)
def appendZ (P : Program) (t xt : TypeId) (a x : AV) (σ : Heap) (nid : Nat) (K : AV → Heap → Prop) : Prop :=
  fzV σ 60 x [] fun p Z => rowAppend P t xt a (.p p) (deadZ Z ++ σ) nid fun v us => K v (us ++ deadZ Z)
def yAppend (P : Program) (t xt : TypeId) (a x : AV) (σ : Heap) (nid : Nat) (K : AV → Heap → Prop) : Prop :=
  match isCells x, isCells a with
  | true, false => appendZ P t xt a x σ nid K
  | _, _ => rowAppend P t xt a x σ nid K
def growK (P : Program) (t : TypeId) (a x : AV) (σ : Heap) (nid : Nat) (K : AV → Heap → Prop) : Prop :=
  match a, x, tE P t, tEZ P t, tB P t with
  | .csl o sz i len cap, .p (.int k n), some (s, g), some z, some bt => (match σ.get o with
    | .row sz' l => ((okE s (elemZ g z) ∧ (elemZ g z).cells = z ∧ z.length = s ∧ 0 < s ∧ bt ≤ 100000) ∧ (k = .i64 ∧ sz = s ∧ sz' = s ∧ i + len ≤ l.length ∧ len ≤ cap ∧ 0 ≤ n ∧ (cap : Int) < len + n ∧ (len : Int) + n ≤ 1000000000)) ∧
        K (.rsl nid s 0 (len + n.toNat)) [(nid, .row s ((l.drop i).take len ++ List.replicate n.toNat (elemZ g z)))]
    | _ => False)
  | _, _, _, _, _ => False
def growR (P : Program) (t : TypeId) (a x : AV) (σ : Heap) (nid : Nat) (K : AV → Heap → Prop) : Prop :=
  match a, x, tE P t, tEZ P t, tB P t with
  | .rsl o sz i len, .p (.int k n), some (s, g), some z, some bt => (match σ.get o with
    | .row sz' l => ((okE s (elemZ g z) ∧ (elemZ g z).cells = z ∧ z.length = s ∧ 0 < s ∧ bt ≤ 100000) ∧ (k = .i64 ∧ sz = s ∧ sz' = s ∧ i = 0 ∧ len = l.length ∧ 0 ≤ n ∧ (len : Int) + n ≤ 1000000000)) ∧
        K (.rsl nid s 0 (len + n.toNat)) [(nid, .row s (l ++ List.replicate n.toNat (elemZ g z))), (o, .dead)]
    | _ => False)
  | _, _, _, _, _ => False
def growA (P : Program) (t : TypeId) (a x : AV) (σ : Heap) (nid : Nat) (K : AV → Heap → Prop) : Prop :=
  match a with
  | .rsl o sz i len => growR P t (.rsl o sz i len) x σ nid K
  | a => growK P t a x σ nid K
structure AltA (A B : Prop) : Prop where
  h : A ∨ B
theorem AltA.l {A B : Prop} (h : A) : AltA A B := ⟨.inl h⟩
theorem AltA.r {A B : Prop} (h : B) : AltA A B := ⟨.inr h⟩
def emptyK (P : Program) (t xt : TypeId) (x : AV) (A : Prop) : Prop :=
  match x with
  | .p (.sl _ _ []) => (tNotInt P xt = true ∧ (tE P t).isSome = true) ∧ A
  | _ => False
def zAppend (P : Program) (t xt : TypeId) (a x : AV) (σ : Heap) (nid : Nat) (K : AV → Heap → Prop) : Prop :=
  match tIsInt P xt with
  | true => growA P t a x σ nid K
  | false => (match a with
    | .csl o sz i len cap => AltA (yAppend P t xt (.rsl o sz i len) (uc x) σ nid K) (emptyK P t xt x (K (.csl o sz i len cap) []))
    | a => yAppend P t xt (uc a) (uc x) σ nid K)
def emptyLitK (P : Program) (t : TypeId) (nid : Nat) (K : AV → Heap → Prop) : Prop :=
  match tE P t, tEZ P t with
  | some (s, _), some z => (z.length = s ∧ 0 < s) ∧ K (.csl nid s 0 0 0) [(nid, .row s [])]
  | _, _ => False
def storeZ (P : Program) (t : TypeId) (a x : AV) (σ : Heap) (K : AV → Heap → Prop) : Prop :=
  fzV σ 60 x [] fun p Z => rowStore P t a (.p p) (deadZ Z ++ σ) fun v us => K v (us ++ deadZ Z)
def isRowP : AV → Bool
  | .eptr _ _ _ _ => true
  | _ => false
def isPure : AV → Bool
  | .p _ => true
  | _ => false
def yStore (P : Program) (t : TypeId) (a x : AV) (σ : Heap) (K : AV → Heap → Prop) : Prop :=
  match isRowP a, isPure x with
  | true, false => storeZ P t a x σ K
  | _, _ => rowStore P t a x σ K
def selfCopy (P : Program) (t : TypeId) (o sz i len sz2 i2 n : Nat) (σ : Heap) (K : AV → Heap → Prop) : Prop :=
  match tE P t, σ.get o with
  | some (s, _), .row sz' l => ((sz = s ∧ sz2 = s ∧ sz' = s ∧ 0 < s) ∧ i ≤ l.length ∧ i2 + min n len ≤ l.length) ∧
      K (.p (.int .i64 (min n len : Nat))) [(o, .row s (l.take i ++ ((l.drop i2).take (min n len)) ++ l.drop (i + min n len)))]
  | _, _ => False
def yCopy (P : Program) (t : TypeId) (a x : AV) (σ : Heap) (K : AV → Heap → Prop) : Prop :=
  match a, x with
  | .rsl o sz i len, .rsl o2 sz2 i2 n => (match Nat.beq o o2 with
    | true => selfCopy P t o sz i len sz2 i2 n σ K
    | false => rowCopy P t (.rsl o sz i len) (.rsl o2 sz2 i2 n) σ K)
  | a, x => rowCopy P t a x σ K
def clearK (P : Program) (t : TypeId) (x : AV) (σ : Heap) (K : AV → Heap → Prop) : Prop :=
  match x, tE P t, tEZ P t with
  | .rsl o sz i len, some (s, g), some z => (match σ.get o with
    | .row sz' l => (sz = s ∧ sz' = s ∧ 0 < s ∧ i + len ≤ l.length ∧ okE s (elemZ g z) ∧ (elemZ g z).cells = z) ∧ K undefA [(o, .row s (l.take i ++ List.replicate len (elemZ g z) ++ l.drop (i + len)))]
    | _ => False)
  | _, _, _ => False
def putP (P : Program) (t : TypeId) (m k v : AV) (σ : Heap) (K : AV → Heap → Prop) : Prop :=
  match m, k, v with
  | .mp o, .p key, .p val => (match σ.get o, tMap P t with
    | .map kt l, some (kt', _) => (kt' = kt ∧ okK kt key = true) ∧ K undefA [(o, .map kt (mput key val l))]
    | _, _ => False)
  | _, _, _ => False
def putK (P : Program) (t : TypeId) (m k v : AV) (σ : Heap) (K : AV → Heap → Prop) : Prop :=
  match m, k, v with
  | .mp o, .p key, .rsl n sz i len => (match σ.get o, tMap P t, σ.get n with
    | .mapS kt sz' l, some (kt', _), .row sz'' r => (kt' = kt ∧ okK kt key = true ∧ sz = sz' ∧ sz'' = sz' ∧ i = 0 ∧ len = r.length ∧ n ≠ o) ∧ K undefA [(o, .mapS kt sz' (mput key (.h r) l)), (n, .dead)]
    | _, _, _ => False)
  | m, k, v => putP P t m k v σ K
def chanK (P : Program) (t : TypeId) (n : AV) (nid : Nat) (K : AV → Heap → Prop) : Prop :=
  match n, tChan P t with
  | .p (.int k n), true => (0 ≤ n ∧ n ≤ 1000000000 ∧ k = .i64) ∧ K (.ch nid) [(nid, .chan n.toNat [])]
  | _, _ => False
def byteK (P : Program) (s d : TypeId) (o sz i len : Nat) (σ : Heap) (K : AV → Heap → Prop) : Prop :=
  match tC P d, σ.get o with
  | .bytes, .row sz' l => (s = d ∧ sz = 1 ∧ sz' = 1 ∧ i + len ≤ l.length) ∧ ∃ q, u8s ((l.drop i).take len) = some q ∧ K (.p (.sl 1 false (q.map (PV.int .u8)))) [(o, .dead)]
  | _, _ => False
def yW (P : Program) (op : Op) (ev : Operand → AV) (σ : Heap) (nid : Nat) (K : AV → Heap → Prop) : Prop :=
  match op with
  | .makeMap t n => (match n with
    | none => (match tMap P t with | some (kt, _) => K (.mp nid) [(nid, .map kt [])] | none => False)
    | some _ => False)
  | .store t a x => yStore P t (uc (ev a)) (uc (ev x)) σ K
  | .buildSlice t n parts => (match n, parts.toList with
    | 0, [] => emptyLitK P t nid K
    | n, l => xW P (.buildSlice t n l.toArray) (fun x => uc (ev x)) σ nid K)
  | .convert s d x => (match uc (ev x) with
    | .rsl o sz i len => byteK P s d o sz i len σ K
    | _ => xW P (.convert s d x) (fun x => uc (ev x)) σ nid K)
  | .mapUpdate t m k v => putK P t (ev m) (ev k) (ev v) σ K
  | .makeChan t n => chanK P t (ev n) nid K
  | .insert t m k v => putK P t (ev m) (ev k) (ev v) σ K
  | .call c => (match c.callee, c.args.toList, c.argTypes[0]?, c.argTypes[1]? with
    | .builtin .append, [a, x], some t, some xt => zAppend P t xt (ev a) (ev x) σ nid K
    | .builtin .copy, [a, x], some t, _ => yCopy P t (uc (ev a)) (uc (ev x)) σ K
    | .builtin .clear, [x], some t, _ => clearK P t (uc (ev x)) σ K
    | _, _, _, _ => False)
  | op => xW P op (fun x => uc (ev x)) σ nid K
end Go.Sg
namespace Go.Sg
open Go
section
variable {P : Program} {F : Nat → Prop} {μ : Num} {σ : Heap} {w : World} {nid : Nat}
theorem tMap_spec {t : TypeId} {kt : KT} {e : TypeId} (h : tMap P t = some (kt, e)) : ∃ k, P.underlying t = some (.map k e) ∧ flT P k = some kt := by
  unfold tMap at h
  cases hu : P.underlying t with
  | none => rw [hu] at h; cases h
  | some d =>
    rw [hu] at h
    cases d <;> simp only at h <;> try (cases h; done)
    rename_i k e'
    cases hk : flT P k with
    | none => rw [hk] at h; cases h
    | some kt' =>
      rw [hk] at h
      injection h with h; injection h with h1 h2; subst h1; subst h2
      exact ⟨k, rfl, hk⟩
theorem zAV_sound {t : TypeId} {K : AV → Prop} (h : zAV P t K) : ∃ av v, K av ∧ RV F μ w v av ∧ ∀ w', (zeroValue t).run P w' = .ok v w' := by
  unfold zAV at h
  split at h
  · rename_i i hi
    split at h
    · rename_i v hv
      exact ⟨_, v, h, constAV_spec v, fun w' => by simp [zeroValue, typeInfo, hi, hv]⟩
    · exact h.elim
  · exact h.elim
theorem getObj_run {w' : World} {b : Nat} {es : Array MapEntry} {clock : Nat} (h : w'.heap[b]? = some (.map es clock)) : (getObj b).run P w' = .ok (.map es clock) w' := by
  simp [getObj, Sem.run, h]
theorem lt_get {w : World} {b : Nat} {o : Obj} (h : w.heap[b]? = some o) : b < w.heap.size := (Array.getElem?_eq_some_iff.1 h).1
theorem lookK_sound {t : TypeId} {ok : Bool} {kt : KT} {m : List (PV × PV)} {k : AV} {K : AV → Prop} {vk : Value} {b : Nat} {es : Array MapEntry} {clock : Nat} (hb : w.heap[b]? = some (.map es clock)) (hs : es.size = m.length) (hm : ∀ x ∈ m, okK kt x.1 = true)
    (hr : ∀ (i : Nat) k v e, m[i]? = some (k, v) → es[i]? = some e → RP F w e.key k ∧ RP F w e.val v) (hk : RV F μ w vk k) (h : lookK P t ok kt m k K) : Qt P F μ w K (Instr.lookup t (.map (some b)) vk ok) := by
  unfold lookK at h
  split at h
  · rename_i kt' e key hT
    obtain ⟨⟨rfl, hkey⟩, h⟩ := h
    obtain ⟨kT, hu, hf⟩ := tMap_spec hT
    have hkr := hk.pure_inv
    have hsame : ∀ w', Same w w' → w'.heap[b]? = some (.map es clock) := fun w' hw => (hw b (lt_get hb)).trans hb
    have hfind : ∀ w', (Instr.findKey kT vk es.toList).run P w' = .ok (foundOf m es.toList key 0) w' := fun w' => run_findKey hf hkr hkey w' m es.toList (by simpa using hs) hm (fun i a b c h1 h2 => (hr i a b c h1 (by simpa using h2)).1)
    have hcheck : ∀ w', (Instr.checkKey es.isEmpty 10000 kT vk).run P w' = .ok () w' := fun w' => run_checkKey hf hkr hkey _ w'
    have hrun : ∀ w', Same w w' → (Instr.lookup t (.map (some b)) vk ok).run P w' = ((match foundOf m es.toList key 0 with | some (_, v) => (pure (v, true) : Sem (Value × Bool)) | none => do pure (← zeroValue e, false)).run P w').andThen fun x w' => .ok (if ok then .tuple #[x.1, .bool x.2] else x.1) w' := by
      intro w' hw
      simp only [Instr.lookup, Sem.run_bind, run_underlying hu, Result.andThen_ok, getObj_run (hsame w' hw), Sem.run_pure, hcheck w', hfind w']
      cases foundOf m es.toList key 0 with
      | none => simp only [Sem.run_bind, Sem.run_pure]; cases (zeroValue e).run P w' <;> rfl
      | some x => obtain ⟨i, v⟩ := x; simp
    cases hmf : mfindAt key 0 m with
    | none =>
      have hfo : foundOf m es.toList key 0 = none := by simp [foundOf, hmf]
      have hmn : mfind key m = none := by simp [mfind, hmf]
      rw [hfo] at hrun
      cases ok with
      | true =>
        obtain ⟨z, v, h1, h2, h3⟩ := zAV_sound (P := P) (F := F) (μ := μ) (w := w) (h.n hmn)
        refine ⟨_, .tuple #[v, .bool false], h1, mkTup_spec (by rfl) (fun i p hp => ?_), fun w' hw => ?_⟩
        · match i with
          | 0 => simp at hp; subst hp; exact h2
          | 1 => simp at hp; subst hp; exact .p (.bool _)
          | i + 2 => simp at hp
        · rw [hrun w' hw]; simp [h3 w']
      | false =>
        obtain ⟨z, v, h1, h2, h3⟩ := zAV_sound (P := P) (F := F) (μ := μ) (w := w) (h.n hmn)
        exact ⟨_, v, h1, h2, fun w' hw => by rw [hrun w' hw]; simp [h3 w']⟩
    | some x =>
      obtain ⟨i, pv⟩ := x
      obtain ⟨_, k', hk', _⟩ := mfindAt_ge hmf
      have hi : i < m.length := (List.getElem?_eq_some_iff.1 hk').1
      have hie : i < es.size := by omega
      have hfo : foundOf m es.toList key 0 = some (i, es[i].val) := by simp [foundOf, hmf, hie]
      have hmn : mfind key m = some pv := by simp [mfind, hmf]
      have hrv := (hr i k' pv es[i] hk' (Array.getElem?_eq_getElem hie)).2
      rw [hfo] at hrun
      cases ok with
      | true =>
        refine ⟨_, .tuple #[es[i].val, .bool true], h.s pv hmn, .p (.tup _ _ (by rfl) (fun j p hp => ?_)), fun w' hw => by rw [hrun w' hw]; simp⟩
        match j with
        | 0 => simp at hp; subst hp; exact hrv
        | 1 => simp at hp; subst hp; exact .bool _
        | j + 2 => simp at hp
      | false => exact ⟨_, es[i].val, h.s pv hmn, .p hrv, fun w' hw => by rw [hrun w' hw]; simp⟩
  · exact h.elim
theorem lookupK_sound {t : TypeId} {x k : AV} {ok : Bool} {K : AV → Prop} {vx vk : Value} (hσ : SimH F μ σ w) (hx : RV F μ w vx x) (hk : RV F μ w vk k) (h : lookupK P t x k ok σ K) : Qt P F μ w K (Instr.lookup t vx vk ok) := by
  unfold lookupK at h
  split at h
  · rename_i o
    split at h
    · rename_i kt m ho
      cases hx with
      | mp _ b hb =>
      have hro := hσ.obj o b hb
      rw [ho] at hro
      obtain ⟨h0, es, clock, h1, h2, h3, h4⟩ := hro
      exact lookK_sound h1 h2 h0 (fun i k v e hi he => by
        obtain ⟨e', g1, g2, g3⟩ := h4 i k v hi
        rw [he] at g1; injection g1 with g1; subst g1; exact ⟨g2, g3⟩) hk h
    · exact h.elim
  · rename_i kt m
    have hx := hx.pure_inv
    cases hx with
    | mp b _ _ es clock hb h1 h2 h3 h4 h5 => exact lookK_sound h1 h2.1 h3 (fun i k v e hi he => ⟨h4 i k v e hi he, h5 i k v e hi he⟩) hk h
  · exact h.elim
theorem tChan_spec {t : TypeId} (h : tChan P t = true) : ∃ dir e i, P.underlying t = some (.chan dir e) ∧ P.info? e = some i ∧ i.bytes ≤ 100000 := by
  unfold tChan at h
  split at h
  · rename_i dir e hu
    cases hi : P.info? e with
    | none => rw [hi] at h; cases h
    | some i => rw [hi] at h; exact ⟨dir, e, i, hu, hi, of_decide_eq_true h⟩
  · cases h
theorem yLen_sound {t ty : TypeId} {x : AV} {K : AV → Prop} {v : Value} (hσ : SimH F μ σ w) (hx : RV F μ w v x) (h : yLen P t x σ K) : Qt P F μ w K (Builtin.len_ #[t] ty #[v]) := by
  have key : ∀ {b : Nat} {es : Array MapEntry} {clock : Nat} {m : List (PV × PV)}, w.heap[b]? = some (.map es clock) → es.size = m.length → (tMap P t).isSome = true → K (.p (.int .i64 m.length)) → Qt P F μ w K (Builtin.len_ #[t] ty #[.map (some b)]) := by
    intro b es clock m hb hs ht hK
    obtain ⟨⟨kt, e⟩, hT⟩ := Option.isSome_iff_exists.1 ht
    obtain ⟨kT, hu, _⟩ := tMap_spec hT
    refine ⟨_, .int .i64 m.length, hK, .p (.int _ _), fun w' hw => ?_⟩
    have hb' : w'.heap[b]? = some (.map es clock) := (hw b (lt_get hb)).trans hb
    simp [Builtin.len_, run_underlying hu, getObj_run hb', goInt, hs]
  unfold yLen at h
  split at h
  · rename_i o
    split at h
    · rename_i kt m ho
      cases hx with
      | mp _ b hb =>
      have hro := hσ.obj o b hb
      rw [ho] at hro
      obtain ⟨h0, es, clock, h1, h2, h3, h4⟩ := hro
      exact key h1 h2 h.1 h.2
    · exact h.elim
  · have hx := hx.pure_inv
    cases hx with
    | mp b _ _ es clock hb h1 h2 h3 h4 h5 => exact key h1 h2.1 h.1 h.2
  · rename_i o
    split at h
    · rename_i cap buf ho
      cases hx with
      | ch _ b hb =>
      have hro := hσ.obj o b hb
      rw [ho] at hro
      obtain ⟨bs, sent, recvd, h1, h2, h3⟩ := hro
      obtain ⟨dir, e, i, hu, _, _⟩ := tChan_spec h.1
      refine ⟨_, .int .i64 buf.length, h.2, .p (.int _ _), fun w' hw => ?_⟩
      have hb' := (hw b (lt_get h1)).trans h1
      rw [Go.Conc.run_len_chan t ty hu hb', h2]; rfl
    · exact h.elim
  · exact rowLen_sound hx.uc h
theorem capK_sound {t ty : TypeId} {x : AV} {K : AV → Prop} {v : Value} (hx : RV F μ w v x) (h : capK P t x K) : Qt P F μ w K (Builtin.cap_ #[t] ty #[v]) := by
  unfold capK at h
  split at h
  · obtain ⟨⟨s, g⟩, hE⟩ := Option.isSome_iff_exists.1 h.1
    obtain ⟨e, hu, _⟩ := tE_spec hE
    cases hx with
    | csl o sz i len cap base hx => exact ⟨_, _, h.2, .p (.int _ _), fun w' _ => by simp [Builtin.cap_, run_underlying hu, goInt]⟩
  · exact h.elim
theorem cslSl_sound {t : TypeId} {o sz i len cap : Nat} {v : Value} {lo hi mx : Option AV} {vlo vhi vmx : Option Value} {K : AV → Prop} (hx : RV F μ w v (.csl o sz i len cap))
    (hlo : match lo, vlo with | some x, some v => RV F μ w v x | none, none => True | _, _ => False) (hhi : match hi, vhi with | some x, some v => RV F μ w v x | none, none => True | _, _ => False)
    (hmx : match mx, vmx with | some x, some v => RV F μ w v x | none, none => True | _, _ => False) (h : cslSl P t o sz i len cap lo hi mx K) : Qt P F μ w K (Instr.sliceAt t v vlo vhi vmx) := by
  have dropN : ∀ {d a : Int} {x : Option AV} {v : Option Value}, ((x = none ∧ v = none ∧ a = d) ∨ ∃ k, v = some (.int k a)) → (v = none ∧ a = d) ∨ ∃ k, v = some (.int k a) := fun h => h.imp (fun h => ⟨h.2.1, h.2.2⟩) id
  unfold cslSl at h
  split at h
  · rename_i s g a b hE ha hb
    obtain ⟨⟨hz, h0, hab, hbl⟩, hK⟩ := h
    obtain ⟨e, hu, hs⟩ := tE_spec hE
    have h1 := dropN (optI_spec hlo ha)
    have h2 := dropN (optI_spec hhi hb)
    obtain rfl : vmx = none := by cases vmx; rfl; exact hmx.elim
    cases hx with
    | csl _ _ _ _ _ base hx =>
    cases hx with
    | rsl _ _ _ _ _ hx =>
    cases hx with
    | msl _ _ _ off' _ _ bb t' n' hbb hcap hsh hbd hlc hcm =>
    have hr : ∀ w', (Instr.sliceBounds true len cap vlo vhi none).run P w' = .ok (a.toNat, b.toNat, cap) w' := fun w' => run_bounds h1 h2 h0 hab (by omega) w'
    subst hz
    refine .of _ (.slice (if cap = a.toNat then some ⟨bb, off', none⟩ else (some (⟨bb, off', none⟩ : Addr)).map (·.add (a.toNat * sz))) (b.toNat - a.toNat) (cap - a.toNat)) hK ?_ fun w' => by
      simp only [Instr.sliceAt, Instr.slice, underlying, Sem.run_bind, run_program, Result.andThen_ok, hu, Sem.run_pure, hr w', run_sizeOf hs]
    refine .csl _ _ _ _ _ _ (.rsl _ _ _ _ _ ?_)
    have hac : a.toNat ≤ cap := by omega
    have hmul : (i + a.toNat) * sz + (cap - a.toNat) * sz ≤ n' := by
      rw [← Nat.add_mul, show i + a.toNat + (cap - a.toNat) = i + cap by omega, Nat.add_mul]; exact hbd
    by_cases hmz : cap = a.toNat
    · rw [if_pos hmz]
      exact .msl _ _ _ _ _ _ _ t' n' hbb (.inl (by omega)) hsh hmul (by omega) (by omega)
    · rw [if_neg hmz]
      simp only [Option.map_some, add_none]
      refine .msl _ _ _ _ _ _ _ t' n' hbb (.inr ?_) hsh hmul (by omega) (by omega)
      rcases hcap with h' | h'
      · omega
      · rw [h', Nat.add_mul]
  · exact h.elim
theorem arT_spec {t : TypeId} {n : Nat} {k : FK} (h : arT P t = some (n, k)) : ∃ e, P.underlying t = some (.array n e) ∧ fkOf P e = some k ∧ tT P e = some (1, false) ∧ P.eqGuardType P.depth t = false := by
  unfold arT at h
  split at h
  · rename_i m e hu
    split at h
    · rename_i k' hk
      split at h
      · rename_i hc
        injection h with h; injection h with h1 h2; subst h1; subst h2
        refine ⟨e, hu, hk, hc.1, ?_⟩
        have hd : 2 ≤ P.depth := Nat.le_of_ble_eq_true hc.2
        cases hdp : P.depth with
        | zero => omega
        | succ d =>
          unfold Program.eqGuardType
          rw [hu]
          exact fkOf_guard hk d (by omega)
      · cases h
    · cases h
  · cases h
theorem run_eqCells {e : TypeId} {k : FK} (hk : fkOf P e = some k) (h3 : tT P e = some (1, false)) {xs ys : Array Value} {cs ds : List PV} (hxs : xs.size = cs.length) (hys : ys.size = ds.length) (hx : ∀ (i : Nat) p, cs[i]? = some p → RP F w (xs[i]?.getD undef) p) (hy : ∀ (i : Nat) p, ds[i]? = some p → RP F w (ys[i]?.getD undef) p) (d : Nat) (w' : World) :
    ∀ (m i : Nat), okKs (List.replicate m k) (cs.drop i) = true → okKs (List.replicate m k) (ds.drop i) = true →
      (Op.eqItems (d + 1) e 1 xs ys (List.range' i m)).run P w' = .ok (eqPs (cs.drop i) (ds.drop i)) w'
  | 0, i, hc, hd => by
    have e1 : cs.drop i = [] := List.length_eq_zero_iff.1 (okKs_len hc).symm
    have e2 : ds.drop i = [] := List.length_eq_zero_iff.1 (okKs_len hd).symm
    rw [e1, e2]; rfl
  | m + 1, i, hc, hd => by
    have lc := okKs_len hc
    have ld := okKs_len hd
    simp only [List.length_replicate, List.length_drop] at lc ld
    have hic : i < cs.length := by omega
    have hid : i < ds.length := by omega
    have ec : cs.drop i = cs[i] :: cs.drop (i + 1) := by rw [List.drop_eq_getElem_cons hic]
    have ed : ds.drop i = ds[i] :: ds.drop (i + 1) := by rw [List.drop_eq_getElem_cons hid]
    rw [ec] at hc ⊢; rw [ed] at hd ⊢
    simp only [List.replicate_succ, okKs, Bool.and_eq_true] at hc hd
    have rx0 := hx i cs[i] (List.getElem?_eq_getElem hic)
    have ry0 := hy i ds[i] (List.getElem?_eq_getElem hid)
    rw [Array.getElem?_eq_getElem (by omega)] at rx0 ry0
    have rx : RP F w xs[i] cs[i] := rx0
    have ry : RP F w ys[i] ds[i] := ry0
    have px : (part e xs (i * 1)).run P w' = .ok xs[i] w' := run_part1 h3 xs (by rw [Nat.mul_one]; exact Array.getElem?_eq_getElem (by omega)) w'
    have py : (part e ys (i * 1)).run P w' = .ok ys[i] w' := run_part1 h3 ys (by rw [Nat.mul_one]; exact Array.getElem?_eq_getElem (by omega)) w'
    have re := run_eqCell (P := P) (F := F) (w := w) hk hc.1 hd.1 rx ry d w'
    simp only [List.range'_succ, Op.eqItems, Sem.run_bind, px, py, re, Result.andThen_ok, eqPs]
    cases eqP cs[i] ds[i] with
    | false => simp
    | true =>
      simp only [Bool.not_true, Bool.false_eq_true, if_false, Bool.true_and]
      exact run_eqCells hk h3 hxs hys hx hy d w' m (i + 1) hc.2 hd.2
theorem run_eqArr {t : TypeId} {n : Nat} {k : FK} (ht : arT P t = some (n, k)) {v u : Value} {cs ds : List PV} (hv : RP F w v (.agg cs)) (hu : RP F w u (.agg ds)) (hc : okKs (List.replicate n k) cs = true) (hd : okKs (List.replicate n k) ds = true) (d : Nat) (w' : World) :
    (Op.equalIn (d + 2) t v u).run P w' = .ok (eqPs cs ds) w' := by
  obtain ⟨e, h1, h2, h3, h4⟩ := arT_spec ht
  cases hv with
  | agg xs _ hxs hx =>
    cases hu with
    | agg ys _ hys hy =>
      obtain ⟨⟨i, hi, hs⟩, _⟩ := tT_spec h3
      have hce : P.cellsOf e = 1 := by simp [Program.cellsOf, hi, hs]
      rw [Go.run_equalIn_array w' (d + 1) xs ys h1 hi, hce, List.range_eq_range']
      exact run_eqCells h2 h3 hxs hys hx hy d w' n 0 (by simpa using hc) (by simpa using hd)
theorem eqAgg_sound {op : BinOp} {t : TypeId} {a b : List PV} {K : AV → Prop} {v u : Value} (ox oy : Operand) (hv : RP F w v (.agg a)) (hu : RP F w u (.agg b)) (h : eqAgg P op t a b K) : Qt P F μ w K (do eqGuard op t ox oy v u; binOp op t v u) := by
  unfold eqAgg at h
  split at h
  · rename_i ks hT
    obtain ⟨⟨ha, hb⟩, h⟩ := h
    obtain ⟨fs, h1, h2, h3, h4⟩ := flT_struct hT
    have hrun := fun w' => run_eqAgg (P := P) hT hv hu ha hb 9998 w'
    cases hv with
    | agg xs _ g1 g2 =>
    cases hu with
    | agg ys _ g3 g4 =>
    split at h
    · have hK := eqF_spec h
      exact ⟨_, .bool (eqPs a b), hK, .p (.bool _), fun w' _ => by
        simp only [Sem.run_bind, run_eqGuard_agg w' .eql t ox oy xs ys h3, Result.andThen_ok, run_eql_struct, hrun w']⟩
    · have hK := eqF_spec h
      exact ⟨_, .bool (!eqPs a b), hK, .p (.bool _), fun w' _ => by
        simp only [Sem.run_bind, run_eqGuard_agg w' .neq t ox oy xs ys h3, Result.andThen_ok, run_neq_struct, hrun w']⟩
    · exact h.elim
  · exact h.elim
  · split at h
    · rename_i n k hT
      obtain ⟨⟨ha, hb⟩, h⟩ := h
      obtain ⟨e, h1, h2, h3, hg⟩ := arT_spec hT
      have hrun := fun w' => run_eqArr (P := P) hT hv hu ha hb 9998 w'
      cases hv with
      | agg xs _ g1 g2 =>
      cases hu with
      | agg ys _ g3 g4 =>
      split at h
      · have hK := eqF_spec h
        exact ⟨_, .bool (eqPs a b), hK, .p (.bool _), fun w' _ => by
          simp only [Sem.run_bind, run_eqGuard_agg w' .eql t ox oy xs ys hg, Result.andThen_ok, run_eql_struct, hrun w']⟩
      · have hK := eqF_spec h
        exact ⟨_, .bool (!eqPs a b), hK, .p (.bool _), fun w' _ => by
          simp only [Sem.run_bind, run_eqGuard_agg w' .neq t ox oy xs ys hg, Result.andThen_ok, run_neq_struct, hrun w']⟩
      · exact h.elim
    · exact h.elim
theorem entryK_sound {x : AV} {K : AV → Prop} {v : Value} (hσ : SimH F μ σ w) (hx : RV F μ w v x) (h : entryK x σ K) : Qt P F μ w K (Instr.entry v) := by
  unfold entryK at h
  split at h
  · rename_i o
    split at h
    · rename_i rem c ho
      cases hx with
      | ptr _ _ b hb =>
      have hro := hσ.obj o b hb
      rw [ho] at hro
      obtain ⟨m, es, clock, seen, h1, h2, h3, h4, _, h7⟩ := hro
      obtain ⟨seen0, e, rfl, he, hk, hv⟩ := h7 c.1 c.2 rfl
      refine ⟨_, .tuple #[e.key, e.val], h, .p (.tup _ _ rfl fun i p hp => ?_), fun w' hw => ?_⟩
      · match i with
        | 0 => simp at hp; subst hp; exact hk
        | 1 => simp at hp; subst hp; exact hv
        | i + 2 => simp at hp
      · exact run_entry_at w' b m clock seen0 es clock e ((hw b (lt_get h1)).trans h1) ((hw m (lt_get h3)).trans h3) he h4.nodup
    · exact h.elim
  · exact h.elim
theorem yQ_sound {o : Oper} {ev : Operand → AV} {a : Operand → Value} {K : AV → Prop} (hσ : SimH F μ σ w) (hev : ∀ x, RV F μ w (a x) (ev x)) (h : yQ P o.op ev σ K) : QtN P F μ w K (execOp a o) := by
  obtain ⟨dst, op, ty, pos, after, guard⟩ := o
  have gen : xQ P op (fun x => uc (ev x)) σ K → QtN P F μ w K (execOp a { dst := dst, op := op, type := ty, pos := pos, after := after, guard := guard }) := fun h => xQ_sound (o := { dst := dst, op := op, type := ty, pos := pos, after := after, guard := guard }) hσ (fun x => (hev x).uc) h
  have gen2 : xQ P op ev σ K → QtN P F μ w K (execOp a { dst := dst, op := op, type := ty, pos := pos, after := after, guard := guard }) := fun h => xQ_sound (o := { dst := dst, op := op, type := ty, pos := pos, after := after, guard := guard }) hσ hev h
  cases op <;> simp only [yQ] at h
  case move x => exact ⟨_, _, h, hev x, fun w' _ => rfl⟩
  case assign x => exact ⟨_, _, h, hev x, fun w' _ => rfl⟩
  case lookup t x i ok => exact (lookupK_sound hσ (hev x) (hev i) h).next
  case slice t x lo hi mx =>
    split at h
    · rename_i o sz i len cap hx
      have hxx := hev x
      rw [hx] at hxx
      exact (cslSl_sound hxx (opt_rv hev) (opt_rv hev) (opt_rv hev) h).next
    · exact gen2 h
  case binOp bop t x y z =>
    split at h
    · rename_i l m hx hy
      have hxx := hev x
      have hyy := hev y
      rw [hx] at hxx; rw [hy] at hyy
      exact (eqAgg_sound x y hxx.pure_inv hyy.pure_inv h).next
    · exact gen2 h
  case call c =>
    obtain ⟨callee, args, ats⟩ := c
    split at h
    · rename_i hc
      simp only at hc h
      subst hc
      split at h
      · rename_i x t harg h1
        have hargs : args = #[x] := by apply Array.ext'; simpa using harg
        subst hargs
        have := (capK_sound (ty := ty) (hev x) h).next
        have e : execOp a { dst := dst, op := .call { callee := .builtin .cap, args := #[x], argTypes := ats }, type := ty, pos := pos, after := after, guard := guard } = (do pure (.value (← Builtin.cap_ ats ty (#[x].map a)))) := rfl
        have e2 : Builtin.cap_ ats ty (#[x].map a) = Builtin.cap_ #[t] ty #[a x] := by
          simp only [Builtin.cap_, h1, List.map_toArray, List.map_cons, List.map_nil]; rfl
        rw [e, e2]; exact this
      · exact h.elim
    · rename_i hc
      simp only at hc h
      subst hc
      split at h
      · rename_i x t harg h1
        have hargs : args = #[x] := by apply Array.ext'; simpa using harg
        subst hargs
        have := (yLen_sound (ty := ty) hσ (hev x) h).next
        have e : execOp a { dst := dst, op := .call { callee := .builtin .len, args := #[x], argTypes := ats }, type := ty, pos := pos, after := after, guard := guard } = (do pure (.value (← Builtin.len_ ats ty (#[x].map a)))) := rfl
        have e2 : Builtin.len_ ats ty (#[x].map a) = Builtin.len_ #[t] ty #[a x] := by
          simp only [Builtin.len_, h1, List.map_toArray, List.map_cons, List.map_nil]; rfl
        rw [e, e2]; exact this
      · exact h.elim
    · exact gen2 h
  all_goals exact gen h
end
end Go.Sg
namespace Go.Sg
open Go
section
variable {P : Program} {F : Nat → Prop} {μ : Num} {σ : Heap} {w : World} {nid : Nat} {K : AV → Heap → Prop}
theorem get_deadZ (Z : List Nat) (i : Nat) (h : Heap.get (deadZ Z ++ σ) i ≠ .dead) : i ∉ Z ∧ Heap.get (deadZ Z ++ σ) i = σ.get i := by
  induction Z with
  | nil => exact ⟨by simp, rfl⟩
  | cons o r ih =>
    simp only [deadZ, List.map_cons, List.cons_append, Heap.get] at h ⊢
    split at h
    · exact absurd rfl h
    · rename_i e
      obtain ⟨h1, h2⟩ := ih h
      rw [if_neg e]
      exact ⟨by simp; exact ⟨fun e' => e e'.symm, h1⟩, h2⟩
def frzF (F : Nat → Prop) (μ : Num) (σ : Heap) (Z : List Nat) (b : Nat) : Prop := F b ∨ ∃ o, o ∈ Z ∧ σ.get o ≠ .dead ∧ μ o = some b
theorem SimH.kill (h : SimH F μ σ w) (Z : List Nat) : Step F μ w (frzF F μ σ Z) μ w ∧ SimH (frzF F μ σ Z) μ (deadZ Z ++ σ) w := by
  have hs : Step F μ w (frzF F μ σ Z) μ w := ⟨rfl, rfl, rfl, Nat.le_refl _, fun _ _ => rfl, fun _ _ _ => rfl, fun _ _ h => h, fun _ h => .inl h, fun b hb => by
    rcases hb with hb | ⟨o, _, _, hb⟩
    · exact .inl hb
    · exact .inr (.inl (.inl ⟨o, hb⟩)), fun _ _ h => h, fun _ h => .inl h⟩
  refine ⟨hs, fun b hb => ?_, h.mb, fun o ho => ?_, fun o b hm => ?_, fun o b ho hm hf => ?_, fun i j b hi hj hmi hmj => ?_, fun c m hc => ⟨fun hf => ?_, fun i hi => (h.hd c m hc).2 i (by rw [(get_deadZ Z i hi).2] at hi; exact hi)⟩, h.hu⟩
  · rcases hb with hb | ⟨o, _, _, hb⟩
    · exact h.fb b hb
    · exact h.mb b (.inl ⟨o, hb⟩)
  · obtain ⟨h1, h2⟩ := get_deadZ Z o ho
    rw [h2] at ho; exact h.has o ho
  · rcases Classical.em (Heap.get (deadZ Z ++ σ) o = .dead) with hd | hd
    · rw [hd]; trivial
    · obtain ⟨h1, h2⟩ := get_deadZ Z o hd
      rw [h2]; exact (h.obj o b hm).step hs rfl fun c hc => ⟨hc, rfl⟩
  · obtain ⟨h1, h2⟩ := get_deadZ Z o ho
    rw [h2] at ho
    rcases hf with hf | ⟨o', h3, h4, h5⟩
    · exact h.live o b ho hm hf
    · have := h.inj o o' b ho h4 hm h5
      subst this; exact h1 h3
  · rw [(get_deadZ Z i hi).2] at hi
    rw [(get_deadZ Z j hj).2] at hj
    exact h.inj i j b hi hj hmi hmj
  · rcases hf with hf | ⟨o, _, h4, h5⟩
    · exact (h.hd c m hc).1 hf
    · exact (h.hd c m hc).2 o h4 h5
theorem appendZ_sound {t xt ty : TypeId} {a x : AV} {va vx : Value} (hσ : SimH F μ σ w) (hnew : μ nid = none) (ha : RV F μ w va a) (hx : RV F μ w vx x) (h : appendZ P t xt a x σ nid K) :
    WOut P F μ σ w nid K (Builtin.append_ #[t, xt] ty #[va, vx]) := by
  unfold appendZ at h
  obtain ⟨p, Z, h1, _, h3, h4⟩ := (fz_both 60).1 x [] _ (by simp [liveZ]) h
  obtain ⟨hst, hk⟩ := hσ.kill Z
  have hp := h4 F μ w vx (fun o b _ _ hm => hσ.obj o b hm) hx
  obtain ⟨av, us, v, w', F', μ', g1, g2, g3, g4, g5, g6⟩ := rowAppend_sound (P := P) (ty := ty) hk hnew (ha.step hst) (.p hp) h1
  exact ⟨av, us ++ deadZ Z, v, w', F', μ', g1, g2, hst.trans g3, by rw [List.append_assoc]; exact g4, g5, g6⟩
theorem growK_sound {t xt ty : TypeId} {a x : AV} {va vx : Value} (hσ : SimH F μ σ w) (hnew : μ nid = none) (ha : RV F μ w va a) (hx : RV F μ w vx x) (hti : tIsInt P xt = true) (h : growK P t a x σ nid K) :
    WOut P F μ σ w nid K (Builtin.append_ #[t, xt] ty #[va, vx]) := by
  unfold growK at h
  split at h
  · rename_i o sz i len cap k n s g z bt hE hz hb
    split at h
    · rename_i sz' l ho
      obtain ⟨⟨⟨h1, h2, h3, h4, h5⟩, rfl, e1, e2, h6, h7, h8, h9, h10⟩, hK⟩ := h
      subst e2
      subst e1
      obtain ⟨e, hu, hs, hze⟩ := tEZ_spec hE hz
      obtain ⟨ti, hi, hib⟩ := tB_spec hu hb
      obtain ⟨zv, hzv, hzs, hzr⟩ := run_zeroValue hze w
      have hok := row_of hσ ho
      have hxv : vx = .int .i64 n := by cases hx with | p h => cases h; rfl
      subst hxv
      obtain ⟨N, hN⟩ : ∃ N : Nat, n = N := ⟨n.toNat, by omega⟩
      subst hN
      cases ha with
      | csl _ _ _ _ _ base hr =>
      have hsrc : srcK (unV (.rsl o sz i len)) sz (unH σ) fun m new => m = len ∧ new = rowC ((l.drop i).take len) := by
        simp only [unV, srcK, un_get ho, unO]
        refine ⟨trivial, ?_, trivial, ?_⟩
        · rw [rowC_len h4 hok, ← Nat.add_mul]; exact Nat.mul_le_mul_right _ h6
        · rw [rowC_drop h4 hok, rowC_take h4 (hok.drop i)]
      obtain ⟨m, new, ⟨rfl, rfl⟩, hlen, hnl, hfc⟩ := srcK_sound (P := P) h4 hσ.un hr.un hsrc
      have hA := hfc _ (Nat.le_refl _)
      rw [List.take_of_length_le (by omega)] at hA
      have hsz : zv.cells.size = sz := hzs.trans h3
      have hzz := zerosOf_spec (F := F) (μ := μ) (w := w) (n := N) hzs h3 h4 (fun F i p hp => hzr F i p hp) N (Nat.le_refl _)
      refine WOut.lift hσ (append_realloc_of (zv := zv) (e := e) (s := sz) (n := N) (LA := rowC ((l.drop i).take m)) (LN := zerosOf z N) (cn := Builtin.zeroCells zv.cells N) hσ.un hnew hsz h7 (by omega) hA hnl ?_ ?_ hzz.1 ?_ _ (fun h => h) ⟨_, _, hK, Imp.rsl' (by omega), ?_, fun y hy => ?_⟩)
      · simp [Builtin.zeroCells, hsz]
      · intro j c hc
        have := hzz.2 j c hc
        simpa [Builtin.zeroCells, hsz] using this
      · intro ca hca
        have hbig : ¬ Builtin.nextslicecap (m + N) cap * ti.bytes > 2 ^ 48 := by
          have k1 := nextslicecap_le (need := m + N) (old := cap) (by omega)
          have k2 : Builtin.nextslicecap (m + N) cap * ti.bytes ≤ (2 * 1000000000) * 100000 := Nat.mul_le_mul (by omega) (by omega)
          omega
        exact run_append_zeros hu hs hti (Nat.mul_pos (by omega) h4) (by omega) (by omega) hi (by omega) (by omega) (by simpa using hbig) hzv w hca
      · simp only [unH, List.map_cons, List.map_nil, unO, rowC_append, Int.toNat_natCast]
        rw [rowC_replicate z g _ _ h2]
      · simp at hy; subst hy
        exact (((hok.drop i).take m)).append (okRow_rep h1 _)
    · exact h.elim
  · exact h.elim
theorem run_append_zfits {t xt ty e : TypeId} {s n : Nat} {g : Bool} {base : Option Addr} {len cap : Nat} {zv : Value} {i : TypeInfo} (hu : P.underlying t = some (.slice e)) (hs : tT P e = some (s, g)) (hni : tIsInt P xt = true)
    (hn : n ≤ 1000000000) (hf : len + n ≤ cap) (hi : P.info? e = some i) (hib : i.bytes ≤ 100000) (hzv : ∀ w', (zeroValue e).run P w' = .ok zv w') (w' : World) :
    (Builtin.append_ #[t, xt] ty #[.slice base len cap, .int .i64 n]).run P w' =
      ((match base with | some a => storeCells (a.add (len * s)) (if n * s = 0 then (#[] : Array Value) else Builtin.zeroCells zv.cells n).toList | none => pure () : Sem Unit).run P w').andThen fun _ w₂ => .ok (.slice base (len + n) cap) w₂ := by
  have hd : ∃ k, P.underlying xt = some (.int k) := by
    unfold tIsInt at hni
    split at hni
    · exact ⟨_, by assumption⟩
    · cases hni
  obtain ⟨k, hdx⟩ := hd
  have hszr := fun w' => run_sizeOf hs w'
  have hw : IntKind.i64.wrap (n : Int) = n := fits_i64 (by omega) (by omega)
  have hlt : ¬ ((n : Int) < 0) := by omega
  have hbb : ¬ (2 ^ 48 < (n : Int) * (i.bytes : Int)) := by
    have : n * i.bytes ≤ 1000000000 * 100000 := Nat.mul_le_mul hn hib
    have h2 : ((n * i.bytes : Nat) : Int) ≤ ((1000000000 * 100000 : Nat) : Int) := by omega
    rw [Int.natCast_mul] at h2
    omega
  have hm : (TypeDesc.int k matches .int _) = true := rfl
  have hai : ∀ w', (asInt (.int .i64 (n : Int))).run P w' = .ok (n : Int) w' := fun _ => rfl
  have hbb2 : ¬ (281474976710656 < (n : Int) * (i.bytes : Int)) := by simpa using hbb
  by_cases hns : n * s = 0
  · cases base <;> (simp only [Builtin.append_, List.getElem?_toArray, List.getElem?_cons_zero, List.getElem?_cons_succ, underlying, Sem.run_bind, run_program, Result.andThen_ok, hu, Sem.run_pure, hszr, hdx, hm, if_true, hai, hw, if_neg hlt, Int.toNat_natCast, if_pos hf, if_pos hns]; simp [typeInfo, hi, hbb2, hf, hns])
  · cases base <;> (simp only [Builtin.append_, List.getElem?_toArray, List.getElem?_cons_zero, List.getElem?_cons_succ, underlying, Sem.run_bind, run_program, Result.andThen_ok, hu, Sem.run_pure, hszr, hdx, hm, if_true, hai, hw, if_neg hlt, Int.toNat_natCast, if_pos hf, if_neg hns]; simp [typeInfo, hi, hbb2, hzv, hf, hns])
theorem append_whole {t xt ty : TypeId} {e : TypeId} {o sz n len cap b off' : Nat} {vx : Value} {cs new : List AV} {zv : Value} {cells : Array Value} {n' : Nat} {t' : TypeId} (hσ : SimH F μ σ w) (hnew : μ nid = none) (ho : σ.get o = .cells cs) (h0 : 0 < sz)
    (hfull : len * sz = cs.length) (hsm : len + n ≤ 1000000000) (h1 : ∀ c ∈ new, c.one = true) (hn0 : 0 < n) (hbm : μ o = some b) (hcap : cap = 0 ∨ off' = 0) (hsh : w.shape? b = some (t', n')) (hbd : 0 + cap * sz ≤ n') (hlc : len ≤ cap) (hcm : cap ≤ maxLen)
    (hzs : zv.cells.size = sz) (c2 : cells.size = n * sz) (c3 : ∀ (i : Nat) c, new[i]? = some c → RV F μ w (cells[i]?.getD undef) c) (hnl : new.length = n * sz)
    (hfits : len + n ≤ cap → (Builtin.append_ #[t, xt] ty #[.slice (some ⟨b, off', none⟩) len cap, vx]).run P w = ((storeCells ((⟨b, off', none⟩ : Addr).add (len * sz)) cells.toList).run P w).andThen fun _ w₂ => .ok (.slice (some ⟨b, off', none⟩) (len + n) cap) w₂)
    (hgrow : cap < len + n → ∀ ca, (Builtin.firstCells sz len (.slice (some ⟨b, off', none⟩) len cap)).run P w.drew = .ok ca w.drew → (Builtin.append_ #[t, xt] ty #[.slice (some ⟨b, off', none⟩) len cap, vx]).run P w = .ok (.slice (some ⟨w.heap.size, 0, none⟩) (len + n) ((Question.appendCap (len + n) cap e).cut (w.tape w.drawn (Question.appendCap (len + n) cap e))))
      (w.drew.alloc (.cells (ca ++ (cells ++ Builtin.zeroCells zv.cells ((Question.appendCap (len + n) cap e).cut (w.tape w.drawn (Question.appendCap (len + n) cap e)) - (len + n)))) e)))
    (hK : K (.msl nid sz 0 (len + n)) [(nid, .cells (cs ++ new)), (o, .dead)]) : WOut P F μ σ w nid K (Builtin.append_ #[t, xt] ty #[.slice (some ⟨b, off', none⟩) len cap, vx]) := by
  by_cases hfit : len + n ≤ cap
  ·
    have hoff : off' = 0 := by rcases hcap with h' | h' <;> omega
    subst hoff
    obtain ⟨cur, ty', g1, g2, g3⟩ := hσ.cells ho hbm
    have hcs : n' = cur.size := by simp [World.shape?, g1] at hsh; exact hsh.2.symm
    have hroom : len * sz + 0 + cells.toList.length ≤ cur.size := by
      have : (len + n) * sz ≤ cap * sz := Nat.mul_le_mul_right _ hfit
      rw [Nat.add_mul] at this
      simp; omega
    have hone : ∀ v ∈ cells.toList, v.oneCell' = true := fun v hv => by
      obtain ⟨i, hi, rfl⟩ := List.getElem_of_mem hv
      have hi' : i < new.length := by simp at hi; omega
      have := c3 i new[i] (List.getElem?_eq_getElem hi')
      have hi2 : i < cells.size := by simpa using hi
      rw [Array.getElem?_eq_getElem hi2] at this
      exact one_cell (by simpa using this) (h1 _ (List.getElem_mem _))
    have hrun := run_storeCells_at (P := P) b (len * sz) ty' cells.toList 0 cur w g1 hroom hone
    let cur' := (cur.toList.take (len * sz + 0) ++ cells.toList ++ cur.toList.drop (len * sz + 0 + cells.toList.length)).toArray
    have hsz' : cur'.size = cur.size := by simp [cur']; simp at hroom; omega
    obtain ⟨k1, k2⟩ := hσ.write ho hbm g1 cur' (.cells cs) hsz' (fun w' hs hw => ⟨cur', ty', hw, by omega, fun i c hc => by
      have hic : i < len * sz := by have := (List.getElem?_eq_some_iff.1 hc).1; omega
      have : cur'[i]? = cur[i]? := by
        simp only [cur', List.getElem?_toArray, List.append_assoc]
        rw [List.getElem?_append_left (by simp; omega), List.getElem?_take_of_lt (by omega)]; simp
      rw [this]; exact (g3 i c hc).step hs⟩)
    have ho2 : Heap.get ((o, AObj.cells cs) :: σ) o = .cells cs := by rw [Heap.get_cons, if_pos rfl]
    have hself : (w.setRow b cur').heap[b]? = some (.cells cur' ty' (0, 0)) := setRow_heap w b cur cur' ty' _ g1
    have hst2 := (k2.renew hnew ho2 (by simp) hbm .dead trivial).1
    obtain ⟨j1, j2⟩ := k2.renew hnew ho2 (by simp) hbm (.cells (cs ++ new)) ⟨cur', ty', hself, by rw [List.length_append, hnl, hsz']; simp at hroom; omega, fun i c hc => by
      by_cases hic : i < cs.length
      · rw [List.getElem?_append_left hic] at hc
        have : cur'[i]? = cur[i]? := by
          simp only [cur', List.getElem?_toArray, List.append_assoc]
          rw [List.getElem?_append_left (by simp; omega), List.getElem?_take_of_lt (by omega)]; simp
        rw [this]
        exact ((g3 i c hc).step k1).step hst2
      · rw [List.getElem?_append_right (by omega)] at hc
        have hin := (List.getElem?_eq_some_iff.1 hc).1
        have : cur'[i]? = cells[i - cs.length]? := by
          simp only [cur', List.getElem?_toArray, List.append_assoc]
          rw [List.getElem?_append_right (by simp; omega), List.getElem?_append_left (by simp; omega)]
          simp only [List.length_take, Array.length_toList, Array.getElem?_toList]
          congr 1; omega
        rw [this]
        exact ((c3 _ c hc).step k1).step hst2⟩
    have j2' : SimH F (μ.put nid b) ([(nid, .cells (cs ++ new)), (o, .dead)] ++ σ) (w.setRow b cur') := j2.congr fun i => by
      simp only [List.cons_append, List.nil_append, Heap.get_cons]
      split
      · rfl
      · split
        · rfl
        · rfl
    refine ⟨_, _, .slice (some ⟨b, 0, none⟩) (len + n) cap, _, _, _, hK, ?_, k1.trans j1, j2', .msl _ _ _ _ _ _ _ ty' cur'.size (Num.put_self _ _ _) (.inr rfl) (by simp [World.shape?, hself]) (by rw [hsz']; omega) hfit hcm, fun i hi => if_neg hi⟩
    have hadd : (⟨b, 0, none⟩ : Addr).add (len * sz) = ⟨b, len * sz, none⟩ := by rw [add_none]; simp
    rw [hfits hfit, hadd, hrun]; rfl
  · have ha' : RV F μ w (.slice (some ⟨b, off', none⟩) len cap) (.msl o sz 0 len) := .msl _ _ _ _ _ _ _ t' n' hbm hcap hsh hbd hlc hcm
    have hA : ∃ cells : Array Value, (∀ w', Same w w' → (Builtin.firstCells sz len (.slice (some ⟨b, off', none⟩) len cap)).run P w' = .ok cells w') ∧ cells.size = len * sz ∧ ∀ (i : Nat) c, cs[i]? = some c → RV F μ w (cells[i]?.getD undef) c := by
      obtain ⟨n', new', hk, hl', hnl', hf⟩ := srcK_sound (P := P) (Kn := fun n new => n = len ∧ new = cs) (s := sz) h0 hσ ha' ⟨rfl, by rw [ho]; exact ⟨by omega, rfl, by rw [List.drop_zero, List.take_of_length_le (by omega)]⟩⟩
      obtain ⟨rfl, rfl⟩ := hk
      have := hf _ (Nat.le_refl _)
      rw [List.take_of_length_le (by omega)] at this
      exact this
    exact append_realloc_of (e := e) (zv := zv) hσ hnew hzs hlc hsm hA (by omega) c2 c3 hnl (fun ca hca => hgrow (by omega) ca hca) _ (fun {F' μ' w'} h => by
      exact h.less_one) hK
theorem growR_sound {t xt ty : TypeId} {a x : AV} {va vx : Value} (hσ : SimH F μ σ w) (hnew : μ nid = none) (ha : RV F μ w va a) (hx : RV F μ w vx x) (hti : tIsInt P xt = true) (h : growR P t a x σ nid K) :
    WOut P F μ σ w nid K (Builtin.append_ #[t, xt] ty #[va, vx]) := by
  unfold growR at h
  split at h
  · rename_i o sz i len k n s g z bt hE hz hb
    split at h
    · rename_i sz' l ho
      obtain ⟨⟨⟨h1, h2, h3, h4, h5⟩, rfl, e1, e2, e3, e4, h9, h10⟩, hK⟩ := h
      subst e2
      subst e1
      subst e3
      subst e4
      obtain ⟨e, hu, hs, hze⟩ := tEZ_spec hE hz
      obtain ⟨ti, hi, hib⟩ := tB_spec hu hb
      obtain ⟨zv, hzv, hzs, hzr⟩ := run_zeroValue hze w
      have hok := row_of hσ ho
      have hxv : vx = .int .i64 n := by cases hx with | p h => cases h; rfl
      subst hxv
      obtain ⟨N, hN⟩ : ∃ N : Nat, n = N := ⟨n.toNat, by omega⟩
      subst hN
      have hsz : zv.cells.size = sz := hzs.trans h3
      have hzz := zerosOf_spec (F := F) (μ := μ) (w := w) (n := N) hzs h3 h4 (fun F i p hp => hzr F i p hp) N (Nat.le_refl _)
      cases ha with
      | rsl _ _ _ _ _ ha =>
      cases ha with
      | msl _ _ _ off' _ cap b t' n' hbm hcap hsh hbd hlc hcm =>
      have hcap' : cap = 0 ∨ off' = 0 := by rcases hcap with h' | h' <;> omega
      have hzf := fun (hf : l.length + N ≤ cap) => run_append_zfits (ty := ty) (base := some ⟨b, off', none⟩) hu hs hti (by omega) hf hi (by omega) hzv w
      by_cases hN0 : N = 0
      · subst hN0
        have hobj := hσ.obj o b hbm
        rw [ho] at hobj
        have hd : σ.get o ≠ .dead := by rw [ho]; simp
        have hst := (hσ.renew hnew rfl hd hbm .dead trivial).1
        obtain ⟨k1, k2⟩ := hσ.renew hnew rfl hd hbm (.row sz (l ++ [])) (by rw [List.append_nil]; exact hobj.step hst rfl fun c hc => ⟨hc, rfl⟩)
        refine ⟨_, _, .slice (some ⟨b, off', none⟩) (l.length + 0) cap, w, F, _, hK, ?_, k1, k2, .rsl _ _ _ _ _ (.msl _ _ _ _ _ _ _ t' n' (Num.put_self _ _ _) ?_ hsh hbd hlc hcm), fun o ho => if_neg ho⟩
        · rw [hzf (by omega)]
          simp [storeCells]
        · rcases hcap with h' | h'
          · exact .inl h'
          · exact .inr h'
      · have hns0 : 0 < N * sz := Nat.mul_pos (show 0 < N by omega) h4
        have hns : ¬ N * sz = 0 := by omega
        refine WOut.lift hσ (append_whole (e := e) (zv := zv) (o := o) (sz := sz) (n := N) (cs := rowC l) (new := zerosOf z N) (cells := Builtin.zeroCells zv.cells N) hσ.un hnew (by rw [un_get ho]; rfl) h4 (rowC_len h4 hok).symm (by omega) ?_ (by omega) hbm hcap' hsh (by omega) hlc hcm hsz (by simp [Builtin.zeroCells, hsz]) ?_ hzz.1 ?_ ?_ ⟨_, _, hK, Imp.rsl' (by omega), ?_, fun y hy => ?_⟩)
        · intro c hc
          rw [rowC_replicate z g N _ h2] at hc
          exact ones_of (okRow_rep h1 N) c hc
        · intro j c hc
          have := hzz.2 j c hc
          simpa [Builtin.zeroCells, hsz] using this
        · intro hf
          rw [hzf hf, if_neg hns]
        · intro hgt ca hca
          have hbig : ¬ Builtin.nextslicecap (l.length + N) cap * ti.bytes > 2 ^ 48 := by
            have k1 := nextslicecap_le (need := l.length + N) (old := cap) (by omega)
            have k2 : Builtin.nextslicecap (l.length + N) cap * ti.bytes ≤ (2 * 1000000000) * 100000 := Nat.mul_le_mul (by omega) (by omega)
            omega
          exact run_append_zeros hu hs hti (by omega) (by omega) (by omega) hi (by omega) (by omega) (by simpa using hbig) hzv w hca
        · simp only [unH, List.map_cons, List.map_nil, unO, rowC_append, Int.toNat_natCast]
          rw [rowC_replicate z g _ _ h2]
        · simp at hy
          rcases hy with rfl | rfl
          · exact hok.append (okRow_rep h1 _)
          · trivial
    · exact h.elim
  · exact h.elim
theorem growA_sound {t xt ty : TypeId} {a x : AV} {va vx : Value} (hσ : SimH F μ σ w) (hnew : μ nid = none) (ha : RV F μ w va a) (hx : RV F μ w vx x) (hti : tIsInt P xt = true) (h : growA P t a x σ nid K) :
    WOut P F μ σ w nid K (Builtin.append_ #[t, xt] ty #[va, vx]) := by
  unfold growA at h
  split at h
  · exact growR_sound hσ hnew ha hx hti h
  · exact growK_sound hσ hnew ha hx hti h
theorem freeze_heap (w : World) (b n : Nat) (cur : Array Value) (t : TypeId) (h : w.heap[b]? = some (.cells cur t (0, 0))) :
    (w.freeze ⟨b, n, none⟩ 1).heap[b]? = some (.cells cur t (n, n + 1)) ∧ (∀ k, k ≠ b → (w.freeze ⟨b, n, none⟩ 1).heap[k]? = w.heap[k]?) ∧ (w.freeze ⟨b, n, none⟩ 1).heap.size = w.heap.size := by
  unfold World.freeze
  rw [if_neg (by decide)]
  refine ⟨?_, fun k hk => ?_, by simp⟩
  · simp only [Array.getElem?_modify, if_true, h, Option.map_some]; rfl
  · simp only [Array.getElem?_modify, if_neg (Ne.symm hk)]
theorem byteK_sound {s d : TypeId} {o sz i len : Nat} {v : Value} (hσ : SimH F μ σ w) (hx : RV F μ w v (.rsl o sz i len)) (h : byteK P s d o sz i len σ K) : WOut P F μ σ w nid K (convert s d v) := by
  unfold byteK at h
  split at h
  · rename_i sz' l hd ho
    obtain ⟨⟨rfl, rfl, rfl, hil⟩, q, hq, hK⟩ := h
    have hq := u8s_spec hq
    obtain ⟨e, hu, he⟩ := tC_bytes hd
    cases hx with
    | rsl _ _ _ _ _ hx =>
    cases hx with
    | msl _ _ _ off' _ cap b t n hbm hcap hsh hbd hlc hcm =>
    have hnd : σ.get o ≠ .dead := by rw [ho]; simp
    have hnF : ¬ F b := hσ.live o b hnd hbm
    have hobj := hσ.obj o b hbm
    rw [ho] at hobj
    obtain ⟨hok, cur, ty, h1, h2, h3⟩ := hobj
    obtain ⟨f1, f2, f3⟩ := freeze_heap w b cur.size cur ty h1
    have hcs : n = cur.size ∧ t = ty := by simp [World.shape?, h1] at hsh; exact ⟨hsh.2.symm, hsh.1.symm⟩
    let w' := w.freeze ⟨b, cur.size, none⟩ 1
    let F' : Nat → Prop := fun k => F k ∨ k = b
    have hst : Step F μ w F' μ w' := by
      refine ⟨by show (World.freeze _ _ _).os = _; unfold World.freeze; split <;> rfl, by show (World.freeze _ _ _).tape = _; unfold World.freeze; split <;> rfl, by show (World.freeze _ _ _).output = _; unfold World.freeze; split <;> rfl, by show _ ≤ w'.heap.size; rw [f3]; exact Nat.le_refl _, fun k hk => f2 k (fun e => hnF (e ▸ hk)), fun k _ hk => f2 k (fun e => hk (e ▸ .inl ⟨o, hbm⟩)), fun k x hx => ?_, fun _ h => .inl h, fun k hk => ?_, fun _ _ h => h, fun _ h => .inl h⟩
      · by_cases hk : k = b
        · subst hk
          simp only [World.shape?, h1] at hx
          show World.shape? w' k = _
          simp only [World.shape?, show w'.heap[k]? = _ from f1]; exact hx
        · simp only [World.shape?, show w'.heap[k]? = _ from f2 k hk] at hx ⊢; exact hx
      · rcases hk with hk | hk
        · exact .inl hk
        · exact .inr (.inl (hk ▸ .inl ⟨o, hbm⟩))
    have hsim : SimH F' μ ((o, .dead) :: σ) w' := by
      have nd : ∀ j, Heap.get ((o, .dead) :: σ) j ≠ .dead → j ≠ o ∧ σ.get j ≠ .dead := fun j hj => by
        rw [Heap.get_cons] at hj
        split at hj
        · exact absurd rfl hj
        · rename_i e; exact ⟨fun e' => e e'.symm, hj⟩
      refine ⟨fun k hk => ?_, fun k hk => by rw [show w'.heap.size = _ from f3]; exact hσ.mb k hk, fun j hj => hσ.has j (nd j hj).2, fun j k hjk => ?_, fun j k hj hjk hF => ?_, fun j1 j2 k a1 a2 b1 b2 => hσ.inj j1 j2 k (nd j1 a1).2 (nd j2 a2).2 b1 b2, fun c m hc => ⟨fun hf => hf.elim (hσ.hd c m hc).1 fun e => (hσ.hd c m hc).2 o hnd (e ▸ hbm), fun j hj => (hσ.hd c m hc).2 j (nd j hj).2⟩, hσ.hu⟩
      · rw [show w'.heap.size = _ from f3]
        rcases hk with hk | hk
        · exact hσ.fb k hk
        · subst hk; exact hσ.mb k (.inl ⟨o, hbm⟩)
      · rcases Classical.em (Heap.get ((o, .dead) :: σ) j = .dead) with e | e
        · rw [e]; trivial
        · obtain ⟨e1, e2⟩ := nd j e
          have e3 : Heap.get ((o, .dead) :: σ) j = σ.get j := by rw [Heap.get_cons, if_neg (fun x => e1 x.symm)]
          rw [e3]
          have hkb : k ≠ b := fun x => e1 (hσ.inj j o b e2 hnd (x ▸ hjk) hbm)
          exact (hσ.obj j k hjk).step hst (f2 k hkb) fun c hc => ⟨hc, f2 c fun e => (hσ.hd c k hc).2 o hnd (e ▸ hbm)⟩
      · obtain ⟨e1, e2⟩ := nd j hj
        rcases hF with hF | hF
        · exact hσ.live j k e2 hjk hF
        · exact e1 (hσ.inj j o b e2 hnd (hF ▸ hjk) hbm)
    have hlq : q.length = len := by
      have := congrArg List.length hq
      rw [List.length_take, List.length_drop, List.length_map] at this; omega
    have hcell : ∀ j (x : Int), q[j]? = some x → cur[i + j]? = some (.int .u8 x) := fun j x hx => by
      have hj : j < len := by have := (List.getElem?_eq_some_iff.1 hx).1; omega
      have e1 : l[i + j]? = some (.int .u8 x) := by
        have := congrArg (fun z => z[j]?) hq
        simp only [List.getElem?_take_of_lt hj, List.getElem?_drop, List.getElem?_map, hx, Option.map_some] at this
        exact this
      have e2 : (rowC l)[i + j]? = some (.p (.int .u8 x)) := by
        have h9 := rowC_getE (sz := 1) (by decide) (l := l) hok e1 (j := 0) (by decide)
        rw [Nat.mul_one, Nat.add_zero] at h9
        rw [h9]; rfl
      have e3 := h3 _ _ e2
      have e4 : i + j < cur.size := by have := (List.getElem?_eq_some_iff.1 e2).1; omega
      rw [Array.getElem?_eq_getElem e4] at e3 ⊢
      have e5 : ∀ u : Value, RV F μ w u (.p (.int .u8 x)) → u = .int .u8 x := fun u hu => by
        cases hu with
        | p e6 => cases e6; rfl
      exact congrArg some (e5 _ e3)
    refine ⟨_, _, .slice (some ⟨b, off', none⟩) len cap, w', F', μ, hK, ?_, hst, hsim, .p ?_, fun _ _ => rfl⟩
    · have hsh2 : w.shape? b = some (ty, cur.size) := by simp [World.shape?, h1]
      simp [convert, underlying, hu, he, markStringish, hsh2, w']
    · have hoff : len = 0 ∨ off' = i := by
        rcases hcap with h' | h'
        · left; omega
        · right; omega
      rcases hoff with h0 | h0
      · subst h0
        have : q = [] := List.length_eq_zero_iff.1 hlq
        subst this
        exact .esl _ cap 1 false hcm (by simp) (by simp)
      · subst h0
        refine .sl b off' len cap 1 false _ (fun k _ => .int .u8 (q.getD k 0)) (.inr rfl) (by rw [List.length_map, hlq]) hlc hcm (by simp) ?_ ?_ ?_
        · intro k p hp
          simp only [List.getElem?_map, Option.map_eq_some_iff] at hp
          obtain ⟨u, _, rfl⟩ := hp; exact ⟨rfl, fun c hc => by simp [PV.cells] at hc; subst hc; rfl⟩
        · intro k p j r hp hr
          simp only [List.getElem?_map, Option.map_eq_some_iff] at hp
          obtain ⟨u, hu', rfl⟩ := hp
          have hj : j = 0 := by
            have := (List.getElem?_eq_some_iff.1 hr).1; simp [PV.cells] at this; exact this
          subst hj
          rw [cell_row (show w'.heap[b]? = _ from f1)]
          have : q.getD k 0 = u := by simp [List.getD, hu']
          rw [this, Nat.mul_one, Nat.add_zero]
          exact hcell k u hu'
        · intro k p j r hp hr
          simp only [List.getElem?_map, Option.map_eq_some_iff] at hp
          obtain ⟨u, hu', rfl⟩ := hp
          have hj : j = 0 := by
            have := (List.getElem?_eq_some_iff.1 hr).1; simp [PV.cells] at this; exact this
          subst hj
          simp [PV.cells] at hr
          subst hr
          have : q.getD k 0 = u := by simp [List.getD, hu']
          rw [this]
          exact .int _ _
  · exact h.elim
theorem emptyK_sound {t xt ty : TypeId} {x : AV} {va vx : Value} {o sz i len cap : Nat} (hσ : SimH F μ σ w) (ha : RV F μ w va (.csl o sz i len cap)) (hx : RV F μ w vx x) (h : emptyK P t xt x (K (.csl o sz i len cap) [])) :
    WOut P F μ σ w nid K (Builtin.append_ #[t, xt] ty #[va, vx]) := by
  unfold emptyK at h
  split at h
  · rename_i sz2 c
    obtain ⟨⟨h1, h2⟩, hK⟩ := h
    obtain ⟨⟨s, g⟩, hE⟩ := Option.isSome_iff_exists.1 h2
    obtain ⟨e, hu, hs⟩ := tE_spec hE
    have ha' := ha
    cases ha with
    | csl _ _ _ _ _ base hr =>
    have hlc : len ≤ cap := by
      cases hr with
      | rsl _ _ _ _ _ hr => cases hr with
        | msl _ _ _ _ _ _ _ _ _ _ _ _ _ h5 _ => exact h5
    have hvx : ∃ b c2, vx = .slice b 0 c2 := by
      cases hx with
      | p h => cases h with
        | esl a cap sz clip => exact ⟨_, _, rfl⟩
        | sl b off len cap sz clip l cv hb hl => simp at hl; subst hl; exact ⟨_, _, rfl⟩
    obtain ⟨b, c2, rfl⟩ := hvx
    have hfc : (Builtin.firstCells s 0 (.slice b 0 c2)).run P w = .ok #[] w := by cases b <;> simp [Builtin.firstCells, loadCells, loadCellsFrom]
    refine ⟨_, [], .slice base (len + 0) cap, w, F, μ, hK, ?_, .refl _ _ _, hσ, ha', fun _ _ => rfl⟩
    rw [run_append_fits hu hs h1 (n := 0) (fun _ => rfl) (by omega), hfc]
    cases base <;> simp [storeCells]
  · exact h.elim
theorem emptyLitK_sound {t : TypeId} (hσ : SimH F μ σ w) (hnew : μ nid = none) (h : emptyLitK P t nid K) : WOut P F μ σ w nid K (Instr.buildSlice t 0 #[]) := by
  unfold emptyLitK at h
  split at h
  · rename_i s g z hE hz
    obtain ⟨⟨h1, h2⟩, hK⟩ := h
    obtain ⟨e, hu, hs⟩ := tE_spec hE
    have hr : rowBuildSlice P t 0 [] nid (fun v us => v = .rsl nid s 0 0 ∧ us = [(nid, .row s [])]) := by
      simp only [rowBuildSlice, pureParts, hE, hz, List.length_nil, decide_true]
      exact ⟨⟨h1, h2, by simp, by simp⟩, trivial, trivial⟩
    obtain ⟨av, us, v, w', F', μ', ⟨rfl, rfl⟩, k2, k3, k4, k5, k6⟩ := rowBuildSlice_sound (P := P) (vs := []) hσ hnew rfl (by simp) hr
    have hv : ∃ base, v = .slice base 0 0 := by
      have r0 : ∀ f : Nat → Value, (Array.range (0 * s)).map f = #[] := fun f => by rw [Nat.zero_mul]; apply Array.ext'; simp
      simp only [Instr.buildSlice, underlying, Sem.run_bind, run_program, Result.andThen_ok, hu, Sem.run_pure, run_sizeOf hs, Nat.zero_mul, r0] at k2
      simp [newRow, Instr.fill] at k2
      exact ⟨_, k2.1.symm⟩
    obtain ⟨base, rfl⟩ := hv
    exact ⟨_, _, _, w', F', μ', hK, k2, k3, k4, .csl _ _ _ _ _ _ k5, k6⟩
  · exact h.elim
theorem storeZ_sound {t : TypeId} {a x : AV} {va vx : Value} (hσ : SimH F μ σ w) (ha : RV F μ w va a) (hx : RV F μ w vx x) (h : storeZ P t a x σ K) :
    ∃ us w' F', K undefA us ∧ (Instr.storeAt t va vx).run P w = .ok () w' ∧ Step F μ w F' μ w' ∧ SimH F' μ (us ++ σ) w' := by
  unfold storeZ at h
  obtain ⟨p, Z, h1, _, h3, h4⟩ := (fz_both 60).1 x [] _ (by simp [liveZ]) h
  obtain ⟨hst, hk⟩ := hσ.kill Z
  have hp := h4 F μ w vx (fun o b _ _ hm => hσ.obj o b hm) hx
  obtain ⟨us, w', g1, g2, g3, g4⟩ := rowStore_sound (P := P) hk (ha.step hst) (.p hp) h1
  exact ⟨us ++ deadZ Z, w', _, g1, g2, hst.trans g3, by rw [List.append_assoc]; exact g4⟩
theorem yStore_sound {t : TypeId} {a x : AV} {va vx : Value} (hσ : SimH F μ σ w) (ha : RV F μ w va a) (hx : RV F μ w vx x) (h : yStore P t a x σ K) :
    ∃ us w' F', K undefA us ∧ (Instr.storeAt t va vx).run P w = .ok () w' ∧ Step F μ w F' μ w' ∧ SimH F' μ (us ++ σ) w' := by
  unfold yStore at h
  split at h
  · exact storeZ_sound hσ ha hx h
  · obtain ⟨us, w', g1, g2, g3, g4⟩ := rowStore_sound (P := P) hσ ha hx h
    exact ⟨us, w', F, g1, g2, g3, g4⟩
theorem SimH.pad (hσ : SimH F μ σ w) {o b : Nat} {cs : List AV} (ho : σ.get o = .cells cs) (hb : μ o = some b) : ∃ cur t k, w.heap[b]? = some (.cells cur t (0, 0)) ∧ cs.length + k = cur.size ∧ SimH F μ ((o, .cells (cs ++ List.replicate k .any)) :: σ) w := by
  obtain ⟨cur, t, g1, g2, g3⟩ := hσ.cells ho hb
  refine ⟨cur, t, cur.size - cs.length, g1, by omega, hσ.fb, hσ.mb, fun i hi => ?_, fun i bi hm => ?_, fun i bi hi => ?_, fun i j bb hi hj => ?_, fun c m hc => ⟨(hσ.hd c m hc).1, fun i hi => ?_⟩, hσ.hu⟩
  · rcases get_upd (o := o) (x := .cells (cs ++ List.replicate (cur.size - cs.length) .any)) (σ := σ) i with ⟨e, _⟩ | ⟨_, e⟩
    · subst e; exact hσ.has i (by rw [ho]; simp)
    · rw [e] at hi; exact hσ.has i hi
  · rcases get_upd (o := o) (x := .cells (cs ++ List.replicate (cur.size - cs.length) .any)) (σ := σ) i with ⟨e, e2⟩ | ⟨_, e⟩
    · rw [e2]
      rw [e, hb] at hm; injection hm with hm; subst hm
      refine ⟨cur, t, g1, by simp; omega, fun j c hc => ?_⟩
      rw [List.getElem?_append] at hc
      split at hc
      · exact g3 j c hc
      · have := List.mem_of_getElem? hc
        rw [List.mem_replicate] at this
        rw [this.2]; exact .any _
    · rw [e]; exact hσ.obj i bi hm
  · rcases get_upd (o := o) (x := .cells (cs ++ List.replicate (cur.size - cs.length) .any)) (σ := σ) i with ⟨e, _⟩ | ⟨_, e⟩
    · subst e; exact hσ.live i bi (by rw [ho]; simp)
    · rw [e] at hi; exact hσ.live i bi hi
  · have nd : ∀ i, Heap.get ((o, .cells (cs ++ List.replicate (cur.size - cs.length) .any)) :: σ) i ≠ .dead → σ.get i ≠ .dead := fun i hi => by
      rcases get_upd (o := o) (x := .cells (cs ++ List.replicate (cur.size - cs.length) .any)) (σ := σ) i with ⟨e, _⟩ | ⟨_, e⟩
      · subst e; rw [ho]; simp
      · rw [e] at hi; exact hi
    exact hσ.inj i j bb (nd i hi) (nd j hj)
  · refine (hσ.hd c m hc).2 i ?_
    rcases get_upd (o := o) (x := .cells (cs ++ List.replicate (cur.size - cs.length) .any)) (σ := σ) i with ⟨e, _⟩ | ⟨_, e⟩
    · subst e; rw [ho]; simp
    · rw [e] at hi; exact hi
theorem SimH.reread {o : Nat} {x y : AObj} (hσ : SimH F μ ((o, x) :: σ) w) (hx : x ≠ .dead) (h : ∀ b, RO F μ w b x → RO F μ w b y) : SimH F μ ((o, y) :: σ) w := by
  have hd : ∀ i, Heap.get ((o, y) :: σ) i ≠ .dead → Heap.get ((o, x) :: σ) i ≠ .dead := fun i hi => by
    rcases get_upd (o := o) (x := x) (σ := σ) i with ⟨e, e2⟩ | ⟨e1, e⟩
    · rw [e2]; exact hx
    · rw [e]
      rcases get_upd (o := o) (x := y) (σ := σ) i with ⟨e3, _⟩ | ⟨_, e3⟩
      · exact absurd e3 e1
      · rw [e3] at hi; exact hi
  refine ⟨hσ.fb, hσ.mb, fun i hi => hσ.has i (hd i hi), fun i b hm => ?_, fun i b hi => hσ.live i b (hd i hi), fun i j b hi hj => hσ.inj i j b (hd i hi) (hd j hj), fun c m hc => ⟨(hσ.hd c m hc).1, fun i hi => (hσ.hd c m hc).2 i (hd i hi)⟩, hσ.hu⟩
  have h1 := hσ.obj i b hm
  rcases get_upd (o := o) (x := x) (σ := σ) i with ⟨e, e2⟩ | ⟨e1, e⟩
  · rw [e2] at h1
    rcases get_upd (o := o) (x := y) (σ := σ) i with ⟨_, e3⟩ | ⟨e4, _⟩
    · rw [e3]; exact h b h1
    · exact absurd e e4
  · rw [e] at h1
    rcases get_upd (o := o) (x := y) (σ := σ) i with ⟨e4, _⟩ | ⟨_, e3⟩
    · exact absurd e4 e1
    · rw [e3]; exact h1
theorem selfCopy_sound {t xt ty : TypeId} {o sz i len sz2 i2 n : Nat} {va vx : Value} (hσ : SimH F μ σ w) (ha : RV F μ w va (.rsl o sz i len)) (hx : RV F μ w vx (.rsl o sz2 i2 n)) (h : selfCopy P t o sz i len sz2 i2 n σ K) :
    WOut P F μ σ w nid K (Builtin.copy_ #[t, xt] ty #[va, vx]) := by
  unfold selfCopy at h
  split at h
  · rename_i s g sz' l hE ho
    obtain ⟨⟨⟨q1, q2, q3, h0⟩, hi, hi2⟩, hK⟩ := h
    subst q1; have q2 := q2.symm; have q3 := q3.symm; subst q2; subst q3
    have hok := row_of hσ ho
    have hlen := rowC_len h0 hok
    cases ha with
    | rsl _ _ _ _ _ ha =>
    cases hx with
    | rsl _ _ _ _ _ hx =>
    have hσu := hσ.un
    have hou : (unH σ).get o = .cells (rowC l) := by rw [un_get ho]; rfl
    obtain ⟨b, hb⟩ := hσ.has o (by rw [ho]; simp)
    obtain ⟨cur, tt, k, hcur, hk, hpad⟩ := hσu.pad hou hb
    have room : ∀ {i len : Nat} {v : Value}, RV F μ w v (.msl o sz (i * sz) len) → i * sz + len * sz ≤ cur.size := by
      intro i len v hv
      cases hv with
      | msl _ _ _ off' _ cap b' t' n' hb' hc hsh hbd hlc hcm =>
      rw [hb] at hb'; injection hb' with hb'; subst hb'
      have : n' = cur.size := by simp [World.shape?, hcur] at hsh; exact hsh.2.symm
      have := Nat.mul_le_mul_right sz hlc
      omega
    have r1 := room ha
    have r2 := room hx
    have hcs : (rowC l ++ List.replicate k AV.any).length = cur.size := by simp; omega
    have hmn : min n len ≤ n := Nat.min_le_left _ _
    have hcopy := copyK_sound (P := P) (xt := xt) (ty := ty) (nid := nid) (K := fun av us => av = .p (.int .i64 (min n len : Nat)) ∧ us = [(o, .cells (setAtL (rowC l ++ List.replicate k AV.any) (i * sz) ((((rowC l ++ List.replicate k AV.any).drop (i2 * sz)).take (n * sz)).take (min n len * sz))))]) hpad ha hx (t := t) (by
      simp only [copyK, hE, srcK, Heap.get, if_true]
      refine ⟨h0, trivial, by rw [hcs]; exact r2, ⟨trivial, by rw [hcs]; exact r1, fun c hc => ?_⟩, ⟨trivial, trivial⟩⟩
      rw [List.take_take, Nat.min_eq_left (Nat.mul_le_mul_right _ hmn), List.drop_append, List.take_append] at hc
      have hl2 : min n len * sz ≤ (List.drop (i2 * sz) (rowC l)).length := by
        rw [List.length_drop, hlen]
        have := Nat.mul_le_mul_right sz hi2
        rw [Nat.add_mul] at this; omega
      rw [show min n len * sz - (List.drop (i2 * sz) (rowC l)).length = 0 by omega, List.take_zero, List.append_nil] at hc
      exact ones_of hok c (List.mem_of_mem_drop (List.mem_of_mem_take hc)))
    obtain ⟨av, us, v, w', F', μ', ⟨rfl, rfl⟩, g2, g3, g4, g5, g6⟩ := hcopy
    refine ⟨_, _, v, w', F', μ', hK, g2, g3, ?_, g5, g6⟩
    have hnew : ((rowC l ++ List.replicate k AV.any).drop (i2 * sz)).take (min n len * sz) = rowC ((l.drop i2).take (min n len)) := by
      rw [List.drop_append, List.take_append]
      have hl2 : min n len * sz ≤ (List.drop (i2 * sz) (rowC l)).length := by
        rw [List.length_drop, hlen]
        have := Nat.mul_le_mul_right sz hi2
        rw [Nat.add_mul] at this; omega
      rw [show min n len * sz - (List.drop (i2 * sz) (rowC l)).length = 0 by omega, List.take_zero, List.append_nil]
      exact rowC_mid h0 hok i2 _
    have hnl : ((l.drop i2).take (min n len)).length = min n len := by simp; omega
    have hokn : okRow sz ((l.drop i2).take (min n len)) := (hok.drop _).take _
    have hcl : (rowC ((l.drop i2).take (min n len))).length = min n len * sz := by rw [rowC_len h0 hokn, hnl]
    have hsimp : (((rowC l ++ List.replicate k AV.any).drop (i2 * sz)).take (n * sz)).take (min n len * sz) = rowC ((l.drop i2).take (min n len)) := by
      rw [List.take_take, Nat.min_eq_left (Nat.mul_le_mul_right _ hmn), hnew]
    have hfit : i * sz + min n len * sz ≤ (rowC l ++ List.replicate k AV.any).length := by
      rw [hcs]
      have := Nat.mul_le_mul_right sz (Nat.min_le_right n len)
      omega
    have hset : setAtL (rowC l ++ List.replicate k AV.any) (i * sz) (rowC ((l.drop i2).take (min n len))) = rowC (l.take i ++ (l.drop i2).take (min n len) ++ l.drop (i + min n len)) ++ (List.replicate k AV.any).drop (i * sz + min n len * sz - (rowC l).length) := by
      rw [setAtL_eq _ _ _ (by rw [hcl]; exact hfit), rowC_append, rowC_append, List.take_append, hcl]
      have e1 : i * sz - (rowC l).length = 0 := by rw [hlen]; have := Nat.mul_le_mul_right sz hi; omega
      rw [e1, List.take_zero, List.append_nil, rowC_take h0 hok, List.drop_append, ← Nat.add_mul, rowC_drop h0 hok]
      simp [List.append_assoc]
    rw [hsimp, hset] at g4
    have hokr : okRow sz (l.take i ++ (l.drop i2).take (min n len) ++ l.drop (i + min n len)) := ((hok.take _).append hokn).append (hok.drop _)
    have g5' : SimH F' μ' ((o, .cells (rowC (l.take i ++ (l.drop i2).take (min n len) ++ l.drop (i + min n len)) ++ (List.replicate k AV.any).drop (i * sz + min n len * sz - (rowC l).length))) :: unH σ) w' := g4.congr fun j => by
      simp only [List.cons_append, List.nil_append, Heap.get]
      split
      · rfl
      · rename_i e; simp [e]
    have g6' : SimH F' μ' ((o, .cells (rowC (l.take i ++ (l.drop i2).take (min n len) ++ l.drop (i + min n len)))) :: unH σ) w' := g5'.reread (by simp) fun bb hro => by
      obtain ⟨cur', t', q1, q2, q3⟩ := hro
      refine ⟨cur', t', q1, by simp at q2 ⊢; omega, fun j c hc => q3 j c ?_⟩
      rw [List.getElem?_append_left (List.getElem?_eq_some_iff.1 hc).1]; exact hc
    exact hσ.re (us := [(o, .row sz (l.take i ++ (l.drop i2).take (min n len) ++ l.drop (i + min n len)))]) g6' (by
      intro x hx; obtain rfl := List.mem_singleton.1 hx; exact hokr)
  · exact h.elim
theorem clearK_sound {t ty : TypeId} {x : AV} {v : Value} (hσ : SimH F μ σ w) (hx : RV F μ w v x) (h : clearK P t x σ K) : WOut P F μ σ w nid K (Builtin.clear_ #[t] ty #[v]) := by
  unfold clearK at h
  split at h
  · rename_i o sz i len s g z hE hZ
    split at h
    · rename_i sz' l ho
      obtain ⟨⟨q1, q2, h0, hle, hok1, hzc⟩, hK⟩ := h
      subst q1; have q2 := q2.symm; subst q2
      obtain ⟨e, hu, hs⟩ := tE_spec hE
      have hok := row_of hσ ho
      have hlen := rowC_len h0 hok
      cases hx with
      | rsl _ _ _ _ _ hx =>
      cases hx with
      | msl _ _ _ off' _ cap b t' n' hb hcap hsh hbd hlc hcm =>
      have hZ' : tZ P e = some z := by
        unfold tEZ at hZ; rw [hu] at hZ; exact hZ
      obtain ⟨zv, hzv, hzs, hzr⟩ := run_zeroValue hZ' w
      rcases Nat.eq_zero_or_pos len with hl0 | hlp
      · subst hl0
        refine ⟨_, _, .tuple #[], w, F, μ, hK, ?_, .refl _ _ _, hσ.congr fun j => ?_, (.p (.tup _ _ rfl (by simp))), fun _ _ => rfl⟩
        · simp [Builtin.clear_, run_underlying hu]
        · simp only [List.cons_append, List.nil_append, Heap.get]
          split
          · rename_i e; subst e; rw [ho]; simp
          · rfl
      · have hoff : off' = i * sz := by rcases hcap with h' | h' <;> omega
        subst hoff
        have hσu := hσ.un
        have hou : (unH σ).get o = .cells (rowC l) := by rw [un_get ho]; rfl
        have hzl : z.length = sz := by rw [← hzc]; exact hok1.1
        have hokn : okRow sz (List.replicate len (elemZ g z)) := okRow_rep hok1 _
        have hcl : (rowC (List.replicate len (elemZ g z))).length = len * sz := by rw [rowC_len h0 hokn]; simp
        have hz2 : rowC (List.replicate len (elemZ g z)) = zerosOf z len := (rowC_replicate z g len (elemZ g z) hzc).symm
        have hzr' : ∀ F (i : Nat) p, z[i]? = some p → RP F w (zv.cells[i]?.getD undef) p := hzr
        have hzcell : (Builtin.zeroCells zv.cells len).toList.length = len * sz ∧ ∀ (j : Nat) c, (zerosOf z len)[j]? = some c → RV F μ w ((Builtin.zeroCells zv.cells len).toList[j]?.getD undef) c := by
          have hzz : zv.cells.size = sz := by rw [hzs]; exact hzl
          refine ⟨by simp [Builtin.zeroCells, hzz], fun j c hc => ?_⟩
          have := (zerosOf_spec (F := F) (μ := μ) (w := w) (n := len) hzs hzl h0 hzr' len (Nat.le_refl _)).2 j c hc
          simp only [Builtin.zeroCells, hzz] at this ⊢
          have e : ∀ (k : Nat), (Array.range k)[j]? = (List.range k)[j]? := fun k => by
            rw [← Array.getElem?_toList, Array.toList_range]
          simpa [e] using this
        obtain ⟨w', e1, e2, e3⟩ := write_cells (P := P) (off := i * sz) hσu hou hb (Builtin.zeroCells zv.cells len).toList (rowC (List.replicate len (elemZ g z))) (by rw [hcl]; exact hzcell.1) (by
          rw [hcl, hlen, ← Nat.add_mul]; exact Nat.mul_le_mul_right _ hle) (by rw [hz2]; exact hzcell.2) (fun c hc => ones_of hokn c hc)
        refine ⟨_, _, .tuple #[], w', F, μ, hK, ?_, e2, ?_, (.p (.tup _ _ rfl (by simp))), fun _ _ => rfl⟩
        · obtain ⟨m, rfl⟩ : ∃ m, len = m + 1 := ⟨len - 1, by omega⟩
          simp [Builtin.clear_, run_underlying hu, hzv, e1 _ rfl]
        · rw [rowC_splice h0 hok hokn i (by simp; omega)] at e3
          simp only [List.length_replicate] at e3
          exact hσ.re (us := [(o, .row sz (l.take i ++ List.replicate len (elemZ g z) ++ l.drop (i + len)))]) e3 (by
            intro x hx; obtain rfl := List.mem_singleton.1 hx
            exact ((hok.take _).append hokn).append (hok.drop _))
    · exact h.elim
  · exact h.elim
end
end Go.Sg
namespace Go.Sg
open Go
section
variable {P : Program} {F : Nat → Prop} {μ : Num} {σ : Heap} {w : World} {nid : Nat} {K : AV → Heap → Prop}
theorem SimH.setMap (h : SimH F μ σ w) {o b : Nat} {es : Array MapEntry} {clock : Nat} {x : AObj} (ho : σ.get o = x) (hx : x ≠ .dead) (hb : μ o = some b) (hg : w.heap[b]? = some (.map es clock))
    (es' : Array MapEntry) (clock' : Nat) (o' : AObj) (hro : ∀ w', Step F μ w F μ w' → w'.heap[b]? = some (.map es' clock') → RO F μ w' b o') :
    Step F μ w F μ { w with heap := w.heap.setIfInBounds b (.map es' clock') } ∧ SimH F μ ((o, o') :: σ) { w with heap := w.heap.setIfInBounds b (.map es' clock') } := by
  have hnd : σ.get o ≠ .dead := by rw [ho]; exact hx
  have hnF : ¬ F b := h.live o b hnd hb
  have hlt := lt_get hg
  have hother : ∀ k, k ≠ b → (w.heap.setIfInBounds b (.map es' clock'))[k]? = w.heap[k]? := fun k hk => by
    rw [Array.getElem?_setIfInBounds]; simp [Ne.symm hk]
  have hself : (w.heap.setIfInBounds b (.map es' clock'))[b]? = some (.map es' clock') := by
    rw [Array.getElem?_setIfInBounds]; simp [hlt]
  have hst : Step F μ w F μ { w with heap := w.heap.setIfInBounds b (.map es' clock') } := by
    refine ⟨rfl, rfl, rfl, by simp, fun k hk => hother k (fun e => hnF (e ▸ hk)), fun k _ hk => hother k (fun e => hk (e ▸ .inl ⟨o, hb⟩)), fun k x hx => ?_, fun _ h => h, fun _ h => .inl h, fun _ _ h => h, fun _ h => .inl h⟩
    by_cases hk : k = b
    · subst hk; simp [World.shape?, hg] at hx
    · simp only [World.shape?, hother k hk] at hx ⊢; exact hx
  have nd : ∀ i, Heap.get ((o, o') :: σ) i ≠ .dead → σ.get i ≠ .dead := fun i hi => by
    rcases get_upd (o := o) (x := o') (σ := σ) i with ⟨e, _⟩ | ⟨_, e⟩
    · rw [e]; exact hnd
    · rw [e] at hi; exact hi
  refine ⟨hst, ⟨fun k hk => by simpa using h.fb k hk, fun k hk => by simpa using h.mb k hk, fun i hi => h.has i (nd i hi), ?_, fun i bi hi => h.live i bi (nd i hi), fun i j bb hi hj => h.inj i j bb (nd i hi) (nd j hj), fun c m hc => ⟨(h.hd c m hc).1, fun i hi => (h.hd c m hc).2 i (nd i hi)⟩, h.hu⟩⟩
  intro i bi hbi
  rcases get_upd (o := o) (x := o') (σ := σ) i with ⟨e, e2⟩ | ⟨e, e2⟩
  · rw [e2]
    rw [e, hb] at hbi; injection hbi with hbi; subst hbi
    exact hro _ hst hself
  · rw [e2]
    have hro := h.obj i bi hbi
    by_cases hd : σ.get i = .dead
    · rw [hd]; trivial
    · have : bi ≠ b := fun k => e (h.inj i o _ hd hnd (k ▸ hbi) hb)
      exact hro.step hst (hother bi this) fun c hc => ⟨hc, hother c fun e => (h.hd c bi hc).2 o hnd (e ▸ hb)⟩
theorem okK_cells {kt : KT} {p q : PV} (hp : okK kt p = true) (hq : okK kt q = true) (he : eqPs p.cells q.cells = true) : p = q := by
  obtain ⟨ks, g⟩ := kt
  have e1 : ∀ {k : FK} {a b : PV}, k.ok a = true → k.ok b = true → eqP a b = true → a = b := by
    intro k a b ha hb h
    cases k <;> cases a <;> simp [FK.ok] at ha <;> cases b <;> simp [FK.ok] at hb <;> simp [eqP] at h
    · subst ha; subst hb; rw [h]
    · rw [h]
    · rw [h]
  have el : ∀ {ks : List FK} {a b : List PV}, okKs ks a = true → okKs ks b = true → eqPs a b = true → a = b := by
    intro ks
    induction ks with
    | nil => intro a b ha hb _; cases a <;> cases b <;> simp [okKs] at ha hb <;> rfl
    | cons k ks ih =>
      intro a b ha hb h
      cases a with
      | nil => simp [okKs] at ha
      | cons x a =>
        cases b with
        | nil => simp [okKs] at hb
        | cons y b =>
          simp only [okKs, eqPs, Bool.and_eq_true] at ha hb h
          rw [e1 ha.1 hb.1 h.1, ih ha.2 hb.2 h.2]
  cases g with
  | true =>
    cases p <;> simp only [okK] at hp <;> try (cases hp; done)
    cases q <;> simp only [okK] at hq <;> try (cases hq; done)
    rw [el hp hq he]
  | false =>
    simp only [okK] at hp hq
    have one : ∀ {p : PV}, okKs ks [p] = true → p.cells = [p] := by
      intro p h
      cases ks with
      | nil => simp [okKs] at h
      | cons k r => simp only [okKs, Bool.and_eq_true] at h; exact okFK_wide h.1
    rw [one hp, one hq] at he
    have := el hp hq he
    injection this
theorem rp_flat_eq {kt : KT} {p : PV} {v u : Value} (hp : okK kt p = true) (hv : RP F w v p) (hu : RP F w u p) : Instr.sameBits 10000 v u = true := by
  obtain ⟨ks, g⟩ := kt
  have one : ∀ {k : FK} {p : PV} {v u : Value} (n : Nat), k.ok p = true → RP F w v p → RP F w u p → Instr.sameBits n v u = true := by
    intro k p v u n hp hv hu
    rcases rp_kind hp hv with ⟨kd, a, rfl, rfl, rfl⟩ | ⟨b, rfl, rfl, rfl⟩ | ⟨s, rfl, rfl, rfl⟩
    · cases hu; cases n <;> simp [Instr.sameBits]
    · cases hu; cases n <;> simp [Instr.sameBits]
    · cases hu
      have : (s == s) = true := by rw [beq_toListBytes]; simp
      cases n <;> simp [Instr.sameBits, this]
  cases g with
  | false =>
    simp only [okK] at hp
    cases ks with
    | nil => simp [okKs] at hp
    | cons k r => simp only [okKs, Bool.and_eq_true] at hp; exact one _ hp.1 hv hu
  | true =>
    cases p <;> simp only [okK] at hp <;> try (cases hp; done)
    rename_i cs
    cases hv with
    | agg xs _ h1 h2 =>
    cases hu with
    | agg ys _ h3 h4 =>
    have hl := okKs_len hp
    have : ∀ x ∈ xs.toList.zip ys.toList, Instr.sameBits 9999 x.1 x.2 = true := by
      intro x hx
      obtain ⟨i, hi, rfl⟩ := List.getElem_of_mem hx
      simp only [List.length_zip, Array.length_toList] at hi
      have hc : i < cs.length := by omega
      have hk : i < ks.length := by omega
      have a1 := h2 i cs[i] (List.getElem?_eq_getElem hc)
      have a2 := h4 i cs[i] (List.getElem?_eq_getElem hc)
      rw [Array.getElem?_eq_getElem (by omega)] at a1 a2
      have hok := okKs_get hp (List.getElem?_eq_getElem hk) (List.getElem?_eq_getElem hc)
      have := one 9999 hok a1 a2
      simpa using this
    simp only [Instr.sameBits, Bool.and_eq_true, beq_iff_eq]
    refine ⟨by omega, ?_⟩
    rw [List.all_eq_true]
    exact this
theorem Borns.push {es : Array MapEntry} {clock : Nat} (h : Borns es clock) (k v : Value) : Borns (es.push { key := k, val := v, born := clock }) (clock + 1) := by
  refine ⟨fun i e he => ?_, fun i j e e' he he' hb => ?_⟩
  · rw [Array.getElem?_push] at he
    split at he
    · injection he with he; subst he; exact Nat.lt_succ_self _
    · exact Nat.lt_succ_of_lt (h.1 i e he)
  · rw [Array.getElem?_push] at he he'
    split at he <;> split at he'
    · omega
    · injection he with he; subst he
      have := h.1 j e' he'
      simp at hb; omega
    · injection he' with he'; subst he'
      have := h.1 i e he
      simp at hb; omega
    · exact h.2 i j e e' he he' hb
theorem Borns.modify {es : Array MapEntry} {clock : Nat} (h : Borns es clock) (n : Nat) (k v : Value) : Borns (es.modify n fun e => { e with key := k, val := v }) clock := by
  have key : ∀ (i : Nat) e, (es.modify n fun e => { e with key := k, val := v })[i]? = some e → ∃ e0, es[i]? = some e0 ∧ e0.born = e.born := fun i e he => by
    rw [Array.getElem?_modify] at he
    split at he
    · simp only [Option.map_eq_some_iff] at he
      obtain ⟨e0, h1, rfl⟩ := he
      exact ⟨e0, h1, rfl⟩
    · exact ⟨e, he, rfl⟩
  refine ⟨fun i e he => ?_, fun i j e e' he he' hb => ?_⟩
  · obtain ⟨e0, h1, h2⟩ := key i e he
    rw [← h2]; exact h.1 i e0 h1
  · obtain ⟨e0, h1, h2⟩ := key i e he
    obtain ⟨e1, h3, h4⟩ := key j e' he'
    exact h.2 i j e0 e1 h1 h3 (by rw [h2, h4]; exact hb)
theorem putP_sound {t : TypeId} {m k v : AV} {vm vk vv : Value} (hσ : SimH F μ σ w) (hm : RV F μ w vm m) (hk : RV F μ w vk k) (hv : RV F μ w vv v) (h : putP P t m k v σ K) :
    ∃ us w', K undefA us ∧ (Instr.mapUpdate t vm vk vv).run P w = .ok () w' ∧ Step F μ w F μ w' ∧ SimH F μ (us ++ σ) w' := by
  unfold putP at h
  split at h
  · rename_i o key val
    split at h
    · rename_i kt l kt' e ho hT
      obtain ⟨⟨rfl, hkey⟩, hK⟩ := h
      obtain ⟨kT, hu, hf⟩ := tMap_spec hT
      cases hm with
      | mp _ b hb =>
      have hro := hσ.obj o b hb
      rw [ho] at hro
      obtain ⟨h0, es, clock, h1, h2, h3, h4⟩ := hro
      have hkr := hk.pure_inv
      have hvr := hv.pure_inv
      have hfind := run_findKey (P := P) hf hkr hkey w l es.toList (by simpa using h2) h0 (fun i a c d q1 q2 => by
        obtain ⟨e', g1, g2, g3⟩ := h4 i a c q1
        rw [Array.getElem?_toList] at q2
        rw [q2] at g1; injection g1 with g1; subst g1; exact g2)
      have hcheck := run_checkKey (P := P) hf hkr hkey false w
      cases hmf : mfindAt key 0 l with
      | none =>
        have hfo : foundOf l es.toList key 0 = none := by simp [foundOf, hmf]
        have hput : mput key val l = l ++ [(key, val)] := by simp [mput, hmf]
        rw [hput] at hK
        obtain ⟨s1, s2⟩ := hσ.setMap ho (by simp) hb h1 (es.push { key := vk, val := vv, born := clock }) (clock + 1) (.map kt' (l ++ [(key, val)])) (fun w' hs hw => by
          refine ⟨fun x hx => ?_, _, _, hw, by simp [h2], h3.push vk vv, fun i a c hac => ?_⟩
          · rcases List.mem_append.1 hx with hx | hx
            · exact h0 x hx
            · simp at hx; subst hx; exact hkey
          · rw [List.getElem?_append] at hac
            split at hac
            · obtain ⟨en, g1, g2, g3⟩ := h4 i a c hac
              refine ⟨en, ?_, g2.mono hs.sub hs.fr, g3.mono hs.sub hs.fr⟩
              rw [Array.getElem?_push, if_neg (by omega)]; exact g1
            · have hi : i = l.length := by
                have := (List.getElem?_eq_some_iff.1 hac).1
                simp at this; omega
              subst hi
              simp at hac
              obtain ⟨rfl, rfl⟩ := hac
              exact ⟨{ key := vk, val := vv, born := clock }, by rw [Array.getElem?_push, if_pos (by omega)], hkr.mono hs.sub hs.fr, hvr.mono hs.sub hs.fr⟩)
        refine ⟨_, _, hK, ?_, s1, s2⟩
        simp only [Instr.mapUpdate, Sem.run_bind, run_underlying hu, Result.andThen_ok, getObj_run h1, hcheck, hfind, hfo]
        simp [setObj, Sem.run, h1]
      | some x =>
        obtain ⟨i, pv⟩ := x
        obtain ⟨_, k', hk', heq⟩ := mfindAt_ge hmf
        rw [Nat.sub_zero] at hk'
        have hi : i < l.length := (List.getElem?_eq_some_iff.1 hk').1
        have hie : i < es.size := by omega
        have hfo : foundOf l es.toList key 0 = some (i, es[i].val) := by simp [foundOf, hmf, hie]
        have hput : mput key val l = l.set i (key, val) := by simp [mput, hmf]
        rw [hput] at hK
        obtain ⟨en, g1, g2, g3⟩ := h4 i k' pv hk'
        have hen : en = es[i] := by rw [Array.getElem?_eq_getElem hie] at g1; injection g1 with g1; exact g1.symm
        subst hen
        have hkk : key = k' := okK_cells hkey (h0 _ (List.mem_of_getElem? hk')) heq
        subst hkk
        have hsame : Instr.sameBits 10000 es[i].key vk = true := rp_flat_eq hkey g2 hkr
        obtain ⟨s1, s2⟩ := hσ.setMap ho (by simp) hb h1 (es.modify i fun e => { e with key := vk, val := vv }) clock (.map kt' (l.set i (key, val))) (fun w' hs hw => by
          refine ⟨fun x hx => ?_, _, _, hw, by simp [h2], h3.modify i vk vv, fun j a c hac => ?_⟩
          · rcases List.mem_or_eq_of_mem_set hx with hx | hx
            · exact h0 x hx
            · subst hx; exact hkey
          · rw [List.getElem?_set] at hac
            split at hac
            · rename_i hij
              subst hij
              have hac' : some (key, val) = some (a, c) := by simpa [hi] using hac
              injection hac' with hac'; injection hac' with e1 e2; subst e1; subst e2
              exact ⟨{ es[i] with key := vk, val := vv }, by rw [Array.getElem?_modify]; simp [hie], hkr.mono hs.sub hs.fr, hvr.mono hs.sub hs.fr⟩
            · rename_i hij
              obtain ⟨en, q1, q2, q3⟩ := h4 j a c hac
              refine ⟨en, ?_, q2.mono hs.sub hs.fr, q3.mono hs.sub hs.fr⟩
              rw [Array.getElem?_modify]; simp [hij, q1])
        refine ⟨_, _, hK, ?_, s1, s2⟩
        have hkey2 : ((es[i]?).map (·.key)).getD vk = es[i].key := by simp [hie]
        simp only [Instr.mapUpdate, Sem.run_bind, run_underlying hu, Result.andThen_ok, getObj_run h1, hcheck, hfind, hfo, hkey2]
        simp [Instr.keyThatStays, hsame, setObj, Sem.run, h1]
    · exact h.elim
  · exact h.elim
theorem RowAt.h (hσ : SimH F μ σ w) {n sz i len c : Nat} {l : List PV} {v : Value} (hn : σ.get n = .row sz l) (hi : i = 0) (hl : len = l.length) (hv : RV F μ w v (.rsl n sz i len)) (hc : μ n = some c) : HRow F w c sz v l := by
  subst hi; subst hl
  have hro := hσ.obj n c hc
  rw [hn] at hro
  obtain ⟨hok, cur, t, g1, g2, g3⟩ := hro
  cases hv with
  | rsl _ _ _ _ _ hv =>
  cases hv with
  | msl _ _ _ off' _ cap b t' n' hm h1 h2 h3 h4 h5 =>
  rw [hc] at hm; injection hm with hm; subst hm
  have hsz : n' = cur.size := by simp [World.shape?, g1] at h2; exact h2.2.symm
  refine ⟨hok, off', cap, cur, t, ⟨rfl, ?_, by omega, h4, h5⟩, g1, g2, fun j p hp => ?_⟩
  · rcases h1 with h1 | h1
    · exact .inl h1
    · right; omega
  · have : (rowC l)[j]? = some (.p p) := by unfold rowC; rw [List.getElem?_map, hp]; rfl
    exact (g3 j _ this).pure_inv
theorem putS_sound {t : TypeId} {o n sz i len : Nat} {key : PV} {kt : KT} {sz' sz'' : Nat} {l : List (PV × MV)} {r : List PV} {e : TypeId} {vm vk vv : Value} (hσ : SimH F μ σ w) (hm : RV F μ w vm (.mp o)) (hk : RV F μ w vk (.p key)) (hv : RV F μ w vv (.rsl n sz i len))
    (ho : σ.get o = .mapS kt sz' l) (hT : tMap P t = some (kt, e)) (hn : σ.get n = .row sz'' r) (hq : okK kt key = true ∧ sz = sz' ∧ sz'' = sz' ∧ i = 0 ∧ len = r.length ∧ n ≠ o) :
    ∃ w' μ', (Instr.mapUpdate t vm vk vv).run P w = .ok () w' ∧ Step F μ w F μ' w' ∧ SimH F μ' ([(o, .mapS kt sz' (mput key (.h r) l)), (n, .dead)] ++ σ) w' ∧ ∀ o, μ' o = μ o := by
  obtain ⟨hkey, q1, q2, q3, q4, q5⟩ := hq
  subst q2; subst q1
  obtain ⟨kT, hu, hf⟩ := tMap_spec hT
  cases hm with
  | mp _ b hb =>
  have hro := hσ.obj o b hb
  rw [ho] at hro
  obtain ⟨h0, es, clock, h1, h2, h3, c, h4, h5⟩ := hro
  have hdo : σ.get o ≠ .dead := by rw [ho]; simp
  have hdn : σ.get n ≠ .dead := by rw [hn]; simp
  obtain ⟨d, hd⟩ := hσ.has n hdn
  have hrow := RowAt.h hσ hn q3 q4 hv hd
  have hdb : d ≠ b := fun x => q5 (hσ.inj n o b hdn hdo (x ▸ hd) hb)
  have hnF : ¬ F b := hσ.live o b hdo hb
  have hdF : ¬ F d := hσ.live n d hdn hd
  have hkr := hk.pure_inv
  have hfind := run_findKey (P := P) hf hkr hkey w l es.toList (by simpa using h2) h0 (fun i a c d q1 q2 => by
    obtain ⟨e', g1, g2, g3⟩ := h4 i a c q1
    rw [Array.getElem?_toList] at q2
    rw [q2] at g1; injection g1 with g1; subst g1; exact g2)
  have hcheck := run_checkKey (P := P) hf hkr hkey false w
  let μ' : Num := ⟨μ, fun x y => μ.hid x y ∨ (x = d ∧ y = b)⟩
  have hlt := lt_get h1
  have fin : ∀ (es' : Array MapEntry) (clock' : Nat) (l' : List (PV × MV)) (c' : Nat → Nat), es'.size = l'.length → Borns es' clock' → (∀ x ∈ l', okK kt x.1 = true) →
      (∀ (i : Nat) k x, l'[i]? = some (k, x) → ∃ e : MapEntry, es'[i]? = some e ∧ RP F w e.key k ∧ MVok F μ' w b sz (c' i) e.val x) →
      (∀ (i j : Nat) k k' p p', l'[i]? = some (k, .h p) → l'[j]? = some (k', .h p') → c' i = c' j → i = j) →
      Step F μ w F μ' { w with heap := w.heap.setIfInBounds b (.map es' clock') } ∧ SimH F μ' ([(o, .mapS kt sz l'), (n, .dead)] ++ σ) { w with heap := w.heap.setIfInBounds b (.map es' clock') } := by
    intro es' clock' l' c' a1 a2 a3 a4 a5
    have hother : ∀ k, k ≠ b → (w.heap.setIfInBounds b (.map es' clock'))[k]? = w.heap[k]? := fun k hk => by
      rw [Array.getElem?_setIfInBounds]; simp [Ne.symm hk]
    have hself : (w.heap.setIfInBounds b (.map es' clock'))[b]? = some (.map es' clock') := by
      rw [Array.getElem?_setIfInBounds]; simp [hlt]
    have hst : Step F μ w F μ' { w with heap := w.heap.setIfInBounds b (.map es' clock') } := by
      refine ⟨rfl, rfl, rfl, by simp, fun k hk => hother k (fun e => hnF (e ▸ hk)), fun k _ hk => hother k (fun e => hk (e ▸ .inl ⟨o, hb⟩)), fun k x hx => ?_, fun _ h => h, fun _ h => .inl h, fun _ _ h => h, fun k hk => ?_⟩
      · by_cases hk : k = b
        · subst hk; simp [World.shape?, h1] at hx
        · simp only [World.shape?, hother k hk] at hx ⊢; exact hx
      · rcases hk with ⟨i, hi⟩ | ⟨x, hx | ⟨rfl, _⟩⟩
        · exact .inl (.inl ⟨i, hi⟩)
        · exact .inl (.inr ⟨x, hx⟩)
        · exact .inl (.inl ⟨n, hd⟩)
    have hst' : Step F μ' w F μ' { w with heap := w.heap.setIfInBounds b (.map es' clock') } :=
      ⟨rfl, rfl, rfl, hst.size, hst.fr, fun k hk hn => hst.old k hk fun h => hn (h.imp id fun ⟨x, hx⟩ => ⟨x, .inl hx⟩), hst.shape, fun _ h => h, fun _ h => .inl h, fun _ _ h => h, fun _ h => .inl h⟩
    have get : ∀ i, (i = o ∧ Heap.get ([(o, .mapS kt sz l'), (n, .dead)] ++ σ) i = .mapS kt sz l') ∨ (i = n ∧ Heap.get ([(o, .mapS kt sz l'), (n, .dead)] ++ σ) i = .dead) ∨ (i ≠ o ∧ i ≠ n ∧ Heap.get ([(o, .mapS kt sz l'), (n, .dead)] ++ σ) i = σ.get i) := fun i => by
      simp only [List.cons_append, List.nil_append, Heap.get_cons]
      by_cases e1 : o = i
      · exact .inl ⟨e1.symm, if_pos e1⟩
      · rw [if_neg e1]
        by_cases e2 : n = i
        · exact .inr (.inl ⟨e2.symm, if_pos e2⟩)
        · exact .inr (.inr ⟨fun k => e1 k.symm, fun k => e2 k.symm, if_neg e2⟩)
    have nd : ∀ i, Heap.get ([(o, .mapS kt sz l'), (n, .dead)] ++ σ) i ≠ .dead → σ.get i ≠ .dead ∧ i ≠ n := fun i hi => by
      rcases get i with ⟨e, _⟩ | ⟨_, e⟩ | ⟨_, e2, e⟩
      · exact ⟨e ▸ hdo, e ▸ Ne.symm q5⟩
      · exact absurd e hi
      · exact ⟨e ▸ hi, e2⟩
    refine ⟨hst, fun k hk => by simpa using hσ.fb k hk, fun k hk => ?_, fun i hi => hσ.has i (nd i hi).1, fun i bi hbi => ?_, fun i bi hi => hσ.live i bi (nd i hi).1, fun i j bb hi hj => hσ.inj i j bb (nd i hi).1 (nd j hj).1, fun x y hxy => ?_, fun x y z hy hz => ?_⟩
    · rcases hst.mnew k hk with h | h
      · simpa using hσ.mb k h
      · rcases hk with ⟨i, hi⟩ | ⟨x, hx | ⟨rfl, _⟩⟩
        · simpa using hσ.mb k (.inl ⟨i, hi⟩)
        · simpa using hσ.mb k (.inr ⟨x, hx⟩)
        · simpa using hσ.mb k (.inl ⟨n, hd⟩)
    · have hbi : μ i = some bi := hbi
      rcases get i with ⟨e, e2⟩ | ⟨_, e⟩ | ⟨e1, e2, e⟩
      · rw [e2]
        rw [e, hb] at hbi; injection hbi with hbi; subst hbi
        refine ⟨a3, es', clock', hself, a1, a2, c', fun i k x hx => ?_, a5⟩
        obtain ⟨e, g1, g2, g3⟩ := a4 i k x hx
        refine ⟨e, g1, g2.mono hst.sub hst.fr, ?_⟩
        cases x with
        | h l => exact ⟨g3.1, g3.2.mono hst.sub hst.fr (hother _ fun e => by
            rcases g3.1 with g | ⟨g, _⟩
            · exact (hσ.hd _ b g).2 o hdo (e ▸ hb)
            · exact hdb (g.symm.trans e))⟩
        | v av => exact RV.step g3 hst'
      · rw [e]; trivial
      · rw [e]
        have hro := hσ.obj i bi hbi
        by_cases hdd : σ.get i = .dead
        · rw [hdd]; trivial
        · have hne : bi ≠ b := fun k => e1 (hσ.inj i o _ hdd hdo (k ▸ hbi) hb)
          exact hro.step hst (hother bi hne) fun x hx => ⟨.inl hx, hother x fun e => (hσ.hd x bi hx).2 o hdo (e ▸ hb)⟩
    · rcases hxy with hxy | ⟨rfl, rfl⟩
      · exact ⟨(hσ.hd x y hxy).1, fun i hi => (hσ.hd x y hxy).2 i (nd i hi).1⟩
      · exact ⟨hdF, fun i hi hm => (nd i hi).2 (hσ.inj i n x (nd i hi).1 hdn hm hd)⟩
    · rcases hy with hy | ⟨rfl, rfl⟩ <;> rcases hz with hz | ⟨hz1, rfl⟩
      · exact hσ.hu x y z hy hz
      · exact absurd hd (hz1 ▸ (hσ.hd x y hy).2 n hdn)
      · exact absurd hd ((hσ.hd x z hz).2 n hdn)
      · rfl
  have hnew : ∀ (i : Nat) k p, l[i]? = some (k, .h p) → c i ≠ d := fun i k p hi e => by
    obtain ⟨_, _, _, g⟩ := h4 i k _ hi
    exact (hσ.hd _ b g.1).2 n hdn (e ▸ hd)
  have old : ∀ {x : MV} {k v}, MVok F μ w b sz k v x → MVok F μ' w b sz k v x := fun {x k v} g => by
    cases x with
    | h l => exact ⟨.inl g.1, g.2⟩
    | v av => exact RV.step g (F' := F) (μ' := μ') (w' := w) ⟨rfl, rfl, rfl, Nat.le_refl _, fun _ _ => rfl, fun _ _ _ => rfl, fun _ _ h => h, fun _ h => h, fun _ h => .inl h, fun _ _ h => h, fun k hk => by
        rcases hk with ⟨i, hi⟩ | ⟨x, hx | ⟨rfl, _⟩⟩
        · exact .inl (.inl ⟨i, hi⟩)
        · exact .inl (.inr ⟨x, hx⟩)
        · exact .inl (.inl ⟨n, hd⟩)⟩
  cases hmf : mfindAt key 0 l with
  | none =>
    have hfo : foundOf l es.toList key 0 = none := by simp [foundOf, hmf]
    have hput : mput key (.h r) l = l ++ [(key, .h r)] := by simp [mput, hmf]
    rw [hput]
    obtain ⟨s1, s2⟩ := fin (es.push { key := vk, val := vv, born := clock }) (clock + 1) (l ++ [(key, .h r)]) (fun i => if i = l.length then d else c i) (by simp [h2]) (h3.push vk vv) (fun x hx => by
        rcases List.mem_append.1 hx with hx | hx
        · exact h0 x hx
        · simp at hx; subst hx; exact hkey) (fun i k x hx => by
        rw [List.getElem?_append] at hx
        split at hx
        · rename_i hlt
          obtain ⟨en, g1, g2, g3⟩ := h4 i k x hx
          refine ⟨en, ?_, g2, ?_⟩
          · rw [Array.getElem?_push, if_neg (by omega)]; exact g1
          · rw [if_neg (by omega)]; exact old g3
        · have hi : i = l.length := by
            have := (List.getElem?_eq_some_iff.1 hx).1
            simp at this; omega
          subst hi
          simp at hx
          obtain ⟨rfl, rfl⟩ := hx
          refine ⟨{ key := vk, val := vv, born := clock }, by rw [Array.getElem?_push, if_pos (by omega)], hkr, ?_⟩
          rw [if_pos rfl]; exact ⟨.inr ⟨rfl, rfl⟩, hrow⟩) (fun i j k k' p p' hi hj hij => by
        have li : i < l.length + 1 := by simpa using (List.getElem?_eq_some_iff.1 hi).1
        have lj : j < l.length + 1 := by simpa using (List.getElem?_eq_some_iff.1 hj).1
        by_cases ei : i = l.length <;> by_cases ej : j = l.length
        · omega
        · rw [List.getElem?_append_left (by omega)] at hj
          rw [if_pos ei, if_neg ej] at hij
          exact absurd hij.symm (hnew j k' p' hj)
        · rw [List.getElem?_append_left (by omega)] at hi
          rw [if_neg ei, if_pos ej] at hij
          exact absurd hij (hnew i k p hi)
        · rw [List.getElem?_append_left (by omega)] at hi hj
          rw [if_neg ei, if_neg ej] at hij
          exact h5 i j k k' p p' hi hj hij)
    refine ⟨_, μ', ?_, s1, s2, fun _ => rfl⟩
    simp only [Instr.mapUpdate, Sem.run_bind, run_underlying hu, Result.andThen_ok, getObj_run h1, hcheck, hfind, hfo]
    simp [setObj, Sem.run, h1]
  | some x =>
    obtain ⟨i, pv⟩ := x
    obtain ⟨_, k', hk', heq⟩ := mfindAt_ge hmf
    rw [Nat.sub_zero] at hk'
    have hi : i < l.length := (List.getElem?_eq_some_iff.1 hk').1
    have hie : i < es.size := by omega
    have hfo : foundOf l es.toList key 0 = some (i, es[i].val) := by simp [foundOf, hmf, hie]
    have hput : mput key (.h r) l = l.set i (key, .h r) := by simp [mput, hmf]
    rw [hput]
    obtain ⟨en, g1, g2, g3⟩ := h4 i k' pv hk'
    have hen : en = es[i] := by rw [Array.getElem?_eq_getElem hie] at g1; injection g1 with g1; exact g1.symm
    subst hen
    have hkk : key = k' := okK_cells hkey (h0 _ (List.mem_of_getElem? hk')) heq
    subst hkk
    have hsame : Instr.sameBits 10000 es[i].key vk = true := rp_flat_eq hkey g2 hkr
    obtain ⟨s1, s2⟩ := fin (es.modify i fun e => { e with key := vk, val := vv }) clock (l.set i (key, .h r)) (fun j => if j = i then d else c j) (by simp [h2]) (h3.modify i vk vv) (fun x hx => by
        rcases List.mem_or_eq_of_mem_set hx with hx | hx
        · exact h0 x hx
        · subst hx; exact hkey) (fun j a x hac => by
        rw [List.getElem?_set] at hac
        split at hac
        · rename_i hij
          subst hij
          have hac' : some (key, MV.h r) = some (a, x) := by simpa [hi] using hac
          injection hac' with hac'; injection hac' with e1 e2; subst e1; subst e2
          refine ⟨{ es[i] with key := vk, val := vv }, by rw [Array.getElem?_modify]; simp [hie], hkr, ?_⟩
          rw [if_pos rfl]; exact ⟨.inr ⟨rfl, rfl⟩, hrow⟩
        · rename_i hij
          obtain ⟨en, q1, q2, q3⟩ := h4 j a x hac
          refine ⟨en, ?_, q2, ?_⟩
          · rw [Array.getElem?_modify]; simp [hij, q1]
          · rw [if_neg (fun e => hij e.symm)]; exact old q3) (fun j1 j2 k k' p p' hj1 hj2 hij => by
        by_cases e1 : j1 = i <;> by_cases e2 : j2 = i
        · omega
        · rw [List.getElem?_set_ne (fun e => e2 e.symm)] at hj2
          rw [if_pos e1, if_neg e2] at hij
          exact absurd hij.symm (hnew j2 k' p' hj2)
        · rw [List.getElem?_set_ne (fun e => e1 e.symm)] at hj1
          rw [if_neg e1, if_pos e2] at hij
          exact absurd hij (hnew j1 k p hj1)
        · rw [List.getElem?_set_ne (fun e => e1 e.symm)] at hj1
          rw [List.getElem?_set_ne (fun e => e2 e.symm)] at hj2
          rw [if_neg e1, if_neg e2] at hij
          exact h5 j1 j2 k k' p p' hj1 hj2 hij)
    refine ⟨_, μ', ?_, s1, s2, fun _ => rfl⟩
    have hkey2 : ((es[i]?).map (·.key)).getD vk = es[i].key := by simp [hie]
    simp only [Instr.mapUpdate, Sem.run_bind, run_underlying hu, Result.andThen_ok, getObj_run h1, hcheck, hfind, hfo, hkey2]
    simp [Instr.keyThatStays, hsame, setObj, Sem.run, h1]
theorem putK_sound {t : TypeId} {m k v : AV} {vm vk vv : Value} (hσ : SimH F μ σ w) (hm : RV F μ w vm m) (hk : RV F μ w vk k) (hv : RV F μ w vv v) (h : putK P t m k v σ K) :
    ∃ us w' μ', K undefA us ∧ (Instr.mapUpdate t vm vk vv).run P w = .ok () w' ∧ Step F μ w F μ' w' ∧ SimH F μ' (us ++ σ) w' ∧ ∀ o, μ' o = μ o := by
  unfold putK at h
  split at h
  · rename_i o key n sz i len
    split at h
    · rename_i kt sz' l kt' e sz'' r ho hT hn
      obtain ⟨⟨rfl, hq⟩, hK⟩ := h
      obtain ⟨w', μ', g1, g2, g3, g4⟩ := putS_sound (P := P) hσ hm hk hv ho hT hn hq
      exact ⟨_, w', μ', hK, g1, g2, g3, g4⟩
    · exact h.elim
  · obtain ⟨us, w', g1, g2, g3, g4⟩ := putP_sound (P := P) hσ hm hk hv h
    exact ⟨us, w', μ, g1, g2, g3, g4, fun _ => rfl⟩
theorem chanK_sound {t : TypeId} {n : AV} {vn : Value} (hσ : SimH F μ σ w) (hnew : μ nid = none) (hn : RV F μ w vn n) (h : chanK P t n nid K) : WOut P F μ σ w nid K (Instr.makeChan t vn) := by
  unfold chanK at h
  split at h
  · rename_i k n hT
    obtain ⟨⟨h0, h1, h2⟩, hK⟩ := h
    obtain ⟨dir, e, i, hu, hi, hb⟩ := tChan_spec hT
    have hn := hn.pure_inv
    cases hn
    obtain ⟨m, rfl⟩ : ∃ m : Nat, n = m := ⟨n.toNat, by omega⟩
    have hmul : (i.bytes : Int) * m ≤ 100000 * 1000000000 := by
      have h3 : (i.bytes : Int) ≤ 100000 := by omega
      have h4 : (m : Int) ≤ 1000000000 := h1
      exact Int.mul_le_mul h3 h4 (by omega) (by decide)
    have hrun := Go.Conc.run_makeChan (w := w) hu hi k m (by omega) (by omega)
    obtain ⟨g1, g2⟩ := hσ.push hnew (.chan m #[] false 0 0 false) (.chan m []) (fun w' hs hw => ⟨#[], 0, 0, hw, rfl, fun i c hc => by simp at hc⟩)
    refine ⟨_, _, .chan (some w.heap.size), _, _, _, hK, hrun, g2, g1, .ch _ _ (Num.put_self _ _ _), fun o ho => if_neg ho⟩
  · exact h.elim
theorem SimH.out (hσ : SimH F μ σ w) (hnew : μ nid = none) {o b i sz c : Nat} {kt : KT} {m : List (PV × MV)} {key : PV} {l : List PV} {es : Array MapEntry} {clock : Nat} {cf : Nat → Nat} (ho : σ.get o = .mapS kt sz m) (hb : μ o = some b) (hg : w.heap[b]? = some (.map es clock)) (hs : es.size = m.length) (hB : Borns es clock)
    (h0 : ∀ x ∈ m, okK kt x.1 = true) (h4 : ∀ (i : Nat) k x, m[i]? = some (k, x) → ∃ e : MapEntry, es[i]? = some e ∧ RP F w e.key k ∧ MVok F μ w b sz (cf i) e.val x) (h5 : ∀ (i j : Nat) k k' l l', m[i]? = some (k, .h l) → m[j]? = some (k', .h l') → cf i = cf j → i = j)
    (hi : m[i]? = some (key, .h l)) (hc : c = cf i) {e : MapEntry} (he : es[i]? = some e) (hrow : HRow F w c sz e.val l) (h0s : μ.hid c b) :
    ∃ μ', Step F μ w F μ' w ∧ SimH F μ' ([(nid, .row sz l), (o, .mapS kt sz (m.set i (key, .v (.rsl nid sz 0 l.length))))] ++ σ) w ∧ RV F μ' w e.val (.rsl nid sz 0 l.length) ∧ ∀ q, q ≠ nid → μ' q = μ q := by
  have hdo : σ.get o ≠ .dead := by rw [ho]; simp
  have hno : nid ≠ o := fun e => by rw [e, hb] at hnew; cases hnew
  let μ' : Num := ⟨fun q => if q = nid then some c else μ q, fun x y => μ.hid x y ∧ x ≠ c⟩
  have hst : Step F μ w F μ' w := by
    refine ⟨rfl, rfl, rfl, Nat.le_refl _, fun _ _ => rfl, fun _ _ _ => rfl, fun _ _ h => h, fun _ h => h, fun _ h => .inl h, fun q k hq => ?_, fun k hk => ?_⟩
    · show (if q = nid then some c else μ q) = some k
      rw [if_neg (fun e => by rw [e, hnew] at hq; cases hq)]; exact hq
    · rcases hk with ⟨q, hq⟩ | ⟨x, hx, _⟩
      · have hq : (if q = nid then some c else μ q) = some k := hq
        split at hq
        · injection hq with hq; subst hq; exact .inl (.inr ⟨b, h0s⟩)
        · exact .inl (.inl ⟨q, hq⟩)
      · exact .inl (.inr ⟨x, hx⟩)
  have num : ∀ q k, μ' q = some k → (q = nid ∧ k = c) ∨ (q ≠ nid ∧ μ q = some k) := fun q k hq => by
    have hq : (if q = nid then some c else μ q) = some k := hq
    by_cases e : q = nid
    · rw [if_pos e] at hq; injection hq with hq; exact .inl ⟨e, hq.symm⟩
    · rw [if_neg e] at hq; exact .inr ⟨e, hq⟩
  let x' : AObj := .mapS kt sz (m.set i (key, .v (.rsl nid sz 0 l.length)))
  have get : ∀ q, (q = nid ∧ Heap.get ([(nid, .row sz l), (o, x')] ++ σ) q = .row sz l) ∨ (q = o ∧ Heap.get ([(nid, .row sz l), (o, x')] ++ σ) q = x') ∨ (q ≠ nid ∧ q ≠ o ∧ Heap.get ([(nid, .row sz l), (o, x')] ++ σ) q = σ.get q) := fun q => by
    simp only [List.cons_append, List.nil_append, Heap.get_cons]
    by_cases e1 : nid = q
    · exact .inl ⟨e1.symm, if_pos e1⟩
    · rw [if_neg e1]
      by_cases e2 : o = q
      · exact .inr (.inl ⟨e2.symm, if_pos e2⟩)
      · exact .inr (.inr ⟨fun k => e1 k.symm, fun k => e2 k.symm, if_neg e2⟩)
  have live : ∀ q, q ≠ nid → Heap.get ([(nid, .row sz l), (o, x')] ++ σ) q ≠ .dead → σ.get q ≠ .dead := fun q hq hd => by
    rcases get q with ⟨e, _⟩ | ⟨e, _⟩ | ⟨_, _, e⟩
    · exact absurd e hq
    · rw [e]; exact hdo
    · rw [e] at hd; exact hd
  have hcF := (hσ.hd c b h0s).1
  have hcl := (hσ.hd c b h0s).2
  have hrv : RV F μ' w e.val (.rsl nid sz 0 l.length) := by
    obtain ⟨_, off, cap, cur, t, ⟨e1, e2, e3, e4, e5⟩, g1, _⟩ := hrow
    rw [e1]
    refine .rsl _ _ _ _ _ (.msl nid sz (0 * sz) off l.length cap c t cur.size (if_pos rfl) ?_ (by simp [World.shape?, g1]) (by omega) e4 e5)
    rcases e2 with e2 | e2
    · exact .inl e2
    · right; omega
  refine ⟨μ', hst, ⟨hσ.fb, fun k hk => ?_, fun q hq => ?_, fun q k hk => ?_, fun q k hq hk => ?_, fun p q k hp hq hkp hkq => ?_, fun x y hxy => ⟨(hσ.hd x y hxy.1).1, fun q hq hk => ?_⟩, fun x y z hy hz => hσ.hu x y z hy.1 hz.1⟩, hrv, fun q hq => if_neg hq⟩
  · rcases hst.mnew k hk with h | h
    · exact hσ.mb k h
    · rcases hk with ⟨q, hq⟩ | ⟨x, hx, _⟩
      · rcases num q k hq with ⟨_, rfl⟩ | ⟨_, h⟩
        · exact hσ.mb _ (.inr ⟨b, h0s⟩)
        · exact hσ.mb k (.inl ⟨q, h⟩)
      · exact hσ.mb k (.inr ⟨x, hx⟩)
  · by_cases e : q = nid
    · exact ⟨c, by show (if q = nid then some c else μ q) = _; rw [if_pos e]⟩
    · obtain ⟨k, hk⟩ := hσ.has q (live q e hq)
      exact ⟨k, by show (if q = nid then some c else μ q) = _; rw [if_neg e]; exact hk⟩
  · rcases get q with ⟨e1, e2⟩ | ⟨e1, e2⟩ | ⟨e1, e2, e3⟩
    · rw [e2]
      rcases num q k hk with ⟨_, rfl⟩ | ⟨h, _⟩
      · obtain ⟨hok, off, cap, cur, t, _, g1, g2, g3⟩ := hrow
        refine ⟨hok, cur, t, g1, g2, fun j p hp => ?_⟩
        unfold rowC at hp
        rw [List.getElem?_map] at hp
        obtain ⟨p', hp', rfl⟩ := Option.map_eq_some_iff.1 hp
        exact .p (g3 j p' hp')
      · exact absurd e1 h
    · rw [e2]
      rcases num q k hk with ⟨h, _⟩ | ⟨_, h⟩
      · exact absurd (h.symm.trans e1) hno
      · rw [e1, hb] at h; injection h with h; subst h
        refine ⟨fun x hx => ?_, es, clock, hg, by simpa using hs, hB, cf, fun j a x hx => ?_, fun j1 j2 k1 k2 l1 l2 hj1 hj2 => ?_⟩
        · rcases List.mem_or_eq_of_mem_set hx with hx | hx
          · exact h0 x hx
          · subst hx; exact h0 (key, MV.h l) (List.mem_of_getElem? hi)
        · rw [List.getElem?_set] at hx
          split at hx
          · rename_i hij
            subst hij
            have hlt : i < m.length := (List.getElem?_eq_some_iff.1 hi).1
            have hx : some (key, MV.v (.rsl nid sz 0 l.length)) = some (a, x) := by simpa [hlt] using hx
            injection hx with hx; injection hx with e1 e2; subst e1; subst e2
            obtain ⟨e', g1, g2, _⟩ := h4 i key _ hi
            rw [he] at g1; injection g1 with g1; subst g1
            exact ⟨e, he, g2, hrv⟩
          · rename_i hij
            obtain ⟨e', g1, g2, g3⟩ := h4 j a x hx
            refine ⟨e', g1, g2, ?_⟩
            cases x with
            | h l' => exact ⟨⟨g3.1, fun e => hij (h5 i j key a l l' hi hx (hc ▸ e.symm))⟩, g3.2⟩
            | v av => exact RV.step g3 hst
        · by_cases a1 : i = j1
          · subst a1
            have hlt : i < m.length := (List.getElem?_eq_some_iff.1 hi).1
            rw [List.getElem?_set_self hlt] at hj1
            cases hj1
          · by_cases a2 : i = j2
            · subst a2
              have hlt : i < m.length := (List.getElem?_eq_some_iff.1 hi).1
              rw [List.getElem?_set_self hlt] at hj2
              cases hj2
            · rw [List.getElem?_set_ne a1] at hj1
              rw [List.getElem?_set_ne a2] at hj2
              exact h5 j1 j2 k1 k2 l1 l2 hj1 hj2
    · rw [e3]
      rcases num q k hk with ⟨h, _⟩ | ⟨_, h⟩
      · exact absurd h e1
      · by_cases hdd : σ.get q = .dead
        · rw [hdd]; trivial
        · refine (hσ.obj q k h).step hst rfl fun x hx => ⟨⟨hx, fun e => ?_⟩, rfl⟩
          have : k = b := hσ.hu c k b (e ▸ hx) h0s
          exact e2 (hσ.inj q o b hdd hdo (this ▸ h) hb)
  · rcases num q k hk with ⟨_, rfl⟩ | ⟨e, h⟩
    · exact hcF
    · exact hσ.live q k (live q e hq) h
  · rcases num p k hkp with ⟨ep, ek⟩ | ⟨ep, hp'⟩ <;> rcases num q k hkq with ⟨eq, ek'⟩ | ⟨eq, hq'⟩
    · rw [ep, eq]
    · exact absurd (ek ▸ hq') (hcl q (live q eq hq))
    · exact absurd (ek' ▸ hp') (hcl p (live p ep hp))
    · exact hσ.inj p q k (live p ep hp) (live q eq hq) hp' hq'
  · rcases num q x hk with ⟨_, e⟩ | ⟨e, h⟩
    · exact hxy.2 e
    · exact (hσ.hd x y hxy.1).2 q (live q e hq) h
theorem lookS_sound {t : TypeId} {o sz : Nat} {k : AV} {ok : Bool} {kt : KT} {m : List (PV × MV)} {vx vk : Value} (hσ : SimH F μ σ w) (hnew : μ nid = none) (hx : RV F μ w vx (.mp o)) (hk : RV F μ w vk k) (ho : σ.get o = .mapS kt sz m) (h : lookS P t o k ok kt sz m nid K) :
    WOut P F μ σ w nid K (Instr.lookup t vx vk ok) := by
  unfold lookS at h
  split at h
  · rename_i kt' e key hT
    obtain ⟨⟨rfl, hkey⟩, h⟩ := h
    obtain ⟨kT, hu, hf⟩ := tMap_spec hT
    cases hx with
    | mp _ b hb =>
    have hro := hσ.obj o b hb
    rw [ho] at hro
    obtain ⟨h0, es, clock, h1, h2, h3, c, h4, h5⟩ := hro
    have hkr := hk.pure_inv
    have hfind := run_findKey (P := P) hf hkr hkey w m es.toList (by simpa using h2) h0 (fun i a c d q1 q2 => by
      obtain ⟨e', g1, g2, g3⟩ := h4 i a c q1
      rw [Array.getElem?_toList] at q2
      rw [q2] at g1; injection g1 with g1; subst g1; exact g2)
    have hcheck := run_checkKey (P := P) hf hkr hkey es.isEmpty w
    have hrun : (Instr.lookup t (.map (some b)) vk false).run P w = ((match foundOf m es.toList key 0 with | some (_, v) => (pure (v, true) : Sem (Value × Bool)) | none => do pure (← zeroValue e, false)).run P w).andThen fun x w' => .ok x.1 w' := by
      simp only [Instr.lookup, Sem.run_bind, run_underlying hu, Result.andThen_ok, getObj_run h1, Sem.run_pure, hcheck, hfind]
      cases foundOf m es.toList key 0 with
      | none => simp only [Sem.run_bind, Sem.run_pure]; cases (zeroValue e).run P w <;> rfl
      | some x => obtain ⟨i, v⟩ := x; simp
    cases hmf : mfindAt key 0 m with
    | none =>
      have hfo : foundOf m es.toList key 0 = none := by simp [foundOf, hmf]
      have hmn : mfind key m = none := by simp [mfind, hmf]
      rw [hfo] at hrun
      obtain ⟨z, v, g1, g2, g3⟩ := zAV_sound (P := P) (F := F) (μ := μ) (w := w) (h.n hmn)
      exact ⟨_, [], v, w, F, μ, g1, by rw [hrun]; simp [g3 w], Step.refl _ _ _, hσ, g2, fun _ _ => rfl⟩
    | some x =>
      obtain ⟨i, x⟩ := x
      obtain ⟨_, k', hk', heq⟩ := mfindAt_ge hmf
      rw [Nat.sub_zero] at hk'
      have hi : i < m.length := (List.getElem?_eq_some_iff.1 hk').1
      have hie : i < es.size := by omega
      have hfo : foundOf m es.toList key 0 = some (i, es[i].val) := by simp [foundOf, hmf, hie]
      have hmn : mfind key m = some x := by simp [mfind, hmf]
      have hkk : key = k' := okK_cells hkey (h0 _ (List.mem_of_getElem? hk')) heq
      subst hkk
      obtain ⟨en, g1, g2, g3⟩ := h4 i key x hk'
      have hen : en = es[i] := by rw [Array.getElem?_eq_getElem hie] at g1; injection g1 with g1; exact g1.symm
      subst hen
      rw [hfo] at hrun
      have hK := h.s x hmn
      cases x with
      | h l =>
        obtain ⟨μ', q1, q2, q3, q4⟩ := hσ.out hnew ho hb h1 h2 h3 h0 h4 h5 hk' rfl g1 g3.2 g3.1
        have hput : mput key (.v (.rsl nid sz 0 l.length)) m = m.set i (key, .v (.rsl nid sz 0 l.length)) := by simp [mput, hmf]
        rw [← hput] at q2
        exact ⟨_, _, es[i].val, w, F, μ', hK, by rw [hrun]; simp, q1, q2, q3, q4⟩
      | v av => exact ⟨_, [], es[i].val, w, F, μ, hK, by rw [hrun]; simp, Step.refl _ _ _, hσ, g3, fun _ _ => rfl⟩
  · exact h.elim
theorem makeMap_sound {t : TypeId} {kt : KT} {e : TypeId} (hσ : SimH F μ σ w) (hn : μ nid = none) (hT : tMap P t = some (kt, e)) (h : K (.mp nid) [(nid, .map kt [])]) : WOut P F μ σ w nid K (Instr.makeMap t none) := by
  obtain ⟨h1, h2⟩ := hσ.push hn (.map #[] 0) (.map kt []) (fun w' hs hw => ⟨by simp, #[], 0, hw, rfl, ⟨by simp, by simp⟩, by simp⟩)
  exact ⟨_, _, .map (some w.heap.size), _, _, _, h, by simp [Instr.makeMap, newObj, Sem.run], h2, h1, .mp _ _ (Num.put_self _ _ _), fun o ho => if_neg ho⟩
theorem filter_erase {α : Type} {f : α → Nat} : ∀ {l : List α} {i : Nat} {x : α}, (l.map f).Nodup → l[i]? = some x → l.filter (fun y => f y != f x) = l.eraseIdx i
  | [], i, x, _, h => by simp at h
  | a :: r, 0, x, hn, h => by
    simp at h; subst h
    simp only [List.map_cons, List.nodup_cons, List.mem_map, not_exists, not_and] at hn
    simp only [List.filter_cons, bne_self_eq_false, Bool.false_eq_true, if_false, List.eraseIdx_cons_zero]
    rw [List.filter_eq_self]
    intro y hy
    have := hn.1 y hy
    simpa using this
  | a :: r, i + 1, x, hn, h => by
    simp at h
    simp only [List.map_cons, List.nodup_cons, List.mem_map, not_exists, not_and] at hn
    have hne : f a ≠ f x := fun e => hn.1 x (List.mem_of_getElem? h) e.symm
    have : (f a != f x) = true := by simpa using hne
    simp only [List.filter_cons, this, if_true, List.eraseIdx_cons_succ]
    rw [filter_erase hn.2 h]
theorem left_push {es : Array MapEntry} {clock : Nat} (h : Borns es clock) {seen : Array Nat} {i : Nat} {e : MapEntry} (he : (leftOf es seen)[i]? = some e) : (leftOf es (seen.push e.born)).toList = (leftOf es seen).toList.eraseIdx i := by
  have h1 : (leftOf es (seen.push e.born)).toList = (leftOf es seen).toList.filter (fun y => y.born != e.born) := by
    unfold leftOf
    simp only [Array.toList_filter, List.filter_filter]
    refine List.filter_congr fun y _ => ?_
    rw [Bool.eq_iff_iff]
    simp only [Bool.not_eq_true', Bool.and_eq_true, bne_iff_ne, ← Bool.not_eq_true, Array.contains_iff_mem, Array.mem_push, not_or]
    exact ⟨fun h => ⟨h.2, h.1⟩, fun h => ⟨h.2, h.1⟩⟩
  rw [h1]
  refine filter_erase (f := fun y : MapEntry => y.born) ?_ (by simpa using he)
  refine h.nodup.sublist (List.Sublist.map _ ?_)
  unfold leftOf
  rw [Array.toList_filter]
  exact List.filter_sublist
theorem SimH.setAny (h : SimH F μ σ w) {o b : Nat} {x : AObj} {ob ob' : Obj} (ho : σ.get o = x) (hx : x ≠ .dead) (hb : μ o = some b) (hg : w.heap[b]? = some ob) (hsh : w.shape? b = none)
    (o' : AObj) (hro : ∀ w', Step F μ w F μ w' → w'.heap[b]? = some ob' → RO F μ w' b o') :
    Step F μ w F μ { w with heap := w.heap.setIfInBounds b ob' } ∧ SimH F μ ((o, o') :: σ) { w with heap := w.heap.setIfInBounds b ob' } := by
  have hnd : σ.get o ≠ .dead := by rw [ho]; exact hx
  have hnF : ¬ F b := h.live o b hnd hb
  have hlt := lt_get hg
  have hother : ∀ k, k ≠ b → (w.heap.setIfInBounds b ob')[k]? = w.heap[k]? := fun k hk => by
    rw [Array.getElem?_setIfInBounds]; simp [Ne.symm hk]
  have hself : (w.heap.setIfInBounds b ob')[b]? = some ob' := by
    rw [Array.getElem?_setIfInBounds]; simp [hlt]
  have hst : Step F μ w F μ { w with heap := w.heap.setIfInBounds b ob' } := by
    refine ⟨rfl, rfl, rfl, by simp, fun k hk => hother k (fun e => hnF (e ▸ hk)), fun k _ hk => hother k (fun e => hk (e ▸ .inl ⟨o, hb⟩)), fun k x hx => ?_, fun _ h => h, fun _ h => .inl h, fun _ _ h => h, fun _ h => .inl h⟩
    by_cases hk : k = b
    · subst hk; rw [hsh] at hx; cases hx
    · simp only [World.shape?, hother k hk] at hx ⊢; exact hx
  have nd : ∀ i, Heap.get ((o, o') :: σ) i ≠ .dead → σ.get i ≠ .dead := fun i hi => by
    rcases get_upd (o := o) (x := o') (σ := σ) i with ⟨e, _⟩ | ⟨_, e⟩
    · rw [e]; exact hnd
    · rw [e] at hi; exact hi
  refine ⟨hst, ⟨fun k hk => by simpa using h.fb k hk, fun k hk => by simpa using h.mb k hk, fun i hi => h.has i (nd i hi), ?_, fun i bi hi => h.live i bi (nd i hi), fun i j bb hi hj => h.inj i j bb (nd i hi) (nd j hj), fun c m hc => ⟨(h.hd c m hc).1, fun i hi => (h.hd c m hc).2 i (nd i hi)⟩, h.hu⟩⟩
  intro i bi hbi
  rcases get_upd (o := o) (x := o') (σ := σ) i with ⟨e, e2⟩ | ⟨e, e2⟩
  · rw [e2]
    rw [e, hb] at hbi; injection hbi with hbi; subst hbi
    exact hro _ hst hself
  · rw [e2]
    have hro := h.obj i bi hbi
    by_cases hd : σ.get i = .dead
    · rw [hd]; trivial
    · have : bi ≠ b := fun k => e (h.inj i o _ hd hnd (k ▸ hbi) hb)
      exact hro.step hst (hother bi this) fun c hc => ⟨hc, hother c fun e => (h.hd c bi hc).2 o hnd (e ▸ hb)⟩
theorem rangeK_sound {t : TypeId} {x : AV} {v : Value} (hσ : SimH F μ σ w) (hn : μ nid = none) (hx : RV F μ w v x) (h : rangeK P t x nid K) : WOut P F μ σ w nid K (Instr.range t v) := by
  unfold rangeK at h
  split at h
  · rename_i kt m
    obtain ⟨ht, hK⟩ := h
    obtain ⟨⟨kt', e⟩, hT⟩ := Option.isSome_iff_exists.1 ht
    obtain ⟨kT, hu, _⟩ := tMap_spec hT
    have hx := hx.pure_inv
    cases hx with
    | mp b _ _ es clock hF h1 h2 h3 h4 h5 =>
    have hleft : leftOf es #[] = es := by
      unfold leftOf
      rw [Array.filter_eq_self]
      intro a _; simp
    obtain ⟨s1, s2⟩ := hσ.push hn (.mapIter (some b) clock #[] clock) (.iter m none) (fun w' hs hw => by
      refine ⟨b, es, clock, #[], hw, hs.sub b hF, (hs.fr b hF).trans h1, h2.2, ⟨?_, fun i k v e hi he => ?_⟩, fun k v hc => by cases hc⟩
      · show (leftOf es #[]).size = _; rw [hleft]; exact h2.1
      · have he : (leftOf es #[])[i]? = some e := he
        rw [hleft] at he
        exact ⟨(h4 i k v e hi he).mono hs.sub hs.fr, (h5 i k v e hi he).mono hs.sub hs.fr⟩)
    refine ⟨_, _, .pointer (some ⟨w.heap.size, 0, none⟩), _, _, _, hK, ?_, s2, s1, .ptr _ _ _ (Num.put_self _ _ _), fun o ho => if_neg ho⟩
    simp only [Instr.range, Sem.run_bind, run_underlying hu, Result.andThen_ok, getObj_run h1, Sem.run_pure]
    simp [newObj, Sem.run]
  · exact h.elim
theorem nextK_sound {x : AV} {v : Value} {s : Bool} {ty : TypeId} (hσ : SimH F μ σ w) (hx : RV F μ w v x) (h : nextK x s σ K) : WOut P F μ σ w nid K (Instr.next v s ty) := by
  unfold nextK at h
  split at h
  · rename_i o
    split at h
    · rename_i rem cur ho
      cases hx with
      | ptr _ _ b hb =>
      have hro := hσ.obj o b hb
      rw [ho] at hro
      obtain ⟨m, es, clock, seen, h1, h2, h3, h4, ⟨h5, h6⟩, h7⟩ := hro
      have h5 : (leftOf es seen).size = rem.length := h5
      have hold : ∀ x ∈ es.toList, x.born < clock := fun x hx => by
        obtain ⟨i, hi⟩ := List.getElem?_of_mem hx
        exact h4.1 i x (by simpa using hi)
      rcases run_next_at (P := P) w ty b m clock clock seen es clock h1 h3 hold (Nat.le_refl _) with ⟨g1, g2⟩ | ⟨e, g1, w1, g2, g3⟩
      · have : rem = [] := List.length_eq_zero_iff.1 (by omega)
        exact ⟨_, [], _, w, F, μ, h.z this, g2, Step.refl _ _ _, hσ, .p (.tup _ _ rfl fun i p hp => by
          match i with
          | 0 => simp at hp; subst hp; exact .bool _
          | i + 1 => simp at hp), fun _ _ => rfl⟩
      · obtain ⟨i, hi⟩ := List.getElem?_of_mem g1
        have hie : (leftOf es seen)[i]? = some e := by simpa using hi
        have hil : i < (leftOf es seen).size := (Array.getElem?_eq_some_iff.1 hie).1
        obtain ⟨⟨k, u⟩, hku⟩ : ∃ y, rem[i]? = some y := ⟨_, List.getElem?_eq_getElem (by omega)⟩
        obtain ⟨hk, hu⟩ := h6 i k u e hku hie
        have hK := h.s i k u hku
        have hst1 : Step F μ w F μ w1 ∧ SimH F μ σ w1 := by
          rcases g2 with rfl | rfl
          · exact ⟨Step.refl _ _ _, hσ⟩
          · exact drawn_step hσ (w.drawn + 1)
        have hsame : w1.heap = w.heap := by rcases g2 with rfl | rfl <;> rfl
        obtain ⟨s1, s2⟩ := hst1.2.setAny (ob' := .mapIter (some m) clock (seen.push e.born) clock) ho (fun h => AObj.noConfusion h) hb (by rw [hsame]; exact h1) (by simp [World.shape?, hsame, h1]) (.iter (rem.eraseIdx i) (some (k, u))) (fun w' hs hw => by
          have hF' := hs.sub
          have hm' : w'.heap[m]? = some (.map es clock) := (hs.fr m h2).trans (by rw [hsame]; exact h3)
          have hf : ∀ b, F b → w'.heap[b]? = w.heap[b]? := fun b hb => (hs.fr b hb).trans (by rw [hsame])
          have hL : (leftOf es (seen.push e.born)).toList = (leftOf es seen).toList.eraseIdx i := left_push h4 hie
          refine ⟨m, es, clock, seen.push e.born, hw, h2, hm', h4, ⟨?_, fun j a c d hj hd => ?_⟩, fun a c hc => ⟨seen, e, rfl, ?_, ?_⟩⟩
          · show (leftOf es (seen.push e.born)).size = _
            rw [← Array.length_toList, hL, List.length_eraseIdx_of_lt (by simpa using hil), List.length_eraseIdx_of_lt (by omega), Array.length_toList, h5]
          · have hd : (leftOf es (seen.push e.born))[j]? = some d := hd
            rw [← Array.getElem?_toList, hL] at hd
            rw [List.getElem?_eraseIdx] at hd hj
            split at hd
            · rename_i hji
              rw [if_pos hji] at hj
              obtain ⟨p, q⟩ := h6 j a c d hj ((Array.getElem?_toList (xs := leftOf es seen)).symm.trans hd)
              exact ⟨p.mono (fun _ h => h) hf, q.mono (fun _ h => h) hf⟩
            · rename_i hji
              rw [if_neg hji] at hj
              obtain ⟨p, q⟩ := h6 (j + 1) a c d hj ((Array.getElem?_toList (xs := leftOf es seen)).symm.trans hd)
              exact ⟨p.mono (fun _ h => h) hf, q.mono (fun _ h => h) hf⟩
          · have := g1
            unfold leftOf at this
            rw [Array.toList_filter] at this
            exact (List.mem_filter.1 this).1
          · injection hc with hc; injection hc with e1 e2; subst e1; subst e2
            exact ⟨hk.mono (fun _ h => h) hf, hu.mono (fun _ h => h) hf⟩)
        refine ⟨_, _, _, _, F, μ, hK, g3, hst1.1.trans s1, s2, .p (.tup _ _ rfl fun j p hp => ?_), fun _ _ => rfl⟩
        match j with
        | 0 => simp at hp; subst hp; exact .bool _
        | 1 =>
          simp at hp; subst hp
          refine hk.mono (fun _ h => h) fun b hb => ?_
          exact (s1.fr b hb).trans (by rw [hsame])
        | 2 =>
          simp at hp; subst hp
          refine hu.mono (fun _ h => h) fun b hb => ?_
          exact (s1.fr b hb).trans (by rw [hsame])
        | j + 3 => simp at hp
    · exact h.elim
  · exact h.elim
theorem yW_sound {o : Oper} {ev : Operand → AV} {a : Operand → Value} (hσ : SimH F μ σ w) (hnew : μ nid = none) (hev : ∀ x, RV F μ w (a x) (ev x)) (h : yW P o.op ev σ nid K) : WOutN P F μ σ w nid K (execOp a o) := by
  obtain ⟨dst, op, ty, pos, after, guard⟩ := o
  have gen : xW P op (fun x => uc (ev x)) σ nid K → WOutN P F μ σ w nid K (execOp a { dst := dst, op := op, type := ty, pos := pos, after := after, guard := guard }) := fun h => xW_sound (o := { dst := dst, op := op, type := ty, pos := pos, after := after, guard := guard }) hσ hnew (fun x => (hev x).uc) h
  cases op <;> simp only [yW] at h
  case makeMap t n =>
    cases n with
    | none =>
      simp only at h
      split at h
      · rename_i kt e hT; exact (makeMap_sound hσ hnew hT h).next
      · exact h.elim
    | some _ => exact h.elim
  case makeChan t n =>
    have := (chanK_sound (P := P) hσ hnew (hev n) h).next
    simpa [execOp] using this
  case store t x y =>
    obtain ⟨us, w', F', h1, h2, h3, h4⟩ := yStore_sound (P := P) hσ (hev x).uc (hev y).uc h
    refine ⟨undefA, us, undef, w', F', μ, h1, .inr ⟨?_, rfl⟩, h3, h4, .p (.tup _ _ rfl (by simp)), fun _ _ => rfl⟩
    simp [execOp, h2]
  case buildSlice t n parts =>
    split at h
    · rename_i hp
      have hpe : parts = #[] := by apply Array.ext'; simpa using hp
      subst hpe
      have := (emptyLitK_sound (P := P) hσ hnew h).next
      simpa [execOp] using this
    · exact gen (by simpa using h)
  case convert s d x =>
    split at h
    · rename_i o sz i len hxx
      have := (byteK_sound (P := P) (nid := nid) hσ (by have := (hev x).uc; rwa [hxx] at this) h).next
      simpa [execOp] using this
    · exact gen (by simpa using h)
  case mapUpdate t m k v =>
    obtain ⟨us, w', μ', h1, h2, h3, h4, h5⟩ := putK_sound (P := P) hσ (hev m) (hev k) (hev v) h
    refine ⟨undefA, us, undef, w', F, μ', h1, .inr ⟨?_, rfl⟩, h3, h4, .p (.tup _ _ rfl (by simp)), fun o _ => h5 o⟩
    simp [execOp, h2]
  case insert t m k v =>
    obtain ⟨us, w', μ', h1, h2, h3, h4, h5⟩ := putK_sound (P := P) hσ (hev m) (hev k) (hev v) h
    refine ⟨undefA, us, undef, w', F, μ', h1, .inr ⟨?_, rfl⟩, h3, h4, .p (.tup _ _ rfl (by simp)), fun o _ => h5 o⟩
    simp [execOp, h2]
  case call c =>
    obtain ⟨callee, args, ats⟩ := c
    split at h
    · rename_i x y t xt hc harg h1 h2
      simp only at hc harg h1 h2
      subst hc
      have hargs : args = #[x, y] := by apply Array.ext'; simpa using harg
      subst hargs
      have hap : WOut P F μ σ w nid K (Builtin.append_ #[t, xt] ty #[a x, a y]) := by
        unfold zAppend at h
        split at h
        · rename_i hti
          exact growA_sound hσ hnew (hev x) (hev y) hti h
        · have yap : ∀ {va : Value} {b : AV}, RV F μ w va b → yAppend P t xt b (uc (ev y)) σ nid K → WOut P F μ σ w nid K (Builtin.append_ #[t, xt] ty #[va, a y]) := fun hb h => by
            unfold yAppend at h
            split at h
            · exact appendZ_sound hσ hnew hb (hev y).uc h
            · exact rowAppend_sound hσ hnew hb (hev y).uc h
          split at h
          · rename_i o sz i len cap hcs
            have hxx := hev x
            rw [hcs] at hxx
            rcases h.h with h | h
            · exact yap hxx.uc h
            · exact emptyK_sound hσ hxx (hev y) h
          · exact yap (hev x).uc h
      have := hap.next
      have e : execOp a { dst := dst, op := .call { callee := .builtin .append, args := #[x, y], argTypes := ats }, type := ty, pos := pos, after := after, guard := guard } = (do pure (.value (← Builtin.append_ ats ty (#[x, y].map a)))) := rfl
      have e2 : Builtin.append_ ats ty (#[x, y].map a) = Builtin.append_ #[t, xt] ty #[a x, a y] := by
        simp only [Builtin.append_, h1, h2, List.map_toArray, List.map_cons, List.map_nil]; rfl
      rw [e, e2]; exact this
    · rename_i x y t hc harg h1
      simp only at hc harg h1
      subst hc
      have hargs : args = #[x, y] := by apply Array.ext'; simpa using harg
      subst hargs
      have hcp : WOut P F μ σ w nid K (Builtin.copy_ #[t, 0] ty #[a x, a y]) := by
        unfold yCopy at h
        split at h
        · rename_i o sz i len o2 sz2 i2 n hx hy
          have hxx := (hev x).uc
          have hyy := (hev y).uc
          rw [hx] at hxx; rw [hy] at hyy
          split at h
          · rename_i heq
            have := Nat.eq_of_beq_eq_true heq
            subst this
            exact selfCopy_sound hσ hxx hyy h
          · exact rowCopy_sound hσ hxx hyy h
        · exact rowCopy_sound hσ (hev x).uc (hev y).uc h
      have := hcp.next
      have e : execOp a { dst := dst, op := .call { callee := .builtin .copy, args := #[x, y], argTypes := ats }, type := ty, pos := pos, after := after, guard := guard } = (do pure (.value (← Builtin.copy_ ats ty (#[x, y].map a)))) := rfl
      have e2 : Builtin.copy_ ats ty (#[x, y].map a) = Builtin.copy_ #[t, 0] ty #[a x, a y] := by
        simp only [Builtin.copy_, h1, List.map_toArray, List.map_cons, List.map_nil]; rfl
      rw [e, e2]
      exact this
    · rename_i x t hc harg h1
      simp only at hc harg h1
      subst hc
      have hargs : args = #[x] := by apply Array.ext'; simpa using harg
      subst hargs
      have := (clearK_sound (nid := nid) (ty := ty) hσ (hev x).uc h).next
      have e : execOp a { dst := dst, op := .call { callee := .builtin .clear, args := #[x], argTypes := ats }, type := ty, pos := pos, after := after, guard := guard } = (do pure (.value (← Builtin.clear_ ats ty (#[x].map a)))) := rfl
      have e2 : Builtin.clear_ ats ty (#[x].map a) = Builtin.clear_ #[t] ty #[a x] := by
        simp only [Builtin.clear_, h1, List.map_toArray, List.map_cons, List.map_nil]; rfl
      rw [e, e2]
      exact this
    · exact h.elim
  all_goals exact gen h
end
end Go.Sg
