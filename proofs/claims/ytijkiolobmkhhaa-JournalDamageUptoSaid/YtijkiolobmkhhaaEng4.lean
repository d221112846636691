/- A part of the proof: the engine, that follows the model step by step with abstract values; no program in sight. -/
import Derived.Test.YtijkiolobmkhhaaEng3
import Derived.JoinedCond
import Derived.Deep.CondSized
set_option linter.unusedSimpArgs false
set_option linter.unusedVariables false
set_option linter.unnecessarySimpa false
namespace Go.Sg
open Go Go.ChangeShapes Go.WideShapes
/-- A measure of data. -/
structure Bulk where
  one : {H : Type} → DataW H → Nat
  all : {H : Type} → List (DataW H) → Nat
  cons : ∀ {H : Type} (d : DataW H) r, all (d :: r) = one d + all r
  slice : ∀ {H : Type} (e s : List (DataW H)), all e + 1 ≤ one (.slice e s)
  nil : ∀ {H : Type}, 1 ≤ one (.nil : DataW H)
  agg : ∀ {H : Type} (ps : List (DataW H)), all ps ≤ one (.agg ps)
  lit : ∀ {H : Type} (l : Lit), 1 ≤ one (.lit l : DataW H)
theorem Bulk.sum_le (B : Bulk) {H : Type} : ∀ (els : List (DataW H)) {len : Nat}, els.length = len → ∀ g : Nat → Nat, (∀ i, i < len → g i ≤ B.one (els.getD i .nil)) → ((List.range len).map g).sum ≤ B.all els
  | [], len, h, g, _ => by subst h; exact Nat.zero_le _
  | d :: r, len, h, g, hg => by
    subst h
    have ih := B.sum_le r rfl (fun i => g (i + 1)) (fun i hi => hg (i + 1) (by rw [List.length_cons]; omega))
    have h0 := hg 0 (by simp)
    rw [List.length_cons, List.range_succ_eq_map, List.map_cons, List.map_map, List.sum_cons, B.cons]
    exact Nat.add_le_add h0 ih
/-- Cells that read as data of the type stand for an x, that is no larger than the data. -/
structure RdcB (B : Bulk) (P : Program) (t : TypeId) (α : Type) (ec : α → List PV) (ok : α → Prop) (bd : α → Nat) : Prop where
  sz : ∀ x, ok x → (ec x).length = P.cellsOf t
  one : ∀ x, ok x → ∀ c ∈ ec x, c.one = true
  rd : ∀ {H : Type} {enc : TypeId × Value → H} {w : World} {n : Nat} {cs : List Value} {y}, DataW.trod enc P w 0 (fun _ => true) true n t cs = some y → (∀ k ∈ DataW.weights P t y.1, k ≤ reachBytes) →
    ∃ x, ok x ∧ bd x ≤ B.one y.1 ∧ cs.length = P.cellsOf t ∧ ∀ (i : Nat) p, (ec x)[i]? = some p → RP (allB w) w (cs[i]?.getD undef) p
section
variable {B : Bulk} {P : Program} {t e : TypeId} {α β : Type} {ec : α → List PV} {ok : α → Prop} {bd : α → Nat}
theorem Rdc.toB (h : Rdc P t α ec ok) : RdcB B P t α ec ok (fun _ => 0) where
  sz := h.sz
  one := h.one
  rd hr hw := by
    obtain ⟨x, h1, h2, h3⟩ := h.rd hr hw
    exact ⟨x, h1, Nat.zero_le _, h2, h3⟩
theorem RdcB.map {ec' : β → List PV} {ok' : β → Prop} {bd' : β → Nat} (h : RdcB B P t α ec ok bd) (f : α → β) (g : β → α) (hg : ∀ x, f (g x) = x) (he : ∀ x, ok x → ec' (f x) = ec x) (ho : ∀ x, ok x → ok' (f x)) (hb : ∀ y, ok' y → ok (g y)) (hbd : ∀ x, bd' (f x) ≤ bd x) : RdcB B P t β ec' ok' bd' where
  sz y hy := by rw [← hg y, he _ (hb y hy)]; exact h.sz _ (hb y hy)
  one y hy := by rw [← hg y, he _ (hb y hy)]; exact h.one _ (hb y hy)
  rd hr hw := by
    obtain ⟨x, h1, h0, h2, h3⟩ := h.rd hr hw
    exact ⟨f x, ho x h1, Nat.le_trans (hbd x) h0, h2, fun i p hp => h3 i p (by rw [← he x h1]; exact hp)⟩
theorem RdcB.int {k : IntKind} (ht : P.underlying t = some (.int k)) (hc : P.cellsOf t = 1) : RdcB B P t Int (fun n => [.int k n]) (fun n => (Lit.int k n).wf = true) (fun _ => 1) where
  sz _ _ := by rw [hc]; rfl
  one _ _ c hc := by simp at hc; subst hc; rfl
  rd hr _ := by
    obtain ⟨n, rfl, hd, hw⟩ := DataW.trod_int ht hr
    exact ⟨n, hw, by rw [hd]; exact B.lit _, by rw [hc]; rfl, fun i p hp => by
      cases i with
      | zero => simp at hp; subst hp; exact .int k n
      | succ i => simp at hp⟩
theorem RdcB.slice {sz : Nat} {ep : α → PV} (ht : P.underlying t = some (.slice e)) (hc : P.cellsOf t = 1) (h : RdcB B P e α ec ok bd) (hz : P.cellsOf e = sz) (h0 : 0 < sz) (hbt : 0 < P.bytesOf e) (hcells : ∀ x, ok x → (ep x).cells = ec x) :
    RdcB B P t (List α) (fun l => [.sl sz false (l.map ep)]) (fun l => l.length ≤ reachBytes ∧ ∀ x ∈ l, ok x) (fun l => (l.map bd).sum + 1) where
  sz _ _ := by rw [hc]; rfl
  one _ _ c hc := by simp at hc; subst hc; rfl
  rd := by
    intro H enc w n cs y hr hwt
    rcases DataW.trod_slice ht hr with ⟨rfl, rfl⟩ | ⟨a, len, cap, elems, rest, m, _, rfl, rfl, hb, hl, hm, hlen, hel, _, _⟩
    · refine ⟨[], ⟨by simp, by simp⟩, B.nil, by rw [hc]; rfl, fun i p hp => ?_⟩
      cases i with
      | zero => simp at hp; subst hp; exact .esl none 0 sz false (Nat.zero_le _) (fun _ => rfl) (fun h => by cases h)
      | succ i => simp at hp
    · have hlenb : len ≤ reachBytes := by
        have h1 := hwt ((elems.length + rest.length) * P.bytesOf e) (by simp [DataW.weights, ht])
        have h2 : len ≤ (elems.length + rest.length) * P.bytesOf e := by
          rw [← hlen]
          calc elems.length ≤ elems.length + rest.length := Nat.le_add_right _ _
            _ ≤ (elems.length + rest.length) * P.bytesOf e := Nat.le_mul_of_pos_right _ hbt
        omega
      have each : ∀ i, i < len → ∃ cs' x, w.cells? 0 (a.add (i * sz)) sz = some cs' ∧ (ok x ∧ bd x ≤ B.one ((elems.map (·.1)).getD i .nil)) ∧ cs'.length = sz ∧ ∀ (j : Nat) p, (ec x)[j]? = some p → RP (allB w) w (cs'[j]?.getD undef) p := by
        intro i hi
        have h1 := hel i hi
        rw [List.getElem?_eq_getElem (by omega)] at h1
        obtain ⟨cs', k1, k2⟩ := Option.bind_eq_some_iff.1 h1
        obtain ⟨x, q1, q0, q2, q3⟩ := h.rd k2 (fun k hk => hwt k (by
          simp only [DataW.weights, ht, List.mem_cons, List.mem_append]
          exact .inr (.inl (mem_weightsAll (List.mem_map.2 ⟨_, List.getElem_mem _, rfl⟩) hk))))
        rw [hz] at k1 q2
        exact ⟨cs', x, k1, ⟨q1, by rw [List.getD, List.getElem?_map, List.getElem?_eq_getElem (by omega)]; exact q0⟩, q2, q3⟩
      rcases Nat.eq_zero_or_pos len with hl0 | hlp
      · subst hl0
        refine ⟨[], ⟨by simp, by simp⟩, Nat.le_trans (Nat.succ_le_succ (Nat.zero_le _)) (B.slice _ _), by rw [hc]; rfl, fun i p hp => ?_⟩
        cases i with
        | zero => simp at hp; subst hp; exact .esl (some a) cap sz false hm (fun h => by cases h) (fun h => by cases h)
        | succ i => simp at hp
      · have hcellOf : ∀ i cs', i < len → w.cells? 0 (a.add (i * sz)) sz = some cs' → cs'.length = sz → ∀ j, j < sz → (i * sz + j = 0 → a.spot = none) ∧ w.cell? ⟨a.block, a.off + i * sz + j, none⟩ = some (cs'[j]?.getD undef) := by
          intro i cs' hi hcs hcl j hj
          obtain ⟨_, _, hg⟩ := World.cells?_some hcs
          have h1 := hg j hj
          rw [List.getElem?_eq_getElem (by omega)] at h1
          have h2 := h1
          have e0 : (a.add (i * sz)).add j = a.add (i * sz + j) := by
            unfold Addr.add
            by_cases hi : i * sz = 0 <;> by_cases hj : j = 0 <;> simp [hi, hj, Nat.add_assoc]
          rw [e0] at h1
          obtain ⟨g1, g2⟩ := addr_none h1
          refine ⟨g1, ?_⟩
          rw [Nat.add_assoc, g2, List.getElem?_eq_getElem (by omega)]; rfl
        classical
        let fx : Nat → α := fun i => if hi : i < len then Classical.choose (Classical.choose_spec (each i hi)) else Classical.choose (Classical.choose_spec (each 0 hlp))
        let fc : Nat → List Value := fun i => if hi : i < len then Classical.choose (each i hi) else []
        have hfx : ∀ i, i < len → w.cells? 0 (a.add (i * sz)) sz = some (fc i) ∧ (ok (fx i) ∧ bd (fx i) ≤ B.one ((elems.map (·.1)).getD i .nil)) ∧ (fc i).length = sz ∧ ∀ (j : Nat) p, (ec (fx i))[j]? = some p → RP (allB w) w ((fc i)[j]?.getD undef) p := by
          intro i hi
          have := Classical.choose_spec (Classical.choose_spec (each i hi))
          simp only [fx, fc, hi, dif_pos]
          exact this
        have hsp : a.spot = none := by
          obtain ⟨k1, _, k3, _⟩ := hfx 0 hlp
          exact (hcellOf 0 _ hlp k1 k3 0 h0).1 (by simp)
        have ha : a = ⟨a.block, a.off, none⟩ := by cases a; simp_all
        have hblk : a.block < w.heap.size := by
          obtain ⟨k1, _, k3, _⟩ := hfx 0 hlp
          exact cells_lt (hcellOf 0 _ hlp k1 k3 0 h0).2
        have hget : ∀ (i : Nat) p, ((List.range len).map (fun i => ep (fx i)))[i]? = some p → i < len ∧ p = ep (fx i) := by
          intro i p hp
          simp only [List.getElem?_map, Option.map_eq_some_iff] at hp
          obtain ⟨k, hk, rfl⟩ := hp
          obtain ⟨g1, g2⟩ := List.getElem?_eq_some_iff.1 hk
          simp at g1 g2
          subst g2
          exact ⟨g1, rfl⟩
        refine ⟨(List.range len).map fx, ⟨by simpa using hlenb, by
          intro x hx
          simp only [List.mem_map, List.mem_range] at hx
          obtain ⟨i, hi, rfl⟩ := hx
          exact (hfx i hi).2.1.1⟩, by
          rw [List.map_map]
          exact Nat.le_trans (Nat.succ_le_succ (B.sum_le (elems.map (fun z : DataW H × List MemPlace => z.1)) (len := len) (by rw [List.length_map]; exact hlen) _ fun i hi => (hfx i hi).2.1.2)) (B.slice _ _), by rw [hc]; rfl, fun i p hp => ?_⟩
        cases i with
        | succ i => simp at hp
        | zero =>
          simp at hp; subst hp
          show RP (allB w) w (.slice (some a) len cap) _
          rw [ha]
          refine RP.sl a.block a.off len cap sz false _ (fun i j => (fc i)[j]?.getD undef) hblk (by simp) hl hm (fun h => by cases h) ?_ ?_ ?_
          · intro i p hp
            obtain ⟨h1, rfl⟩ := hget i p (by simpa [Function.comp] using hp)
            obtain ⟨_, ⟨k2, _⟩, _⟩ := hfx i h1
            exact ⟨by rw [hcells _ k2, h.sz _ k2, hz], by rw [hcells _ k2]; exact h.one _ k2⟩
          · intro i p j q hp hq
            obtain ⟨h1, rfl⟩ := hget i p (by simpa [Function.comp] using hp)
            obtain ⟨k1, ⟨k2, _⟩, k3, _⟩ := hfx i h1
            have hj : j < sz := by
              have := (List.getElem?_eq_some_iff.1 hq).1
              rw [hcells _ k2, h.sz _ k2, hz] at this; exact this
            exact (hcellOf i _ h1 k1 k3 j hj).2
          · intro i p j q hp hq
            obtain ⟨h1, rfl⟩ := hget i p (by simpa [Function.comp] using hp)
            obtain ⟨k1, ⟨k2, _⟩, k3, k4⟩ := hfx i h1
            rw [hcells _ k2] at hq
            exact k4 j q hq


/-- The fields of a struct, from an offset on. -/
structure RdfB (B : Bulk) (P : Program) (off : Nat) (fs : List Field) (α : Type) (ec : α → List PV) (ok : α → Prop) (bd : α → Nat) : Prop where
  sz : ∀ x, ok x → (ec x).length = (fs.map fun f => P.cellsOf f.type).sum
  one : ∀ x, ok x → ∀ c ∈ ec x, c.one = true
  rd : ∀ {H : Type} {enc : TypeId × Value → H} {w : World} {n : Nat} {cs : List Value} {xs : List (DataW H)}, xs.length = fs.length → (∀ (i : Nat) f, fs[i]? = some f → ∃ y, DataW.trod enc P w 0 (fun _ => true) true n f.type ((cs.drop f.offset).take (P.cellsOf f.type)) = some y ∧ xs[i]? = some y.1 ∧ ∀ k ∈ DataW.weights P f.type y.1, k ≤ reachBytes) →
    ∃ x, ok x ∧ bd x ≤ B.all xs ∧ ∀ (i : Nat) p, (ec x)[i]? = some p → RP (allB w) w (cs[off + i]?.getD undef) p
theorem RdfB.nil {off : Nat} : RdfB B P off [] Unit (fun _ => []) (fun _ => True) (fun _ => 0) where
  sz _ _ := rfl
  one _ _ c hc := by simp at hc
  rd _ _ := ⟨(), trivial, Nat.zero_le _, fun i p hp => by simp at hp⟩
theorem RdfB.cons {off off' : Nat} {f : Field} {fs : List Field} {ec' : β → List PV} {ok' : β → Prop} {bd' : β → Nat} (h : RdcB B P f.type α ec ok bd) (k : RdfB B P off' fs β ec' ok' bd') (hoff : f.offset = off) (ho : off' = off + P.cellsOf f.type) :
    RdfB B P off (f :: fs) (α × β) (fun x => ec x.1 ++ ec' x.2) (fun x => ok x.1 ∧ ok' x.2) (fun x => bd x.1 + bd' x.2) := by
 subst ho; exact {
  sz := fun x hx => by simp [h.sz _ hx.1, k.sz _ hx.2]
  one := fun x hx c hc => by
    rcases List.mem_append.1 hc with hc | hc
    · exact h.one _ hx.1 c hc
    · exact k.one _ hx.2 c hc
  rd := by
    intro H enc w n cs xs hlen hf
    obtain ⟨y, hy, hy0, hyw⟩ := hf 0 f rfl
    cases xs with
    | nil => simp at hlen
    | cons d xs =>
    obtain ⟨x, h1, h0, h2, h3⟩ := h.rd hy hyw
    obtain ⟨x', k1, k0, k2⟩ := k.rd (cs := cs) (xs := xs) (by simpa using hlen) (fun i g hg => by
      obtain ⟨z, z1, z2, z3⟩ := hf (i + 1) g (by simpa using hg)
      exact ⟨z, z1, by simpa using z2, z3⟩)
    refine ⟨(x, x'), ⟨h1, k1⟩, ?_, fun i p hp => ?_⟩
    · rw [B.cons]
      simp at hy0; subst hy0
      exact Nat.add_le_add h0 k0
    have hp : (ec x ++ ec' x')[i]? = some p := hp
    rw [List.getElem?_append, h.sz x h1] at hp
    split at hp
    · rename_i hi
      have := h3 i p hp
      rw [List.getElem?_take, if_pos hi, List.getElem?_drop, hoff] at this
      exact this
    · rename_i hi
      have := k2 _ p hp
      rw [show off + P.cellsOf f.type + (i - P.cellsOf f.type) = off + i by omega] at this
      exact this }
theorem RdcB.struct {fs : Array Field} (ht : P.underlying t = some (.struct fs)) (h : RdfB B P 0 fs.toList α ec ok bd) (hc : P.cellsOf t = (fs.toList.map fun f => P.cellsOf f.type).sum) : RdcB B P t α ec ok bd where
  sz x hx := by rw [h.sz x hx, hc]
  one := h.one
  rd := by
    intro H enc w n cs y hr hwt
    obtain ⟨xs, m, _, hy, hl, hlen, hf⟩ := DataW.trod_struct ht hr
    subst hy
    obtain ⟨x, h1, h0, h2⟩ := h.rd (enc := enc) (w := w) (n := m) (cs := cs) (xs := xs.map (·.1)) (by simpa using hlen) (fun i f e => by
      have e : fs[i]? = some f := by simpa using e
      have := hf i f e
      have hi : i < xs.length := by
        have := (Array.getElem?_eq_some_iff.1 e).1
        omega
      rw [List.getElem?_eq_getElem hi] at this
      refine ⟨_, this, by rw [List.getElem?_map, List.getElem?_eq_getElem hi]; rfl, fun k hk => hwt k ?_⟩
      simp only [DataW.weights, ht]
      exact DataW.weights_mem_each (j := i) (by rw [List.getElem?_map, Array.getElem?_toList, e]; rfl) (by rw [List.getElem?_map, List.getElem?_eq_getElem hi]; rfl) k hk)
    exact ⟨x, h1, Nat.le_trans h0 (B.agg _), hl, fun i p hp => by have := h2 i p hp; rwa [Nat.zero_add] at this⟩
/-- A value that reads as data of the type stands for an x, that is no larger. -/
def RdaB (B : Bulk) (P : Program) (t : TypeId) (α : Type) (ev : α → PV) (ok : α → Prop) (bd : α → Nat) : Prop :=
  ∀ {H : Type} {enc : TypeId × Value → H} {w : World} {r : Reach} {b0 : Nat} {v : Value} {d : DataW H} {ps : List MemPlace}, Value.okWide P w r b0 t v → DataW.Trod enc P w 0 (fun _ => true) true t v d ps → (∀ k ∈ DataW.weights P t d, k ≤ reachBytes) → ∃ x, ok x ∧ bd x ≤ B.one d ∧ RP (allB w) w v (ev x)
theorem Rda.toB {ev : α → PV} (h : Rda P t α ev ok) : RdaB B P t α ev ok (fun _ => 0) := by
  intro H enc w r b0 v d ps hv hd hwt
  obtain ⟨x, h1, h2⟩ := h hv hd hwt
  exact ⟨x, h1, Nat.zero_le _, h2⟩
theorem RdaB.agg (h : RdcB B P t α ec ok bd) (ht : aggT P t = true) : RdaB B P t α (fun x => .agg (ec x)) ok bd := by
  intro H enc w r b0 v d ps hv hd hwt
  obtain ⟨n, hn⟩ := hd
  obtain ⟨x, h1, h0, h2, h3⟩ := h.rd hn hwt
  refine ⟨x, h1, h0, ?_⟩
  have hv' : ∃ cs, v = .agg cs := by
    unfold aggT at ht
    unfold Value.okWide at hv
    split at ht <;> simp_all
    · obtain ⟨cs, e, _⟩ := hv; exact ⟨cs, e⟩
    · obtain ⟨cs, e, _⟩ := hv; exact ⟨cs, e⟩
  obtain ⟨cs, rfl⟩ := hv'
  have hl : cs.size = P.cellsOf t := by simpa [Value.cells] using h2
  refine .agg cs _ (by rw [hl, h.sz x h1]) fun i p hp => ?_
  have := h3 i p hp
  simpa [Value.cells] using this
theorem RdaB.one {ev : α → PV} (h : RdcB B P t α (fun x => [ev x]) ok bd) (ht : aggT P t = false) : RdaB B P t α ev ok bd := by
  intro H enc w r b0 v d ps hv hd hwt
  obtain ⟨n, hn⟩ := hd
  obtain ⟨x, h1, h0, h2, h3⟩ := h.rd hn hwt
  refine ⟨x, h1, h0, ?_⟩
  have hv' : v.cells = #[v] := by
    cases v <;> try rfl
    exfalso
    rename_i cs
    unfold aggT at ht
    unfold Value.okWide Cell.okWide Cell.ok at hv
    split at ht <;> try (cases ht; done)
    cases hu : P.underlying t with
    | none => simp [hu] at hv
    | some u => cases u <;> simp_all
  have := h3 0 _ rfl
  rw [hv'] at this
  simpa using this
/-- All arguments. -/
def ArgRB (B : Bulk) (P : Program) (ts : List TypeId) (A : Type) (ev : A → List PV) (ok : A → Prop) (bd : A → Nat) : Prop :=
  ∀ {H : Type} {enc : TypeId × Value → H} {w : World} {r : Reach} {b0 : Nat} {vs : List Value} {ds : List (DataW H)} {ps : List MemPlace}, (∀ (j : Nat) t v, ts[j]? = some t → vs[j]? = some v → Value.okWide P w r b0 t v) →
    DataW.TrodAll enc P w 0 (fun _ => true) true ts vs ds ps → (∀ k ∈ DataW.weightsEach P ts ds, k ≤ reachBytes) → ∃ a, ok a ∧ bd a ≤ B.all ds ∧ vs.length = (ev a).length ∧ ∀ (i : Nat) p, (ev a)[i]? = some p → RP (allB w) w (vs[i]?.getD undef) p
theorem ArgRB.nil : ArgRB B P [] Unit (fun _ => []) (fun _ => True) (fun _ => 0) := by
  intro H enc w r b0 vs ds ps _ h _
  obtain ⟨rfl, rfl, rfl⟩ := trodAll_nil h
  exact ⟨(), trivial, Nat.zero_le _, rfl, fun i p hp => by simp at hp⟩
theorem ArgRB.cons {ts : List TypeId} {ev : α → PV} {A : Type} {ev' : A → List PV} {ok' : A → Prop} {bd' : A → Nat} (h : RdaB B P t α ev ok bd) (k : ArgRB B P ts A ev' ok' bd') : ArgRB B P (t :: ts) (α × A) (fun x => ev x.1 :: ev' x.2) (fun x => ok x.1 ∧ ok' x.2) (fun x => bd x.1 + bd' x.2) := by
  intro H enc w r b0 vs ds ps hv hd hw
  obtain ⟨v, vs', d, ds', p, q, rfl, rfl, rfl, h1, h2⟩ := trodAll_cons hd
  obtain ⟨x, a1, a0, a2⟩ := h (hv 0 t v rfl rfl) h1 (fun n hn => hw n (by simp only [DataW.weightsEach, List.mem_append]; exact .inl hn))
  obtain ⟨y, b1, b0, b2, b3⟩ := k (fun j t v ht hv' => hv (j + 1) t v (by simpa using ht) (by simpa using hv')) h2 (fun n hn => hw n (by simp only [DataW.weightsEach, List.mem_append]; exact .inr hn))
  refine ⟨(x, y), ⟨a1, b1⟩, by rw [B.cons]; exact Nat.add_le_add a0 b0, by simp [b2], fun i p hp => ?_⟩
  cases i with
  | zero => simp at hp; subst hp; exact a2
  | succ i => simpa using b3 i p (by simpa using hp)
/-- From a law's contract to what its narrowed row asks. -/
theorem law_upto {C : Checked} {os : Os} {f : FuncId} {fn : Func} {s : ChangeSpec} {N : Nat} {k : (H : Type) → List (DataW H) → Bool} {H : Type} {enc : TypeId × Value → H} {F0 : Stop.Interp} {A : Type} {ev : A → List PV} {ok : A → Prop} {bd : A → Nat} {tb : TypeId} (own : ownKnob C.prog.godebug = none) (started : os.Started) (noInit : C.prog.inits.idxOf? f = none)
    (hfn : C.prog.funcs[f]? = some fn)
    (hkB : ∀ ds : List (DataW H), k H ds = true → B.all ds ≤ N)
    (witness : ∃ (w : World) (tape : Tape) (i : Input), w.os = os ∧ (w.forCall tape i).Shaped C.prog ∧ i.vars = [] ∧ Input.okWide C.prog (w.forCall tape i) .any w.heap.size f i ∧
      ({ OpenSpec.ofChange s with cond := some k } : OpenSpec).pre6 enc C.prog fn [] false (w.forCall tape i).memory i.args ∧ ({} : Assume).holds C.prog (lone (Frame.enter C.prog f i.args .normal) [] (w.forCall tape i)))
    (hl : laidOutB C.prog = true) (hmr : mapsRowed C.prog = true) (hz : ((List.range C.prog.types.size).all fun t => match C.prog.underlying t with | some (.slice e) => decide (0 < C.prog.cellsOf e) | _ => true) = true)
    (hts : (fn.params.toList.all fun t => decide (t < C.prog.types.size)) = true) (hv0 : s.vars = [])
    (hrt : fn.resultTypes = #[tb]) (hbt : C.prog.underlying tb = some .bool)
    (hspec : ∀ ds : List (DataW H), ds.length = fn.params.size → s.fn H ds = { results := [.lit (.bool true)], args := ds })
    (hA : ArgRB B C.prog fn.params.toList A ev ok bd) (hlaw : ∀ a, ok a → bd a ≤ N → PCalls C.prog f (ev a) (.bool true)) :
    ReturnsInHanded {} C os f .any (({ OpenSpec.ofChange s with cond := some k } : OpenSpec).pre6 enc C.prog fn [] false) ((({ OpenSpec.ofChange s with cond := some k } : OpenSpec).at F0).post enc C.prog fn false true false false) := by
  refine returnsInHanded_of_cond_sized (k := k) rfl own started noInit hfn witness ?_
  intro W base args ds gs before hval hW _ hkk hwt _
  have hW' := hW
  obtain ⟨p, q, hT, hV, rfl, hfz, hnd⟩ := hW'
  have hgs : gs = [] := by
    have hV : DataW.TrodVars enc C.prog W (fun _ => true) s.vars gs q := hV
    rw [hv0] at hV
    cases gs with
    | nil => rfl
    | cons g r => simp [DataW.TrodVars] at hV
  subst hgs
  have hvt : ({ OpenSpec.ofChange s with cond := some k } : OpenSpec).bare.plain.varTypes C.prog = [] := by
    show ({ name := s.name, vars := s.vars, fn := _ } : ChangeSpec).plain.varTypes C.prog = []
    simp [DataSpec.varTypes, ChangeSpec.plain, hv0]
  rw [hvt, List.append_nil, List.append_nil] at hwt
  rw [List.append_nil] at hkk
  obtain ⟨a, a1, a0, a2, a3⟩ := hA (fun j t v ht hv => hval j t v (by simpa using ht) (by simpa using hv)) hT (fun k hk => by simpa using List.all_eq_true.1 hwt k hk)
  have hcall := hlaw a a1 (Nat.le_trans a0 (hkB ds hkk)) (allB W) W args (fun b hb => hb) (by simpa using a2) (fun i p hp => by simpa using a3 i p hp)
  refine hcall.mono fun e W' ⟨v, F', he, hb, _, hv⟩ => ?_
  cases hv
  refine ⟨_, he, ?_⟩
  have hlen : ds.length = fn.params.size := by
    have := (trodAll_length hT).2
    simpa using this
  have hsp := hspec ds hlen
  exact law_post (s := s) (kids_rows hl hmr) (slices_full_of C.prog hz) (fun t ht => by simpa using List.all_eq_true.1 hts t ht) hW hb hv0 (by rw [List.append_nil, hsp]) (by rw [List.append_nil, hsp]) (by rw [List.append_nil, hsp]) hrt hbt
end
end Go.Sg
