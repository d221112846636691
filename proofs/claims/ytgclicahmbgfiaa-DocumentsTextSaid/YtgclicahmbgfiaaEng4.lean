/- A part of the proof: the engine, that follows the model step by step with abstract values; no program in sight. -/
import Derived.Test.YtgclicahmbgfiaaEng3
import Derived.ReadAgain
import Derived.JoinedOf
import Derived.Handed
import Derived.OpenShut
import Derived.ChangeSame
import Derived.SizedLaws
import Derived.ChangeCalls
set_option linter.unusedSimpArgs false
set_option linter.unusedVariables false
set_option linter.unnecessarySimpa false
namespace Go.Sg
open Go Go.ChangeShapes Go.WideShapes

theorem mem_weightsAll {H : Type} {P : Program} {e : TypeId} {n : Nat} : ∀ {ds : List (DataW H)} {d : DataW H}, d ∈ ds → n ∈ DataW.weights P e d → n ∈ DataW.weightsAll P e ds
  | x :: r, d, h, hn => by
    simp only [DataW.weightsAll, List.mem_append]
    rcases List.mem_cons.1 h with h | h
    · subst h; exact .inl hn
    · exact .inr (mem_weightsAll h hn)
/-- The blocks that are there. -/
def allB (w : World) : Nat → Prop := fun b => b < w.heap.size
/-- Cells that read as data of the type stand for an x. -/
structure Rdc (P : Program) (t : TypeId) (α : Type) (ec : α → List PV) (ok : α → Prop) : Prop where
  sz : ∀ x, ok x → (ec x).length = P.cellsOf t
  one : ∀ x, ok x → ∀ c ∈ ec x, c.one = true
  rd : ∀ {H : Type} {enc : TypeId × Value → H} {w : World} {n : Nat} {cs : List Value} {y}, DataW.trod enc P w 0 (fun _ => true) true n t cs = some y → (∀ k ∈ DataW.weights P t y.1, k ≤ reachBytes) →
    ∃ x, ok x ∧ cs.length = P.cellsOf t ∧ ∀ (i : Nat) p, (ec x)[i]? = some p → RP (allB w) w (cs[i]?.getD undef) p
section
variable {P : Program} {t e : TypeId} {α β : Type} {ec : α → List PV} {ok : α → Prop}
theorem Rdc.map {ec' : β → List PV} {ok' : β → Prop} (h : Rdc P t α ec ok) (f : α → β) (g : β → α) (hg : ∀ x, f (g x) = x) (he : ∀ x, ok x → ec' (f x) = ec x) (ho : ∀ x, ok x → ok' (f x)) (hb : ∀ y, ok' y → ok (g y)) : Rdc P t β ec' ok' where
  sz y hy := by rw [← hg y, he _ (hb y hy)]; exact h.sz _ (hb y hy)
  one y hy := by rw [← hg y, he _ (hb y hy)]; exact h.one _ (hb y hy)
  rd hr hw := by
    obtain ⟨x, h1, h2, h3⟩ := h.rd hr hw
    exact ⟨f x, ho x h1, h2, fun i p hp => h3 i p (by rw [← he x h1]; exact hp)⟩
theorem Rdc.int {k : IntKind} (ht : P.underlying t = some (.int k)) (hc : P.cellsOf t = 1) : Rdc P t Int (fun n => [.int k n]) (fun n => (Lit.int k n).wf = true) where
  sz _ _ := by rw [hc]; rfl
  one _ _ c hc := by simp at hc; subst hc; rfl
  rd hr _ := by
    obtain ⟨n, rfl, _, hw⟩ := DataW.trod_int ht hr
    exact ⟨n, hw, by rw [hc]; rfl, fun i p hp => by
      cases i with
      | zero => simp at hp; subst hp; exact .int k n
      | succ i => simp at hp⟩
theorem Rdc.bool (ht : P.underlying t = some .bool) (hc : P.cellsOf t = 1) : Rdc P t Bool (fun b => [.bool b]) (fun _ => True) where
  sz _ _ := by rw [hc]; rfl
  one _ _ c hc := by simp at hc; subst hc; rfl
  rd hr _ := by
    obtain ⟨b, rfl, _⟩ := DataW.trod_bool ht hr
    exact ⟨b, trivial, by rw [hc]; rfl, fun i p hp => by
      cases i with
      | zero => simp at hp; subst hp; exact .bool b
      | succ i => simp at hp⟩
theorem Rdc.str (ht : P.underlying t = some .string) (hc : P.cellsOf t = 1) : Rdc P t ByteArray (fun b => [.str b]) (fun b => b.size ≤ reachBytes) where
  sz _ _ := by rw [hc]; rfl
  one _ _ c hc := by simp at hc; subst hc; rfl
  rd hr hk := by
    obtain ⟨b, rfl, rfl, hw⟩ := DataW.trod_string ht hr
    exact ⟨b, by have := hk b.data.toList.length (by simp [DataW.weights]); simpa using this, by rw [hc]; rfl, fun i p hp => by
      cases i with
      | zero => simp at hp; subst hp; exact .str b
      | succ i => simp at hp⟩
theorem addr_none {w : World} {a : Addr} {i : Nat} {v : Value} (h : w.cell? (a.add i) = some v) : (i = 0 → a.spot = none) ∧ w.cell? ⟨a.block, a.off + i, none⟩ = some v := by
  obtain ⟨b, off, sp⟩ := a
  unfold Addr.add at h
  split at h
  · rename_i h0; subst h0
    cases sp with
    | none => exact ⟨fun _ => rfl, h⟩
    | some s =>
      exfalso
      unfold World.cell? at h
      split at h <;> simp at h
  · rename_i h0
    exact ⟨fun e => absurd e h0, h⟩
theorem cells_lt {w : World} {b off : Nat} {v : Value} (h : w.cell? ⟨b, off, none⟩ = some v) : b < w.heap.size := by
  unfold World.cell? at h
  split at h
  · rename_i hb; exact lt_of_get hb
  · cases h
theorem Rdc.slice {sz : Nat} {ep : α → PV} (ht : P.underlying t = some (.slice e)) (hc : P.cellsOf t = 1) (h : Rdc P e α ec ok) (hz : P.cellsOf e = sz) (h0 : 0 < sz) (hbt : 0 < P.bytesOf e) (hcells : ∀ x, ok x → (ep x).cells = ec x) :
    Rdc P t (List α) (fun l => [.sl sz false (l.map ep)]) (fun l => l.length ≤ reachBytes ∧ ∀ x ∈ l, ok x) where
  sz _ _ := by rw [hc]; rfl
  one _ _ c hc := by simp at hc; subst hc; rfl
  rd := by
    intro H enc w n cs y hr hwt
    rcases DataW.trod_slice ht hr with ⟨rfl, _⟩ | ⟨a, len, cap, elems, rest, m, _, rfl, rfl, hb, hl, hm, hlen, hel, _, _⟩
    · refine ⟨[], ⟨by simp, by simp⟩, by rw [hc]; rfl, fun i p hp => ?_⟩
      cases i with
      | zero => simp at hp; subst hp; exact .esl none 0 sz false (Nat.zero_le _) (fun _ => rfl) (fun h => by cases h)
      | succ i => simp at hp
    · have hlenb : len ≤ reachBytes := by
        have h1 := hwt ((elems.length + rest.length) * P.bytesOf e) (by simp [DataW.weights, ht])
        have h2 : len ≤ (elems.length + rest.length) * P.bytesOf e := by
          rw [← hlen]
          calc elems.length ≤ elems.length + rest.length := Nat.le_add_right _ _
            _ ≤ (elems.length + rest.length) * P.bytesOf e := Nat.le_mul_of_pos_right _ hbt
        omega
      have each : ∀ i, i < len → ∃ cs' x, w.cells? 0 (a.add (i * sz)) sz = some cs' ∧ ok x ∧ cs'.length = sz ∧ ∀ (j : Nat) p, (ec x)[j]? = some p → RP (allB w) w (cs'[j]?.getD undef) p := by
        intro i hi
        have h1 := hel i hi
        rw [List.getElem?_eq_getElem (by omega)] at h1
        obtain ⟨cs', k1, k2⟩ := Option.bind_eq_some_iff.1 h1
        obtain ⟨x, q1, q2, q3⟩ := h.rd k2 (fun k hk => hwt k (by
          simp only [DataW.weights, ht, List.mem_cons, List.mem_append]
          exact .inr (.inl (mem_weightsAll (List.mem_map.2 ⟨_, List.getElem_mem _, rfl⟩) hk))))
        rw [hz] at k1 q2
        exact ⟨cs', x, k1, q1, q2, q3⟩
      rcases Nat.eq_zero_or_pos len with hl0 | hlp
      · subst hl0
        refine ⟨[], ⟨by simp, by simp⟩, by rw [hc]; rfl, fun i p hp => ?_⟩
        cases i with
        | zero => simp at hp; subst hp; exact .esl (some a) cap sz false hm (fun h => by cases h) (fun h => by cases h)
        | succ i => simp at hp
      · have hcellOf : ∀ i cs', i < len → w.cells? 0 (a.add (i * sz)) sz = some cs' → cs'.length = sz → ∀ j, j < sz → (i * sz + j = 0 → a.spot = none) ∧ w.cell? ⟨a.block, a.off + i * sz + j, none⟩ = some (cs'[j]?.getD undef) := by
          intro i cs' hi hcs hcl j hj
          obtain ⟨_, _, hg⟩ := World.cells?_some hcs
          have h1 := hg j hj
          rw [List.getElem?_eq_getElem (by omega)] at h1
          have h2 := h1
          have e0 : (a.add (i * sz)).add j = a.add (i * sz + j) := by
            unfold Addr.add
            by_cases hi : i * sz = 0 <;> by_cases hj : j = 0 <;> simp [hi, hj, Nat.add_assoc]
          rw [e0] at h1
          obtain ⟨g1, g2⟩ := addr_none h1
          refine ⟨g1, ?_⟩
          rw [Nat.add_assoc, g2, List.getElem?_eq_getElem (by omega)]; rfl
        classical
        let fx : Nat → α := fun i => if hi : i < len then Classical.choose (Classical.choose_spec (each i hi)) else Classical.choose (Classical.choose_spec (each 0 hlp))
        let fc : Nat → List Value := fun i => if hi : i < len then Classical.choose (each i hi) else []
        have hfx : ∀ i, i < len → w.cells? 0 (a.add (i * sz)) sz = some (fc i) ∧ ok (fx i) ∧ (fc i).length = sz ∧ ∀ (j : Nat) p, (ec (fx i))[j]? = some p → RP (allB w) w ((fc i)[j]?.getD undef) p := by
          intro i hi
          have := Classical.choose_spec (Classical.choose_spec (each i hi))
          simp only [fx, fc, hi, dif_pos]
          exact this
        have hsp : a.spot = none := by
          obtain ⟨k1, _, k3, _⟩ := hfx 0 hlp
          exact (hcellOf 0 _ hlp k1 k3 0 h0).1 (by simp)
        have ha : a = ⟨a.block, a.off, none⟩ := by cases a; simp_all
        have hblk : a.block < w.heap.size := by
          obtain ⟨k1, _, k3, _⟩ := hfx 0 hlp
          exact cells_lt (hcellOf 0 _ hlp k1 k3 0 h0).2
        have hget : ∀ (i : Nat) p, ((List.range len).map (fun i => ep (fx i)))[i]? = some p → i < len ∧ p = ep (fx i) := by
          intro i p hp
          simp only [List.getElem?_map, Option.map_eq_some_iff] at hp
          obtain ⟨k, hk, rfl⟩ := hp
          obtain ⟨g1, g2⟩ := List.getElem?_eq_some_iff.1 hk
          simp at g1 g2
          subst g2
          exact ⟨g1, rfl⟩
        refine ⟨(List.range len).map fx, ⟨by simpa using hlenb, by
          intro x hx
          simp only [List.mem_map, List.mem_range] at hx
          obtain ⟨i, hi, rfl⟩ := hx
          exact (hfx i hi).2.1⟩, by rw [hc]; rfl, fun i p hp => ?_⟩
        cases i with
        | succ i => simp at hp
        | zero =>
          simp at hp; subst hp
          show RP (allB w) w (.slice (some a) len cap) _
          rw [ha]
          refine RP.sl a.block a.off len cap sz false _ (fun i j => (fc i)[j]?.getD undef) hblk (by simp) hl hm (fun h => by cases h) ?_ ?_ ?_
          · intro i p hp
            obtain ⟨h1, rfl⟩ := hget i p (by simpa [Function.comp] using hp)
            obtain ⟨_, k2, _⟩ := hfx i h1
            exact ⟨by rw [hcells _ k2, h.sz _ k2, hz], by rw [hcells _ k2]; exact h.one _ k2⟩
          · intro i p j q hp hq
            obtain ⟨h1, rfl⟩ := hget i p (by simpa [Function.comp] using hp)
            obtain ⟨k1, k2, k3, _⟩ := hfx i h1
            have hj : j < sz := by
              have := (List.getElem?_eq_some_iff.1 hq).1
              rw [hcells _ k2, h.sz _ k2, hz] at this; exact this
            exact (hcellOf i _ h1 k1 k3 j hj).2
          · intro i p j q hp hq
            obtain ⟨h1, rfl⟩ := hget i p (by simpa [Function.comp] using hp)
            obtain ⟨k1, k2, k3, k4⟩ := hfx i h1
            rw [hcells _ k2] at hq
            exact k4 j q hq

/-- The fields of a struct, from an offset on. -/
structure Rdf (P : Program) (off : Nat) (fs : List Field) (α : Type) (ec : α → List PV) (ok : α → Prop) : Prop where
  sz : ∀ x, ok x → (ec x).length = (fs.map fun f => P.cellsOf f.type).sum
  one : ∀ x, ok x → ∀ c ∈ ec x, c.one = true
  rd : ∀ {H : Type} {enc : TypeId × Value → H} {w : World} {n : Nat} {cs : List Value}, (∀ f ∈ fs, ∃ y, DataW.trod enc P w 0 (fun _ => true) true n f.type ((cs.drop f.offset).take (P.cellsOf f.type)) = some y ∧ ∀ k ∈ DataW.weights P f.type y.1, k ≤ reachBytes) →
    ∃ x, ok x ∧ ∀ (i : Nat) p, (ec x)[i]? = some p → RP (allB w) w (cs[off + i]?.getD undef) p
theorem Rdf.nil {off : Nat} : Rdf P off [] Unit (fun _ => []) (fun _ => True) where
  sz _ _ := rfl
  one _ _ c hc := by simp at hc
  rd _ := ⟨(), trivial, fun i p hp => by simp at hp⟩
theorem Rdf.cons {off off' : Nat} {f : Field} {fs : List Field} {ec' : β → List PV} {ok' : β → Prop} (h : Rdc P f.type α ec ok) (k : Rdf P off' fs β ec' ok') (hoff : f.offset = off) (ho : off' = off + P.cellsOf f.type) :
    Rdf P off (f :: fs) (α × β) (fun x => ec x.1 ++ ec' x.2) (fun x => ok x.1 ∧ ok' x.2) := by
 subst ho; exact {
  sz := fun x hx => by simp [h.sz _ hx.1, k.sz _ hx.2]
  one := fun x hx c hc => by
    rcases List.mem_append.1 hc with hc | hc
    · exact h.one _ hx.1 c hc
    · exact k.one _ hx.2 c hc
  rd := by
    intro H enc w n cs hf
    obtain ⟨y, hy, hyw⟩ := hf f (by simp)
    obtain ⟨x, h1, h2, h3⟩ := h.rd hy hyw
    obtain ⟨x', k1, k2⟩ := k.rd (cs := cs) (fun g hg => hf g (by simp [hg]))
    refine ⟨(x, x'), ⟨h1, k1⟩, fun i p hp => ?_⟩
    have hp : (ec x ++ ec' x')[i]? = some p := hp
    rw [List.getElem?_append, h.sz x h1] at hp
    split at hp
    · rename_i hi
      have := h3 i p hp
      rw [List.getElem?_take, if_pos hi, List.getElem?_drop, hoff] at this
      exact this
    · rename_i hi
      have := k2 _ p hp
      rw [show off + P.cellsOf f.type + (i - P.cellsOf f.type) = off + i by omega] at this
      exact this }
theorem Rdc.struct {fs : Array Field} (ht : P.underlying t = some (.struct fs)) (h : Rdf P 0 fs.toList α ec ok) (hc : P.cellsOf t = (fs.toList.map fun f => P.cellsOf f.type).sum) : Rdc P t α ec ok where
  sz x hx := by rw [h.sz x hx, hc]
  one := h.one
  rd := by
    intro H enc w n cs y hr hwt
    obtain ⟨xs, m, _, rfl, hl, hlen, hf⟩ := DataW.trod_struct ht hr
    obtain ⟨x, h1, h2⟩ := h.rd (enc := enc) (w := w) (n := m) (cs := cs) (fun f hfm => by
      obtain ⟨i, hi, he⟩ := List.getElem_of_mem hfm
      have hi' : i < fs.size := by simpa using hi
      have e : fs[i]? = some f := by rw [Array.getElem?_eq_getElem hi']; simpa using he
      have := hf i f e
      rw [List.getElem?_eq_getElem (by omega)] at this
      refine ⟨_, this, fun k hk => hwt k ?_⟩
      simp only [DataW.weights, ht]
      exact DataW.weights_mem_each (j := i) (by rw [List.getElem?_map, Array.getElem?_toList, e]; rfl) (by rw [List.getElem?_map, List.getElem?_eq_getElem (by omega)]; rfl) k hk)
    exact ⟨x, h1, hl, fun i p hp => by have := h2 i p hp; rwa [Nat.zero_add] at this⟩
theorem Rdc.array {n sz : Nat} (ht : P.underlying t = some (.array n e)) (h : Rdc P e α ec ok) (hz : P.cellsOf e = sz) (hc : P.cellsOf t = n * sz) (h0 : 0 < sz) : Rdc P t (List α) (fun l => l.flatMap ec) (fun l => l.length = n ∧ ∀ x ∈ l, ok x) where
  sz l hl := by
    rw [hc, ← hl.1]
    have : ∀ l : List α, (∀ x ∈ l, ok x) → (l.flatMap ec).length = l.length * sz := by
      intro l
      induction l with
      | nil => intro _; simp
      | cons x l ih =>
        intro hx
        rw [List.flatMap_cons, List.length_append, ih (fun y hy => hx y (by simp [hy])), h.sz x (hx x (by simp)), hz, List.length_cons, Nat.add_mul]; omega
    exact this l hl.2
  one l hl c hc := by
    obtain ⟨x, hx, hcx⟩ := List.mem_flatMap.1 hc
    exact h.one x (hl.2 x hx) c hcx
  rd := by
    intro H enc w k cs y hr hwt
    obtain ⟨xs, m, _, rfl, hl, hlen, hf⟩ := DataW.trod_array ht hr
    have each : ∀ i, i < n → ∃ x, ok x ∧ ∀ (j : Nat) p, (ec x)[j]? = some p → RP (allB w) w (cs[i * sz + j]?.getD undef) p := by
      intro i hi
      have h1 := hf i hi
      rw [List.getElem?_eq_getElem (by omega)] at h1
      obtain ⟨x, q1, q2, q3⟩ := h.rd h1 (fun k hk => hwt k (by
        simp only [DataW.weights, ht]
        exact mem_weightsAll (List.mem_map.2 ⟨_, List.getElem_mem _, rfl⟩) hk))
      refine ⟨x, q1, fun j p hp => ?_⟩
      have hj : j < P.cellsOf e := by rw [← h.sz x q1]; exact (List.getElem?_eq_some_iff.1 hp).1
      have := q3 j p hp
      rw [List.getElem?_take, if_pos hj, List.getElem?_drop, hz] at this
      exact this
    have build : ∀ k, k ≤ n → ∃ l : List α, l.length = k ∧ (∀ x ∈ l, ok x) ∧ ∀ (i : Nat) x, l[i]? = some x → ∀ (j : Nat) p, (ec x)[j]? = some p → RP (allB w) w (cs[i * sz + j]?.getD undef) p := by
      intro k
      induction k with
      | zero => intro _; exact ⟨[], rfl, by simp, by simp⟩
      | succ k ih =>
        intro hk
        obtain ⟨l, a1, a2, a3⟩ := ih (by omega)
        obtain ⟨x, b1, b2⟩ := each k (by omega)
        refine ⟨l ++ [x], by simp [a1], fun y hy => ?_, fun i y hy => ?_⟩
        · rcases List.mem_append.1 hy with hy | hy
          · exact a2 y hy
          · simp at hy; subst hy; exact b1
        · rw [List.getElem?_append] at hy
          split at hy
          · exact a3 i y hy
          · rename_i hi
            rw [a1] at hi hy
            have : i = k := by
              have := (List.getElem?_eq_some_iff.1 hy).1
              simp at this; omega
            subst this
            simp at hy; subst hy
            exact b2
    obtain ⟨l, a1, a2, a3⟩ := build n (Nat.le_refl _)
    refine ⟨l, ⟨a1, a2⟩, hl, fun i p hp => ?_⟩
    have fm : ∀ (l : List α), (∀ x ∈ l, ok x) → ∀ (i : Nat) p, (l.flatMap ec)[i]? = some p → ∃ x, l[i / sz]? = some x ∧ (ec x)[i % sz]? = some p := by
      intro l
      induction l with
      | nil => intro _ i p hp; simp at hp
      | cons x l ih =>
        intro hx i p hp
        have hs : (ec x).length = sz := by rw [h.sz x (hx x (by simp)), hz]
        rw [List.flatMap_cons, List.getElem?_append, hs] at hp
        split at hp
        · rename_i hi
          exact ⟨x, by rw [Nat.div_eq_of_lt hi]; rfl, by rw [Nat.mod_eq_of_lt hi]; exact hp⟩
        · rename_i hi
          obtain ⟨y, c1, c2⟩ := ih (fun z hz => hx z (by simp [hz])) _ p hp
          have hi' : sz ≤ i := by omega
          refine ⟨y, ?_, ?_⟩
          · rw [show i / sz = (i - sz) / sz + 1 by rw [← Nat.sub_add_cancel hi', Nat.add_div_right _ h0, Nat.add_sub_cancel]]
            simpa using c1
          · rw [show i % sz = (i - sz) % sz by rw [← Nat.mod_eq_sub_mod hi']]; exact c2
    obtain ⟨x, c1, c2⟩ := fm l a2 i p hp
    have := a3 _ x c1 _ p c2
    rwa [Nat.div_add_mod' i sz] at this

/-- A value that reads as data of the type stands for an x. -/
def Rda (P : Program) (t : TypeId) (α : Type) (ev : α → PV) (ok : α → Prop) : Prop :=
  ∀ {H : Type} {enc : TypeId × Value → H} {w : World} {r : Reach} {b0 : Nat} {v : Value} {d : DataW H} {ps : List MemPlace}, Value.okWide P w r b0 t v → DataW.Trod enc P w 0 (fun _ => true) true t v d ps → (∀ k ∈ DataW.weights P t d, k ≤ reachBytes) → ∃ x, ok x ∧ RP (allB w) w v (ev x)
def aggT (P : Program) (t : TypeId) : Bool := match P.underlying t with | some (.struct _) => true | some (.array _ _) => true | _ => false
theorem Rda.agg (h : Rdc P t α ec ok) (ht : aggT P t = true) : Rda P t α (fun x => .agg (ec x)) ok := by
  intro H enc w r b0 v d ps hv hd hwt
  obtain ⟨n, hn⟩ := hd
  obtain ⟨x, h1, h2, h3⟩ := h.rd hn hwt
  refine ⟨x, h1, ?_⟩
  have hv' : ∃ cs, v = .agg cs := by
    unfold aggT at ht
    unfold Value.okWide at hv
    split at ht <;> simp_all
    · obtain ⟨cs, e, _⟩ := hv; exact ⟨cs, e⟩
    · obtain ⟨cs, e, _⟩ := hv; exact ⟨cs, e⟩
  obtain ⟨cs, rfl⟩ := hv'
  have hl : cs.size = P.cellsOf t := by simpa [Value.cells] using h2
  refine .agg cs _ (by rw [hl, h.sz x h1]) fun i p hp => ?_
  have := h3 i p hp
  simpa [Value.cells] using this
theorem Rda.one {ev : α → PV} (h : Rdc P t α (fun x => [ev x]) ok) (ht : aggT P t = false) : Rda P t α ev ok := by
  intro H enc w r b0 v d ps hv hd hwt
  obtain ⟨n, hn⟩ := hd
  obtain ⟨x, h1, h2, h3⟩ := h.rd hn hwt
  refine ⟨x, h1, ?_⟩
  have hv' : v.cells = #[v] := by
    cases v <;> try rfl
    exfalso
    rename_i cs
    unfold aggT at ht
    unfold Value.okWide Cell.okWide Cell.ok at hv
    split at ht <;> try (cases ht; done)
    cases hu : P.underlying t with
    | none => simp [hu] at hv
    | some u => cases u <;> simp_all
  have := h3 0 _ rfl
  rw [hv'] at this
  simpa using this

theorem keptBut_of {F F' : Nat → Prop} {w w' : World} (b : Base F Num.no w F' Num.no w') (may : MemPlace → Prop) : w.keptBut w' may := by
  refine ⟨b.os, b.output, fun i hi => ?_⟩
  have := b.old i hi (fun h => Num.no_has h)
  rw [this]
  cases h : w.heap[i]? with
  | none => trivial
  | some o => cases o <;> simp
theorem sameAt_of {F F' : Nat → Prop} {w w' : World} (b : Base F Num.no w F' Num.no w') (p : MemPlace) (hp : p.block < w.heap.size) : w.sameAt w' p := by
  have := b.old p.block hp (fun h => Num.no_has h)
  cases p with
  | cell k off => exact cell_of_block this
  | map k => exact this
theorem trodAll_carry {H : Type} {enc : TypeId × Value → H} {w w' : World} {base : Nat} {spare : Nat → Bool} {held : Bool} : ∀ {ts : List TypeId} {vs : List Value} {ds : List (DataW H)} {ps : List MemPlace},
    DataW.TrodAll enc P w base spare held ts vs ds ps → (∀ p ∈ ps, w.sameAt w' p) → DataW.TrodAll enc P w' base spare held ts vs ds ps
  | [], [], [], _, h, _ => h
  | _ :: _, _ :: _, _ :: _, _, ⟨p, q, ⟨n, h1⟩, h2, e⟩, hs => ⟨p, q, ⟨n, DataW.trod_carry n _ _ _ h1 fun x hx => hs x (by rw [e]; exact List.mem_append_left _ hx)⟩, trodAll_carry h2 (fun x hx => hs x (by rw [e]; exact List.mem_append_right _ hx)), e⟩
/-- A law's row, from its contract: 'true' for all arguments that read as data. -/
theorem law_post {H : Type} {enc : TypeId × Value → H} {fn : Func} {s : ChangeSpec} {W W' : World} {args : Array Value} {ds gs : List (DataW H)} {before : List MemPlace} {F F' : Nat → Prop} {tb : TypeId}
    (K : Kids P (· < P.types.size)) (hz : ∀ t e, t < P.types.size → P.underlying t = some (.slice e) → 0 < P.cellsOf e) (hts : ∀ t ∈ fn.params.toList, t < P.types.size)
    (hW : DataW.Whole enc P fn.params.toList s.vars false W args.toList ds gs before) (hb : Base F Num.no W F' Num.no W')
    (hv0 : s.vars = []) (hres : (s.fn H (ds ++ gs)).results = [.lit (.bool true)]) (hargs : (s.fn H (ds ++ gs)).args = ds) (hvars : (s.fn H (ds ++ gs)).vars = [])
    (hrt : fn.resultTypes = #[tb]) (hbt : P.underlying tb = some .bool) :
    s.post enc P fn false true false false W args (.bool true) W' := by
  have hlt := hW.lt
  have hW2 := hW
  obtain ⟨p, q, hA, hV, rfl, hfz, hnd⟩ := hW2
  refine ⟨ds, gs, p ++ q, [], p, [], hW, ?_, ?_, ?_, keptBut_of hb _, fun h => by cases h⟩
  · rw [hres, hrt]
    exact trodAll_mk1 (Go.RowKit.shut_bool hbt true)
  · rw [hargs]
    have h1 : DataW.TrodAll enc P W 0 (fun b => decide (b < W.heap.size)) true fn.params.toList args.toList ds p :=
      DataW.TrodAll.respare K hz hts hA (fun x hx => by simpa using hlt x (List.mem_append_left _ hx))
    exact trodAll_carry h1 fun x hx => sameAt_of hb x (hlt x (List.mem_append_left _ hx))
  · rw [hvars, hv0]; rfl
/-- All arguments. -/
def ArgR (P : Program) (ts : List TypeId) (A : Type) (ev : A → List PV) (ok : A → Prop) : Prop :=
  ∀ {H : Type} {enc : TypeId × Value → H} {w : World} {r : Reach} {b0 : Nat} {vs : List Value} {ds : List (DataW H)} {ps : List MemPlace}, (∀ (j : Nat) t v, ts[j]? = some t → vs[j]? = some v → Value.okWide P w r b0 t v) →
    DataW.TrodAll enc P w 0 (fun _ => true) true ts vs ds ps → (∀ k ∈ DataW.weightsEach P ts ds, k ≤ reachBytes) → ∃ a, ok a ∧ vs.length = (ev a).length ∧ ∀ (i : Nat) p, (ev a)[i]? = some p → RP (allB w) w (vs[i]?.getD undef) p
theorem ArgR.nil : ArgR P [] Unit (fun _ => []) (fun _ => True) := by
  intro H enc w r b0 vs ds ps _ h _
  obtain ⟨rfl, rfl, rfl⟩ := trodAll_nil h
  exact ⟨(), trivial, rfl, fun i p hp => by simp at hp⟩
theorem ArgR.cons {ts : List TypeId} {ev : α → PV} {B : Type} {ev' : B → List PV} {ok' : B → Prop} (h : Rda P t α ev ok) (k : ArgR P ts B ev' ok') : ArgR P (t :: ts) (α × B) (fun x => ev x.1 :: ev' x.2) (fun x => ok x.1 ∧ ok' x.2) := by
  intro H enc w r b0 vs ds ps hv hd hw
  obtain ⟨v, vs', d, ds', p, q, rfl, rfl, rfl, h1, h2⟩ := trodAll_cons hd
  obtain ⟨x, a1, a2⟩ := h (hv 0 t v rfl rfl) h1 (fun n hn => hw n (by simp only [DataW.weightsEach, List.mem_append]; exact .inl hn))
  obtain ⟨y, b1, b2, b3⟩ := k (fun j t v ht hv' => hv (j + 1) t v (by simpa using ht) (by simpa using hv')) h2 (fun n hn => hw n (by simp only [DataW.weightsEach, List.mem_append]; exact .inr hn))
  refine ⟨(x, y), ⟨a1, b1⟩, by simp [b2], fun i p hp => ?_⟩
  cases i with
  | zero => simp at hp; subst hp; exact a2
  | succ i => simpa using b3 i p (by simpa using hp)
/-- From a law's contract to what its row asks. -/
theorem law_lifted {C : Checked} {os : Os} {f : FuncId} {fn : Func} {s : ChangeSpec} {H : Type} {enc : TypeId × Value → H} {A : Type} {ev : A → List PV} {ok : A → Prop} {tb : TypeId} (own : ownKnob C.prog.godebug = none) (started : os.Started) (noInit : C.prog.inits.idxOf? f = none)
    (hfn : C.prog.funcs[f]? = some fn)
    (witness : ∃ (w : World) (tape : Tape) (i : Input), w.os = os ∧ (w.forCall tape i).Shaped C.prog ∧ i.vars = [] ∧ Input.okWide C.prog (w.forCall tape i) .any w.heap.size f i ∧
      s.pre6 enc C.prog fn [] false (w.forCall tape i).memory i.args ∧ ({} : Assume).holds C.prog (lone (Frame.enter C.prog f i.args .normal) [] (w.forCall tape i)))
    (hl : laidOutB C.prog = true) (hmr : mapsRowed C.prog = true) (hz : ((List.range C.prog.types.size).all fun t => match C.prog.underlying t with | some (.slice e) => decide (0 < C.prog.cellsOf e) | _ => true) = true)
    (hts : (fn.params.toList.all fun t => decide (t < C.prog.types.size)) = true) (hv0 : s.vars = [])
    (hrt : fn.resultTypes = #[tb]) (hbt : C.prog.underlying tb = some .bool)
    (hspec : ∀ ds : List (DataW H), ds.length = fn.params.size → s.fn H ds = { results := [.lit (.bool true)], args := ds })
    (hA : ArgR C.prog fn.params.toList A ev ok) (hlaw : ∀ a, ok a → PCalls C.prog f (ev a) (.bool true)) :
    ReturnsInHanded {} C os f .any (s.pre6 enc C.prog fn [] false) (s.post enc C.prog fn false true false false) := by
  refine returnsInHanded_of_change_sized own started noInit hfn witness ?_
  intro W base args ds gs before hval hW _ hwt _
  have hW' := hW
  obtain ⟨p, q, hT, hV, rfl, hfz, hnd⟩ := hW'
  have hgs : gs = [] := by
    rw [hv0] at hV
    cases gs with
    | nil => rfl
    | cons g r => simp [DataW.TrodVars] at hV
  subst hgs
  have hvt : s.plain.varTypes C.prog = [] := by
    simp [DataSpec.varTypes, ChangeSpec.plain, hv0]
  rw [hvt, List.append_nil, List.append_nil] at hwt
  obtain ⟨a, a1, a2, a3⟩ := hA (fun j t v ht hv => hval j t v (by simpa using ht) (by simpa using hv)) hT (fun k hk => by simpa using List.all_eq_true.1 hwt k hk)
  have hcall := hlaw a a1 (allB W) W args (fun b hb => hb) (by simpa using a2) (fun i p hp => by simpa using a3 i p hp)
  refine hcall.mono fun e W' ⟨v, F', he, hb, _, hv⟩ => ?_
  cases hv
  refine ⟨_, he, ?_⟩
  have hlen : ds.length = fn.params.size := by
    have := (trodAll_length hT).2
    simpa using this
  have hsp := hspec ds hlen
  exact law_post (kids_rows hl hmr) (slices_full_of C.prog hz) (fun t ht => by simpa using List.all_eq_true.1 hts t ht) hW hb hv0 (by rw [List.append_nil, hsp]) (by rw [List.append_nil, hsp]) (by rw [List.append_nil, hsp]) hrt hbt
end
end Go.Sg
