/- A part of the proof: the engine, that follows the model step by step with abstract values; no program in sight. -/
import Derived.Test.YtgclicahmbgfiaaEng1
import Derived.TacticsIn
import Derived.RangeFuncSeq
set_option linter.unusedSimpArgs false
set_option linter.unusedVariables false
set_option linter.unnecessarySimpa false
namespace Go.Sg
open Go
structure Base (F : Nat → Prop) (μ : Num) (w : World) (F' : Nat → Prop) (μ' : Num) (w' : World) : Prop where
  os : w'.os = w.os
  tape : w'.tape = w.tape
  output : w'.output = w.output
  size : w.heap.size ≤ w'.heap.size
  fr : ∀ b, F b → w'.heap[b]? = w.heap[b]?
  old : ∀ b, b < w.heap.size → ¬ μ.has b → w'.heap[b]? = w.heap[b]?
  shape : ∀ b x, w.shape? b = some x → w'.shape? b = some x
  sub : ∀ b, F b → F' b
  fnew : ∀ b, F' b → F b ∨ μ.has b ∨ w.heap.size ≤ b
  mnew : ∀ b, μ'.has b → μ.has b ∨ w.heap.size ≤ b
theorem Step.base {F F' : Nat → Prop} {μ μ' : Num} {w w' : World} (h : Step F μ w F' μ' w') : Base F μ w F' μ' w' :=
  ⟨h.os, h.tape, h.output, h.size, h.fr, h.old, h.shape, h.sub, h.fnew, h.mnew⟩
theorem Base.refl (F : Nat → Prop) (μ : Num) (w : World) : Base F μ w F μ w := (Step.refl F μ w).base
theorem Base.trans {F F1 F2 : Nat → Prop} {μ μ1 μ2 : Num} {w w1 w2 : World} (h : Base F μ w F1 μ1 w1) (k : Base F1 μ1 w1 F2 μ2 w2) : Base F μ w F2 μ2 w2 where
  os := k.os.trans h.os
  tape := k.tape.trans h.tape
  output := k.output.trans h.output
  size := Nat.le_trans h.size k.size
  fr := fun b hb => (k.fr b (h.sub b hb)).trans (h.fr b hb)
  old := fun b hb hn => (k.old b (Nat.lt_of_lt_of_le hb h.size) (fun hm => by rcases h.mnew b hm with h1 | h1; (exact hn h1); omega)).trans (h.old b hb hn)
  shape := fun b x hx => k.shape b x (h.shape b x hx)
  sub := fun b hb => k.sub b (h.sub b hb)
  fnew := fun b hb => by
    rcases k.fnew b hb with h1 | h1 | h1
    · exact h.fnew b h1
    · exact .inr (h.mnew b h1)
    · exact .inr (.inr (Nat.le_trans h.size h1))
  mnew := fun b hb => by
    rcases k.mnew b hb with h1 | h1
    · exact h.mnew b h1
    · exact .inr (Nat.le_trans h.size h1)
def fc (ro : Option Nat) : Fence := { Fence.wide with round := ro }
theorem callsIn_fc {ro : Option Nat} {n : Nat} {P : Program} {f : FuncId} {args : Array Value} {w : World} {R : Ending → World → Prop} : CallsIn (fc ro) n P f args w R ↔ Calls P f args w R :=
  ⟨fun h cs => let ⟨e, w', fr, r, s, x⟩ := h.2 cs (fun _ h => by simp [fc, Fence.wide] at h); ⟨e, w', fr, r, comesIn_wide.1 s, x⟩,
   fun h => ⟨trivial, fun cs _ => let ⟨e, w', fr, r, s, x⟩ := h cs; ⟨e, w', fr, r, comesIn_wide.2 s, x⟩⟩⟩
mutual
def flatP : PV → Bool
  | .agg cs => flatL cs
  | .tup cs => flatL cs
  | .iface _ v => flatP v
  | .sl _ _ _ => false
  | .fn _ _ _ => false
  | .ro _ => false
  | .mp _ _ => false
  | _ => true
def flatL : List PV → Bool
  | [] => true
  | p :: r => flatP p && flatL r
end
theorem flatL_get : ∀ {l : List PV} {i : Nat} {p : PV}, flatL l = true → l[i]? = some p → flatP p = true
  | [], i, p, _, h => by simp at h
  | q :: r, i, p, hf, h => by
    simp only [flatL, Bool.and_eq_true] at hf
    cases i with
    | zero => simp at h; subst h; exact hf.1
    | succ i => simp at h; exact flatL_get hf.2 h
theorem RP.flat {F F' : Nat → Prop} {w w' : World} {v : Value} {p : PV} (h : RP F w v p) : flatP p = true → RP F' w' v p := by
  induction h with
  | int k n => exact fun _ => .int k n
  | bool b => exact fun _ => .bool b
  | str s => exact fun _ => .str s
  | nilf => exact fun _ => .nilf
  | nilp => exact fun _ => .nilp
  | ro b off cs c h1 h2 _ ih => intro h; simp [flatP] at h
  | nili => exact fun _ => .nili
  | iface t v q _ ih => exact fun h => .iface t v q (ih (by simpa only [flatP] using h))
  | agg cs l h1 _ ih => exact fun h => .agg cs l h1 fun i p hp => ih i p hp (flatL_get (by simpa only [flatP] using h) hp)
  | tup cs l h1 _ ih => exact fun h => .tup cs l h1 fun i p hp => ih i p hp (flatL_get (by simpa only [flatP] using h) hp)
  | fn f as bs ls ms h1 h2 _ _ i1 i2 => intro h; simp [flatP] at h
  | mp b ks m es clock h0 h1 h2 h3 _ _ _ _ => intro h; simp [flatP] at h
  | esl a cap sz clip h1 h2 h3 => intro h; simp [flatP] at h
  | sl b off len cap sz clip l c hb h1 h2 h3 h4 h5 h6 _ ih => intro h; simp [flatP] at h
def PCalls (P : Program) (f : FuncId) (as : List PV) (r : PV) : Prop :=
  ∀ (F : Nat → Prop) (w : World) (vs : Array Value), (∀ b, F b → b < w.heap.size) → vs.size = as.length → (∀ (i : Nat) p, as[i]? = some p → RP F w (vs[i]?.getD undef) p) →
    Calls P f vs w fun e w' => ∃ v F', e = .returned v ∧ Base F Num.no w F' Num.no w' ∧ (∀ b, F' b → b < w'.heap.size) ∧ RP F' w' v r
def enters (P : Program) (f : FuncId) : Bool :=
  match P.funcs[f]? with
  | some fn => fn.body.isSome && !(fn.name == "runtime.NumGoroutine")
  | none => false
def calleeOf : AV → List AV → Option (FuncId × List AV)
  | .p (.fn (.func f) l m), args => some (f, l.map AV.p ++ args ++ m.map AV.p)
  | .fn (.func f) l m, args => some (f, l ++ args ++ m)
  | _, _ => none
def callK (P : Program) (c : Option (FuncId × List AV)) (σ : Heap) (K : AV → Heap → Prop) : Prop :=
  ∃ (f : FuncId) (as : List AV) (Z : List Nat) (ps : List PV) (r : PV), c = some (f, as) ∧ enters P f = true ∧ (∀ o ∈ Z, σ.get o ≠ .dead) ∧ FrzL σ (· ∈ Z) as ps ∧ PCalls P f ps r ∧ K (.p r) (Z.map fun o => (o, if flatP r then σ.get o else .dead))
def keys (us : Heap) : List Nat := us.map Prod.fst
theorem get_append (us σ : Heap) (q : Nat) : Heap.get (us ++ σ) q = if q ∈ keys us then Heap.get us q else σ.get q := by
  induction us with
  | nil => rfl
  | cons x r ih =>
    obtain ⟨o, y⟩ := x
    have hk : keys ((o, y) :: r) = o :: keys r := rfl
    rw [hk]
    simp only [List.cons_append, Heap.get, ih, List.mem_cons]
    by_cases e : o = q
    · simp [e]
    · have e' : ¬ q = o := fun h => e h.symm
      simp only [e, e', if_false, false_or]
theorem nodup_inj {l : List Nat} (h : l.Nodup) {i j : Nat} (hi : i < l.length) (hj : j < l.length) (e : l[i] = l[j]) : i = j := by
  rcases Nat.lt_trichotomy i j with h1 | h1 | h1
  · exact absurd e (List.pairwise_iff_getElem.1 h i j hi hj h1)
  · exact h1
  · exact absurd e.symm (List.pairwise_iff_getElem.1 h j i hj hi h1)
def ICalls (P : Program) (f : FuncId) (m : Nat) (σ0 : Heap) (as : List AV) (r : AV) (σ1 : Heap) : Prop :=
  ∀ (F : Nat → Prop) (μ : Num) (w : World) (vs : Array Value), SimH F μ σ0 w → (∀ o, m ≤ o → μ o = none) → vs.size = as.length → (∀ (i : Nat) p, as[i]? = some p → RV F μ w (vs[i]?.getD undef) p) →
    Calls P f vs w fun e w' => ∃ v F' μ', e = .returned v ∧ Base F μ w F' μ' w' ∧ SimH F' μ' σ1 w' ∧ RV F' μ' w' v r ∧ (∀ o, o < m → ∀ b, μ o = some b → μ' o = some b) ∧ ∀ o, m + 64 ≤ o → μ' o = none
def rn (ρ : List Nat) (nid : Nat) (i : Nat) : Nat := if i < ρ.length then ρ.getD i 0 else nid + min (i - ρ.length) 63
def callI (P : Program) (c : Option (FuncId × List AV)) (σ : Heap) (nid : Nat) (K : AV → Heap → Prop) : Prop :=
  ∃ (f : FuncId) (as as0 : List AV) (σ0 : Heap) (r : AV) (σ1 : Heap) (ρ : List Nat), c = some (f, as) ∧ enters P f = true ∧ as = renL (rn ρ nid) as0 ∧ ρ.Nodup ∧ (∀ o ∈ ρ, σ.get o ≠ .dead) ∧
    (∀ i, i < ρ.length → σ.get (ρ.getD i 0) = renO (rn ρ nid) (σ0.get i)) ∧ (∀ i, ρ.length ≤ i → σ0.get i = .dead) ∧ (∀ i, i < ρ.length → i ∈ keys σ1) ∧ (∀ k ∈ keys σ1, k < ρ.length + 64) ∧
    ICalls P f ρ.length σ0 as0 r σ1 ∧ K (renV (rn ρ nid) r) (σ1.map fun x => (rn ρ nid x.1, renO (rn ρ nid) x.2))
def OvFact (P : Program) (f : FuncId) : Prop := ∃ (fn : Func) (tS tR e : TypeId) (s : Nat) (g : Bool), P.funcs[f]? = some fn ∧ (fn.name == "runtime.NumGoroutine") = false ∧ fn.body.isNone = true ∧ Extern.findNext fn = none ∧
  Extern.find fn = some (Extern.SlicesOverlaps.overlaps #[tS, tS] #[tR]) ∧ P.underlying tS = some (.slice e) ∧ tT P e = some (s, g)
def callE (P : Program) (c : Option (FuncId × List AV)) (σ : Heap) (K : AV → Heap → Prop) : Prop :=
  ∃ (f : FuncId) (a1 a2 : AV) (o1 s1 i1 n1 o2 s2 i2 n2 : Nat) (l1 l2 : List PV), c = some (f, [a1, a2]) ∧ OvFact P f ∧ uc a1 = .rsl o1 s1 i1 n1 ∧ uc a2 = .rsl o2 s2 i2 n2 ∧ o1 ≠ o2 ∧ σ.get o1 = .row s1 l1 ∧ σ.get o2 = .row s2 l2 ∧ 0 < s2 ∧ 0 < l2.length ∧ K (.p (.bool false)) [(o1, .row s1 l1), (o2, .row s2 l2)]
def objs : AV → List Nat
  | .ptr o _ => [o]
  | .msl o _ _ _ => [o]
  | .rsl o _ _ _ => [o]
  | .csl o _ _ _ _ => [o]
  | .eptr o _ _ _ => [o]
  | .mp o => [o]
  | .ch o => [o]
  | _ => []
def callR (P : Program) (c : AV × List AV) (σ : Heap) (nid : Nat) (K : AV → Heap → Prop) : Prop :=
  ∃ (r : AV) (us : Heap), callI P (calleeOf c.1 c.2) σ nid (fun v us' => v = r ∧ us' = us) ∧ (∀ i, Heap.get (us ++ σ) i = σ.get i) ∧ (∀ q ∈ keys us, q ∈ c.2.flatMap objs) ∧ K r []
structure callX (P : Program) (c : AV × List AV) (σ : Heap) (nid : Nat) (K : AV → Heap → Prop) : Prop where
  h : callK P (calleeOf c.1 c.2) σ K ∨ callI P (calleeOf c.1 c.2) σ nid K ∨ callE P (calleeOf c.1 c.2) σ K ∨ callR P c σ nid K
inductive Kind where | quiet | write | call
def kindOf (P : Program) : Op → Kind
  | .alloc _ => .write
  | .box _ _ => .write
  | .store _ _ _ => .write
  | .buildSlice _ _ _ => .write
  | .makeSlice _ _ _ => .write
  | .makeMap _ _ => .write
  | .makeChan _ _ => .write
  | .mapUpdate _ _ _ _ => .write
  | .insert _ _ _ _ => .write
  | .convert s d _ => (match tC P s, tC P d with | .str, .bytes => .write | .bytes, .bytes => .write | _, _ => .quiet)
  | .call c => (match c.callee with
    | .builtin .append => .write
    | .builtin .copy => .write
    | .builtin .clear => .write
    | .builtin _ => .quiet
    | _ => .call)
  | _ => .quiet
def stK (P : Program) (op : Op) (ev : Operand → AV) (σ : Heap) (nid : Nat) (K : AV → Heap → Prop) : Prop :=
  match kindOf P op with
  | .quiet => (match isLkS op ev σ with
    | some (t, o, k, ok, kt, sz, m) => lookS P t o k ok kt sz m nid K
    | none => yQ P op ev σ (fun v => K v []))
  | .write => yW P op ev σ nid K
  | .call => (match op with | .call c => (match c.callee with | .value x => callX P (ev x, c.args.toList.map ev) σ nid K | _ => False) | _ => False)
def ndOf : Op → Option (TypeId × Operand × Bool)
  | .binOp .eql t x (.const (.slice none 0 0)) _ => some (t, x, false)
  | .binOp .neq t x (.const (.slice none 0 0)) _ => some (t, x, true)
  | _ => none
def nilCmpK (P : Program) (t : TypeId) (neg : Bool) (x : AV) (K : AV → Prop) : Prop :=
  match x with
  | .p (.sl _ _ l) => (tE P t).isSome = true ∧ ∀ b : Bool, (l ≠ [] → b = neg) → K (.p (.bool b))
  | .msl _ _ _ _ => (tE P t).isSome = true ∧ K (.p (.bool neg))
  | .rsl _ _ _ _ => (tE P t).isSome = true ∧ K (.p (.bool neg))
  | _ => False
def niOf : Op → Option (TypeId × Operand × Bool)
  | .binOp .eql t x (.const .nilIface) _ => some (t, x, false)
  | .binOp .neq t x (.const .nilIface) _ => some (t, x, true)
  | _ => none
def niK (P : Program) (t : TypeId) (neg : Bool) (x : AV) (K : AV → Prop) : Prop :=
  match x with
  | .p (.iface _ _) => tIf2 P t = true ∧ K (.p (.bool neg))
  | .p .nili => tIf2 P t = true ∧ K (.p (.bool !neg))
  | _ => False
where tIf2 (P : Program) (t : TypeId) : Bool := match P.underlying t with | some (.interface _) => true | _ => false
def stS0 (P : Program) (op : Op) (ev : Operand → AV) (σ : Heap) (nid : Nat) (K : AV → Heap → Prop) : Prop :=
  match ndOf op with
  | some (t, x, neg) => nilCmpK P t neg (ev x) fun v => K v []
  | none => (match niOf op with
    | some (t, x, neg) => niK P t neg (ev x) fun v => K v []
    | none => stK P op ev σ nid K)
def wrapK (x y : AV) (K : AV → Prop) : Prop :=
  match x, y with
  | .p (.int k n), .p (.int k' m) => k = k' ∧ K (.p (.int k (k.wrap (n + m))))
  | _, _ => False
def stS (P : Program) (op : Op) (ev : Operand → AV) (σ : Heap) (nid : Nat) (K : AV → Heap → Prop) : Prop :=
  match op with
  | .range t x => rangeK P t (ev x) nid K
  | .next x s => nextK (ev x) s σ K
  | .entry x => entryK (ev x) σ fun v => K v []
  | .binOp .add t x y z => AltA (stS0 P (.binOp .add t x y z) ev σ nid K) (wrapK (ev x) (ev y) fun v => K v [])
  | op => stS0 P op ev σ nid K
section
variable {P : Program} {F : Nat → Prop} {μ : Num} {σ : Heap} {w : World} {nid : Nat} {K : AV → Heap → Prop}
theorem get_same (Z : List Nat) (i : Nat) : Heap.get ((Z.map fun o => (o, σ.get o)) ++ σ) i = σ.get i := by
  induction Z with
  | nil => rfl
  | cons o r ih =>
    simp only [List.map_cons, List.cons_append, Heap.get]
    split
    · rename_i e; rw [e]
    · exact ih
theorem get_kill (Z : List Nat) (i : Nat) (h : Heap.get ((Z.map fun o => (o, AObj.dead)) ++ σ) i ≠ .dead) : i ∉ Z ∧ Heap.get ((Z.map fun o => (o, AObj.dead)) ++ σ) i = σ.get i := by
  induction Z with
  | nil => exact ⟨by simp, rfl⟩
  | cons o r ih =>
    simp only [List.map_cons, List.cons_append, Heap.get] at h ⊢
    split at h
    · exact absurd rfl h
    · rename_i e
      obtain ⟨h1, h2⟩ := ih h
      rw [if_neg e]
      exact ⟨by simp; exact ⟨fun e' => e e'.symm, h1⟩, h2⟩
theorem run_callFunc {f : FuncId} (h : enters P f = true) (args : Array Value) (w : World) : (callFunc f args).run P w = .ok (.enter f args) w := by
  unfold enters at h
  split at h
  · rename_i fn hf
    simp only [Bool.and_eq_true, Bool.not_eq_true'] at h
    obtain ⟨h1, h2⟩ := h
    have h3 : fn.body.isNone = false := by cases hb : fn.body with | none => rw [hb] at h1; cases h1 | some _ => rfl
    have h4 : fn.name ≠ "runtime.NumGoroutine" := by simpa using h2
    have h5 : fn.body ≠ none := by intro e; rw [e] at h3; cases h3
    simp [callFunc, hf, h4, h5]
  · cases h
theorem about_any {ro : Option Nat} (o : Oper) (a : Act) (w : World) : ∀ f, o.about P w a.eval = some f → (fc ro).fn f := fun _ _ => trivial
theorem qt_wp {ro : Option Nat} {n : Nat} {o : Oper} {a : Act} {Kq : AV → Prop} {next : Act → World → Prop} {Q : Exit → Act → World → Prop} (hd : ∀ c, o.op ≠ .defer c)
    (h : QtN P F μ w Kq (execOp a.eval o)) (hk : ∀ av v, Kq av → RV F μ w v av → next (a.put o.dst v) w) : o.wpIn (fc ro) n P a w next Q := by
  obtain ⟨av, v, h1, h2, h3⟩ := h
  refine ⟨about_any o a w, ?_⟩
  rw [Oper.semAt_eq _ _ _ hd, h3 w (fun b hb => rfl)]
  exact hk av v h1 h2
def COut (P : Program) (F : Nat → Prop) (μ : Num) (σ : Heap) (w : World) (nid : Nat) (K : AV → Heap → Prop) (f : FuncId) (as : List AV) : Prop :=
  ∀ (vs : Array Value), vs.size = as.length → (∀ (i : Nat) p, as[i]? = some p → RV F μ w (vs[i]?.getD undef) p) → Calls P f vs w fun e w' => ∃ av us v F' μ', e = .returned v ∧ K av us ∧ Step F μ w F' μ' w' ∧ SimH F' μ' (us ++ σ) w' ∧ RV F' μ' w' v av ∧
    ∀ o, o < nid ∨ nid + 64 ≤ o → μ' o = μ o
theorem callK_sound {c : Option (FuncId × List AV)} (hσ : SimH F μ σ w) (h : callK P c σ K) : ∃ f as, c = some (f, as) ∧ enters P f = true ∧ COut P F μ σ w nid K f as := by
  obtain ⟨f, as, Z, ps, r, hc, hent, hZ, hfz, hcall, hK⟩ := h
  refine ⟨f, as, hc, hent, fun vs hsz hrv => ?_⟩
  obtain ⟨hl, hg⟩ := hfz.get
  have hF1 : ∀ b, (F b ∨ ∃ o, o ∈ Z ∧ σ.get o ≠ .dead ∧ μ o = some b) → b < w.heap.size := fun b hb => by
    rcases hb with hb | ⟨o, _, _, hb⟩
    · exact hσ.fb b hb
    · exact hσ.mb b (.inl ⟨o, hb⟩)
  have hcl := hcall _ w vs hF1 (by rw [hsz, hl]) (fun i p hp => by
    obtain ⟨av, h1, h2⟩ := hg i p hp
    exact h2 F μ w _ (fun o b _ _ hm => hσ.obj o b hm) (hrv i av h1))
  refine Calls.mono hcl fun e w' he => ?_
  obtain ⟨v, F', rfl, hb, hfb, hr⟩ := he
  have hold : ∀ b, b < w.heap.size → w'.heap[b]? = w.heap[b]? := fun b hb' => hb.old b hb' Num.no_has
  have hnewF : ∀ b, F' b → (F b ∨ ∃ o, o ∈ Z ∧ σ.get o ≠ .dead ∧ μ o = some b) ∨ w.heap.size ≤ b := fun b hb' => by
    rcases hb.fnew b hb' with h | h | h
    · exact .inl h
    · exact (Num.no_has h).elim
    · exact .inr h
  cases hfl : flatP r with
  | true =>
    simp only [hfl, if_true] at hK
    have hst : Step F μ w F μ w' := ⟨hb.os, hb.tape, hb.output, hb.size, fun b h => hold b (hσ.fb b h), fun b h _ => hold b h, hb.shape, fun _ h => h, fun _ h => .inl h, fun _ _ h => h, fun _ h => .inl h⟩
    refine ⟨.p r, _, v, F, μ, rfl, hK, hst, ?_, (.p (hr.flat hfl)), (fun _ _ => rfl)⟩
    refine (hσ.keep hst hold (fun b h => .inl h)).congr fun i => ?_
    exact get_same Z i
  | false =>
    simp only [hfl, Bool.false_eq_true, if_false] at hK
    have hst : Step F μ w F' μ w' := ⟨hb.os, hb.tape, hb.output, hb.size, fun b h => hold b (hσ.fb b h), fun b h _ => hold b h, hb.shape, fun b h => hb.sub b (.inl h),
      fun b h => by
        rcases hnewF b h with (h | ⟨o, _, _, h⟩) | h
        · exact .inl h
        · exact .inr (.inl (.inl ⟨o, h⟩))
        · exact .inr (.inr h), fun _ _ h => h, fun _ h => .inl h⟩
    refine ⟨.p r, _, v, F', μ, rfl, hK, hst, ?_, .p hr, (fun _ _ => rfl)⟩
    have hget : ∀ i, Heap.get ((Z.map fun o => (o, AObj.dead)) ++ σ) i ≠ .dead → i ∉ Z ∧ Heap.get ((Z.map fun o => (o, AObj.dead)) ++ σ) i = σ.get i := fun i hi => get_kill Z i hi
    refine ⟨hfb, fun b hm => Nat.lt_of_lt_of_le (hσ.mb b hm) hb.size, fun o ho => ?_, fun o b hm => ?_, fun o b ho hm hf => ?_, fun i j b hi hj hmi hmj => ?_, fun c m hc => ⟨fun hf => ?_, fun o ho => (hσ.hd c m hc).2 o (by rw [(hget o ho).2] at ho; exact ho)⟩, hσ.hu⟩
    · obtain ⟨h1, h2⟩ := hget o ho
      rw [h2] at ho; exact hσ.has o ho
    · rcases Classical.em (Heap.get ((Z.map fun o => (o, AObj.dead)) ++ σ) o = .dead) with hd | hd
      · rw [hd]; trivial
      · obtain ⟨h1, h2⟩ := hget o hd
        rw [h2]; exact (hσ.obj o b hm).step hst (hold b (hσ.mb b (.inl ⟨o, hm⟩))) fun c hc => ⟨hc, hold c (hσ.mb c (.inr ⟨b, hc⟩))⟩
    · obtain ⟨h1, h2⟩ := hget o ho
      rw [h2] at ho
      rcases hnewF b hf with (h | ⟨o', h3, h4, h5⟩) | h
      · exact hσ.live o b ho hm h
      · have := hσ.inj o o' b ho h4 hm h5
        subst this; exact h1 h3
      · have := hσ.mb b (.inl ⟨o, hm⟩); omega
    · rw [(hget i hi).2] at hi
      rw [(hget j hj).2] at hj
      exact hσ.inj i j b hi hj hmi hmj
    · rcases hnewF c hf with (h | ⟨o', _, h4, h5⟩) | h
      · exact (hσ.hd c m hc).1 h
      · exact (hσ.hd c m hc).2 o' h4 h5
      · have := hσ.mb c (.inr ⟨m, hc⟩); omega
theorem get_ren {f : Nat → Nat} : ∀ (l : Heap) (i : Nat), (∀ k ∈ keys l, f k = f i → k = i) → Heap.get (l.map fun x => (f x.1, renO f x.2)) (f i) = renO f (l.get i)
  | [], _, _ => rfl
  | (j, x) :: r, i, h => by
    simp only [List.map_cons, Heap.get]
    by_cases e : j = i
    · subst e; simp
    · have : f j ≠ f i := fun k => e (h j (by simp [keys]) k)
      rw [if_neg this, if_neg e]
      exact get_ren r i fun k hk => h k (by simp only [keys, List.map_cons, List.mem_cons] at hk ⊢; exact .inr hk)
theorem keys_ren {f : Nat → Nat} (l : Heap) : keys (l.map fun x => (f x.1, renO f x.2)) = (keys l).map f := by
  simp only [keys, List.map_map]; rfl
theorem callI_sound {c : Option (FuncId × List AV)} (hσ : SimH F μ σ w) (hnew : ∀ o, nid ≤ o → o < nid + 64 → μ o = none) (h : callI P c σ nid K) : ∃ f as, c = some (f, as) ∧ enters P f = true ∧ COut P F μ σ w nid K f as := by
  obtain ⟨f, as, as0, σ0, r, σ1, ρ, hc, hent, has, hnd, hlive, hsame, hdead, hcov, hbd, hcall, hK⟩ := h
  refine ⟨f, as, hc, hent, fun vs hsz hrv => ?_⟩
  let g := rn ρ nid
  let m := ρ.length
  have glt : ∀ i, i < m → g i = ρ.getD i 0 := fun i hi => if_pos hi
  have gge : ∀ i, m ≤ i → i < m + 64 → g i = nid + (i - m) := fun i h1 h2 => by
    show (if i < ρ.length then _ else _) = _
    rw [if_neg (by omega)]; congr 1; omega
  have gwin : ∀ i, m ≤ i → nid ≤ g i ∧ g i < nid + 64 := fun i h1 => by
    have : g i = nid + min (i - ρ.length) 63 := if_neg (by omega)
    rw [this]; omega
  have mem : ∀ i, i < m → ρ.getD i 0 ∈ ρ := fun i hi => by rw [List.getD_eq_getElem?_getD, List.getElem?_eq_getElem hi]; exact List.getElem_mem hi
  have win : ∀ i, i < m → ¬ (nid ≤ ρ.getD i 0 ∧ ρ.getD i 0 < nid + 64) := fun i hi hw => by
    obtain ⟨b, hb⟩ := hσ.has _ (hlive _ (mem i hi))
    rw [hnew _ hw.1 hw.2] at hb; cases hb
  have ginj : ∀ i j, i < m + 64 → j < m + 64 → g i = g j → i = j := fun i j hi hj e => by
    rcases Nat.lt_or_ge i m with h1 | h1 <;> rcases Nat.lt_or_ge j m with h2 | h2
    · rw [glt i h1, glt j h2, List.getD_eq_getElem?_getD, List.getD_eq_getElem?_getD, List.getElem?_eq_getElem h1, List.getElem?_eq_getElem h2] at e
      exact nodup_inj hnd h1 h2 e
    · have := gwin j h2; rw [← e, glt i h1] at this; exact absurd this (win i h1)
    · have := gwin i h1; rw [e, glt j h2] at this; exact absurd this (win j h2)
    · rw [gge i h1 hi, gge j h2 hj] at e; omega
  let μc : Num := ⟨fun i => if i < m then μ (ρ.getD i 0) else none, fun c b => μ.hid c b ∧ ∃ i, i < m ∧ μ (ρ.getD i 0) = some b⟩
  have hin : ∀ o b, μ (g o) = some b → μc o = some b := fun o b hb => by
    rcases Nat.lt_or_ge o m with h1 | h1
    · rw [glt o h1] at hb; show (if o < m then _ else _) = _; rw [if_pos h1]; exact hb
    · have := gwin o h1; rw [hnew _ this.1 this.2] at hb; cases hb
  have μclt : ∀ {o b}, μc o = some b → o < m ∧ μ (ρ.getD o 0) = some b := fun {o b} hb => by
    by_cases h1 : o < m
    · exact ⟨h1, by have : (if o < m then μ (ρ.getD o 0) else none) = some b := hb; rwa [if_pos h1] at this⟩
    · have : (if o < m then μ (ρ.getD o 0) else none) = some b := hb; rw [if_neg h1] at this; cases this
  have hd0 : ∀ {o}, σ0.get o ≠ .dead → o < m := fun {o} ho => by
    rcases Nat.lt_or_ge o m with h1 | h1
    · exact h1
    · exact absurd (hdead o h1) ho
  have hsim : SimH F μc σ0 w := by
    refine ⟨hσ.fb, fun b hb => hb.elim (fun ⟨o, ho⟩ => hσ.mb b (.inl ⟨_, (μclt ho).2⟩)) fun ⟨x, hx⟩ => hσ.mb b (.inr ⟨x, hx.1⟩), fun o ho => ?_, fun o b hb => ?_, fun o b ho hb => ?_, fun i j b hi hj hmi hmj => ?_,
      fun c x hc => ⟨(hσ.hd c x hc.1).1, fun o ho hm => (hσ.hd c x hc.1).2 _ (hlive _ (mem o (hd0 ho))) (μclt hm).2⟩, fun c x y hx hy => hσ.hu c x y hx.1 hy.1⟩
    · obtain ⟨b, hb⟩ := hσ.has _ (hlive _ (mem o (hd0 ho)))
      exact ⟨b, by show (if o < m then _ else _) = _; rw [if_pos (hd0 ho)]; exact hb⟩
    · obtain ⟨h1, h2⟩ := μclt hb
      have := hσ.obj _ b h2
      rw [hsame o h1] at this
      exact this.ren_in hin fun c hc => ⟨hc, o, h1, h2⟩
    · exact hσ.live _ b (hlive _ (mem o (hd0 ho))) (μclt hb).2
    · have := hσ.inj _ _ b (hlive _ (mem i (hd0 hi))) (hlive _ (mem j (hd0 hj))) (μclt hmi).2 (μclt hmj).2
      exact ginj i j (by have := hd0 hi; omega) (by have := hd0 hj; omega) (by rw [glt i (hd0 hi), glt j (hd0 hj)]; exact this)
  refine Calls.mono (hcall F μc w vs hsim (fun o ho => if_neg (by show ¬ o < ρ.length; omega)) (by rw [hsz, has, renL_map]; simp) fun i p hp => ?_) fun e w' he => ?_
  · exact (hrv i (renV g p) (by rw [has, renL_map]; simp [hp]; rfl)).ren_in hin rfl
  · obtain ⟨v, F', μ', rfl, hb, hs1, hr, hkeep, hbnd⟩ := he
    let μ2 : Num := ⟨fun o => if nid ≤ o ∧ o < nid + 64 then μ' (m + (o - nid)) else μ o, fun c b => μ'.hid c b ∨ (μ.hid c b ∧ ¬ ∃ i, i < m ∧ μ (ρ.getD i 0) = some b)⟩
    have hout : ∀ o b, μ' o = some b → μ2 (g o) = some b := fun o b hb => by
      rcases Nat.lt_or_ge o m with h1 | h1
      · obtain ⟨b0, hb0⟩ := hσ.has _ (hlive _ (mem o h1))
        have h2 : μc o = some b0 := by show (if o < m then _ else _) = _; rw [if_pos h1]; exact hb0
        have h3 := hkeep o h1 b0 h2
        rw [hb] at h3; injection h3 with h3; subst h3
        show (if _ then _ else _) = _
        rw [glt o h1, if_neg (win o h1)]; exact hb0
      · have h2 : o < m + 64 := by
          rcases Nat.lt_or_ge o (m + 64) with h | h
          · exact h
          · rw [hbnd o h] at hb; cases hb
        have h3 := gge o h1 h2
        show (if _ then _ else _) = _
        rw [if_pos (by rw [h3]; omega), h3, show m + (nid + (o - m) - nid) = o by omega]; exact hb
    have hμ2 : ∀ o, o < nid ∨ nid + 64 ≤ o → μ2 o = μ o := fun o ho => if_neg (by omega)
    have μ2has : ∀ {o b}, μ2 o = some b → (∃ i, m ≤ i ∧ i < m + 64 ∧ o = g i ∧ μ' i = some b) ∨ (¬ (nid ≤ o ∧ o < nid + 64) ∧ μ o = some b) := fun {o b} hb => by
      by_cases hw : nid ≤ o ∧ o < nid + 64
      · have : (if nid ≤ o ∧ o < nid + 64 then μ' (m + (o - nid)) else μ o) = some b := hb
        rw [if_pos hw] at this
        exact .inl ⟨m + (o - nid), by omega, by omega, by rw [gge _ (by omega) (by omega)]; omega, this⟩
      · have : (if nid ≤ o ∧ o < nid + 64 then μ' (m + (o - nid)) else μ o) = some b := hb
        rw [if_neg hw] at this
        exact .inr ⟨hw, this⟩
    have chas : ∀ {b}, μc.has b → μ.has b := fun {b} h => h.elim (fun ⟨o, ho⟩ => .inl ⟨_, (μclt ho).2⟩) fun ⟨x, hx⟩ => .inr ⟨x, hx.1⟩
    have hst : Step F μ w F' μ2 w' := by
      refine ⟨hb.os, hb.tape, hb.output, hb.size, hb.fr, fun b hlt hnm => hb.old b hlt fun h => hnm (chas h), hb.shape, hb.sub, fun b hf => ?_, fun o b ho => ?_, fun b hb2 => ?_⟩
      · rcases hb.fnew b hf with h | h | h
        · exact .inl h
        · exact .inr (.inl (chas h))
        · exact .inr (.inr h)
      · rw [← ho]; refine if_neg fun hw => ?_
        rw [hnew o hw.1 hw.2] at ho; cases ho
      · rcases hb2 with ⟨o, ho⟩ | ⟨x, hx | hx⟩
        · rcases μ2has ho with ⟨i, _, _, _, hi⟩ | ⟨_, hi⟩
          · exact (hb.mnew b (.inl ⟨i, hi⟩)).imp chas id
          · exact .inl (.inl ⟨o, hi⟩)
        · exact (hb.mnew b (.inr ⟨x, hx⟩)).imp chas id
        · exact .inl (.inr ⟨x, hx.1⟩)
    have hget : ∀ o, (∃ i, i ∈ keys σ1 ∧ o = g i ∧ Heap.get ((σ1.map fun x => (g x.1, renO g x.2)) ++ σ) o = renO g (σ1.get i)) ∨
        ((∀ i, i ∈ keys σ1 → o ≠ g i) ∧ Heap.get ((σ1.map fun x => (g x.1, renO g x.2)) ++ σ) o = σ.get o) := fun o => by
      rw [get_append, keys_ren]
      by_cases hk : o ∈ (keys σ1).map g
      · rw [if_pos hk]
        obtain ⟨i, hi, rfl⟩ := List.mem_map.1 hk
        exact .inl ⟨i, hi, rfl, get_ren σ1 i fun k hk e => ginj k i (hbd k hk) (hbd i hi) e⟩
      · rw [if_neg hk]
        exact .inr ⟨fun i hi e => hk (e ▸ List.mem_map.2 ⟨i, hi, rfl⟩), rfl⟩
    have other : ∀ {o b}, (∀ i, i ∈ keys σ1 → o ≠ g i) → σ.get o ≠ .dead → μ o = some b → ¬ μc.has b := fun {o b} ho hd hm hcb => by
      obtain ⟨i, hi⟩ := hcb.resolve_right fun ⟨x, hx⟩ => (hσ.hd b x hx.1).2 o hd hm
      obtain ⟨h1, h2⟩ := μclt hi
      have := hσ.inj o _ b hd (hlive _ (mem i h1)) hm h2
      exact ho i (hcov i h1) (by rw [glt i h1]; exact this)
    refine ⟨_, _, v, F', μ2, rfl, hK, hst, ?_, hr.ren_out hout, hμ2⟩
    have hidc : ∀ {c x}, μ.hid c x → (¬ ∃ i, i < m ∧ μ (ρ.getD i 0) = some x) → ¬ μc.has c := fun {c x} hc hn h => by
      rcases h with ⟨i, hi⟩ | ⟨y, hy⟩
      · obtain ⟨h1, h2⟩ := μclt hi
        exact (hσ.hd c x hc).2 _ (hlive _ (mem i h1)) h2
      · exact hn (hσ.hu c x y hc hy.1 ▸ hy.2)
    have cls : ∀ {b : Nat} (o : Nat), Heap.get (List.map (fun x => (rn ρ nid x.1, renO (rn ρ nid) x.2)) σ1 ++ σ) o ≠ .dead → μ2 o = some b → (∃ i, i ∈ keys σ1 ∧ o = g i ∧ σ1.get i ≠ .dead ∧ μ' i = some b) ∨ ((∀ i, i ∈ keys σ1 → o ≠ g i) ∧ σ.get o ≠ .dead ∧ μ o = some b) := fun {b} o ho hm => by
      rcases hget o with ⟨i, hi, e, e2⟩ | ⟨e0, e⟩
      · rw [show (Heap.get (List.map (fun x => (rn ρ nid x.1, renO (rn ρ nid) x.2)) σ1 ++ σ) o) = _ from e2] at ho
        have hd1 : σ1.get i ≠ .dead := fun h => ho (renO_dead.2 h)
        obtain ⟨b1, hb1⟩ := hs1.has i hd1
        have := hout i b1 hb1
        rw [← e, hm] at this; injection this with this; subst this
        exact .inl ⟨i, hi, e, hd1, hb1⟩
      · rw [show (Heap.get (List.map (fun x => (rn ρ nid x.1, renO (rn ρ nid) x.2)) σ1 ++ σ) o) = _ from e] at ho
        obtain ⟨b0, hb0⟩ := hσ.has o ho
        refine .inr ⟨e0, ho, ?_⟩
        rcases μ2has hm with ⟨i', h1, h2, h3, h4⟩ | ⟨_, hmo⟩
        · have := gwin i' h1; rw [← h3] at this; rw [hnew o this.1 this.2] at hb0; cases hb0
        · exact hmo
    have mixed : ∀ {b o o' i : Nat}, i ∈ keys σ1 → o = g i → σ1.get i ≠ .dead → μ' i = some b → (∀ i, i ∈ keys σ1 → o' ≠ g i) → σ.get o' ≠ .dead → μ o' = some b → False := fun {b o o' i} hi e hd hmi' ho' hd' hm' => by
      rcases hb.mnew b (.inl ⟨i, hmi'⟩) with h | h
      · exact other ho' hd' hm' h
      · have := hσ.mb b (.inl ⟨o', hm'⟩); omega
    refine ⟨hs1.fb, fun b hb2 => ?_, fun o ho => ?_, fun o b hm => ?_, fun o b ho hm hf => ?_, fun i j b hi hj hmi hmj => ?_, fun c x hc => ?_, fun c x y hx hy => ?_⟩
    · rcases hb2 with ⟨o, ho⟩ | ⟨x, hx | hx⟩
      · rcases μ2has ho with ⟨i, _, _, _, hi⟩ | ⟨_, hi⟩
        · exact hs1.mb b (.inl ⟨i, hi⟩)
        · exact Nat.lt_of_lt_of_le (hσ.mb b (.inl ⟨o, hi⟩)) hb.size
      · exact hs1.mb b (.inr ⟨x, hx⟩)
      · exact Nat.lt_of_lt_of_le (hσ.mb b (.inr ⟨x, hx.1⟩)) hb.size
    · rcases hget o with ⟨i, hi, e, e2⟩ | ⟨_, e⟩
      · rw [show (Heap.get (List.map (fun x => (rn ρ nid x.1, renO (rn ρ nid) x.2)) σ1 ++ σ) o) = _ from e2] at ho
        obtain ⟨b, hb⟩ := hs1.has i fun h => ho (renO_dead.2 h)
        exact ⟨b, by rw [e]; exact hout i b hb⟩
      · rw [show (Heap.get (List.map (fun x => (rn ρ nid x.1, renO (rn ρ nid) x.2)) σ1 ++ σ) o) = _ from e] at ho
        obtain ⟨b, hb⟩ := hσ.has o ho
        refine ⟨b, ?_⟩
        rw [← hb]; refine if_neg fun hw => ?_
        rw [hnew o hw.1 hw.2] at hb; cases hb
    · rcases hget o with ⟨i, hi, e, e2⟩ | ⟨e0, e⟩
      · rw [show (Heap.get (List.map (fun x => (rn ρ nid x.1, renO (rn ρ nid) x.2)) σ1 ++ σ) o) = _ from e2]
        have hμi : μ' i = some b := by
          rcases μ2has hm with ⟨i', h1, h2, h3, h4⟩ | ⟨hw, hmo⟩
          · have := ginj i i' (hbd i hi) h2 (by rw [← e, h3]); subst this; exact h4
          · rcases Nat.lt_or_ge i m with h1 | h1
            · rw [e, glt i h1] at hmo
              have h2 : μc i = some b := by show (if i < m then _ else _) = _; rw [if_pos h1]; exact hmo
              exact hkeep i h1 b h2
            · have := gwin i h1; rw [← e] at this; exact absurd this hw
        exact (hs1.obj i b hμi).ren_out hout fun c hc => .inl hc
      · rw [show (Heap.get (List.map (fun x => (rn ρ nid x.1, renO (rn ρ nid) x.2)) σ1 ++ σ) o) = _ from e]
        rcases Classical.em (σ.get o = .dead) with hd | hd
        · rw [hd]; trivial
        · obtain ⟨b0, hb0⟩ := hσ.has o hd
          have hm' : μ o = some b := by
            rcases μ2has hm with ⟨i', h1, h2, h3, h4⟩ | ⟨_, hmo⟩
            · have := gwin i' h1; rw [← h3] at this; rw [hnew o this.1 this.2] at hb0; cases hb0
            · exact hmo
          refine (hσ.obj o b hm').step hst (hb.old b (hσ.mb b (.inl ⟨o, hm'⟩)) (other e0 hd hm')) fun c hc => ?_
          have hn : ¬ ∃ i, i < m ∧ μ (ρ.getD i 0) = some b := fun ⟨i, h1, h2⟩ => e0 i (hcov i h1) (by rw [glt i h1]; exact hσ.inj o _ b hd (hlive _ (mem i h1)) hm' h2)
          exact ⟨.inr ⟨hc, hn⟩, hb.old c (hσ.mb c (.inr ⟨b, hc⟩)) (hidc hc hn)⟩
    · rcases hget o with ⟨i, hi, e, e2⟩ | ⟨e0, e⟩
      · rw [show (Heap.get (List.map (fun x => (rn ρ nid x.1, renO (rn ρ nid) x.2)) σ1 ++ σ) o) = _ from e2] at ho
        have hd1 : σ1.get i ≠ .dead := fun h => ho (renO_dead.2 h)
        obtain ⟨b1, hb1⟩ := hs1.has i hd1
        have := hout i b1 hb1
        rw [← e, hm] at this; injection this with this; subst this
        exact hs1.live i b hd1 hb1 hf
      · rw [show (Heap.get (List.map (fun x => (rn ρ nid x.1, renO (rn ρ nid) x.2)) σ1 ++ σ) o) = _ from e] at ho
        obtain ⟨b0, hb0⟩ := hσ.has o ho
        have hm' : μ o = some b := by
          rcases μ2has hm with ⟨i', h1, h2, h3, h4⟩ | ⟨_, hmo⟩
          · have := gwin i' h1; rw [← h3] at this; rw [hnew o this.1 this.2] at hb0; cases hb0
          · exact hmo
        rcases hb.fnew b hf with h | h | h
        · exact hσ.live o b ho hm' h
        · exact other e0 ho hm' h
        · have := hσ.mb b (.inl ⟨o, hm'⟩); omega
    ·
      rcases cls i hi hmi with ⟨k1, a1, a2, a3, a4⟩ | ⟨a1, a2, a3⟩ <;> rcases cls j hj hmj with ⟨k2, b1, b2, b3, b4⟩ | ⟨b1, b2, b3⟩
      · have := hs1.inj k1 k2 b a3 b3 a4 b4
        rw [a2, b2, this]
      · exact (mixed a1 a2 a3 a4 b1 b2 b3).elim
      · exact (mixed b1 b2 b3 b4 a1 a2 a3).elim
      · exact hσ.inj i j b a2 b2 a3 b3
    · have newc : ∀ {y}, μ'.hid c y → μc.has c ∨ w.heap.size ≤ c := fun {y} h => hb.mnew c (.inr ⟨y, h⟩)
      refine ⟨fun hf => ?_, fun o ho hm => ?_⟩
      · rcases hc with hc | ⟨hc, hn⟩
        · exact (hs1.hd c x hc).1 hf
        · rcases hb.fnew c hf with h | h | h
          · exact (hσ.hd c x hc).1 h
          · exact hidc hc hn h
          · have := hσ.mb c (.inr ⟨x, hc⟩); omega
      · rcases cls o ho hm with ⟨k1, a1, a2, a3, a4⟩ | ⟨a1, a2, a3⟩
        · rcases hc with hc | ⟨hc, hn⟩
          · exact (hs1.hd c x hc).2 k1 a3 a4
          · rcases hb.mnew c (.inl ⟨k1, a4⟩) with h | h
            · exact hidc hc hn h
            · have := hσ.mb c (.inr ⟨x, hc⟩); omega
        · rcases hc with hc | ⟨hc, hn⟩
          · rcases newc hc with h | h
            · exact other a1 a2 a3 h
            · have := hσ.mb c (.inl ⟨o, a3⟩); omega
          · exact (hσ.hd c x hc).2 o a2 a3
    · have newc : ∀ {y}, μ'.hid c y → μc.has c ∨ w.heap.size ≤ c := fun {y} h => hb.mnew c (.inr ⟨y, h⟩)
      have two : ∀ {x y}, μ'.hid c x → μ.hid c y → (¬ ∃ i, i < m ∧ μ (ρ.getD i 0) = some y) → False := fun {x y} h1 h2 h3 => by
        rcases newc h1 with h | h
        · exact hidc h2 h3 h
        · have := hσ.mb c (.inr ⟨y, h2⟩); omega
      rcases hx with hx | ⟨hx, hnx⟩ <;> rcases hy with hy | ⟨hy, hny⟩
      · exact hs1.hu c x y hx hy
      · exact (two hx hy hny).elim
      · exact (two hy hx hnx).elim
      · exact hσ.hu c x y hx hy
theorem stK_sound {ro : Option Nat} {n : Nat} {o : Oper} {ev : Operand → AV} {a : Act} {next : Act → World → Prop} {Q : Exit → Act → World → Prop} (hσ : SimH F μ σ w)
    (hnew : ∀ o, nid ≤ o → o < nid + 64 → μ o = none) (hev : ∀ x, RV F μ w (a.eval x) (ev x)) (h : stK P o.op ev σ nid K)
    (hk : ∀ av us v w' F' μ', K av us → Step F μ w F' μ' w' → SimH F' μ' (us ++ σ) w' → RV F' μ' w' v av → (∀ o, o < nid ∨ nid + 64 ≤ o → μ' o = μ o) → next (a.put o.dst v) w') :
    o.wpIn (fc ro) n P a w next Q := by
  unfold stK at h
  cases hkd : kindOf P o.op with
  | quiet =>
    simp only [hkd] at h
    split at h
    · rename_i t q k ok kt sz m hlk
      obtain ⟨dst, op, ty, pos, after, guard⟩ := o
      cases op <;> try (cases hlk; done)
      rename_i t' x i ok'
      simp only [isLkS] at hlk
      split at hlk
      · rename_i o' hx
        split at hlk
        · rename_i kt' sz' m' ho
          injection hlk with hlk
          injection hlk with e1 e2; injection e2 with e2 e3; injection e3 with e3 e4; injection e4 with e4 e5; injection e5 with e5 e6; injection e6 with e6 e7
          subst e1; subst e2; subst e3; subst e4; subst e5; subst e6; subst e7
          have hxx := hev x
          rw [hx] at hxx
          obtain ⟨av, us, v, w', F', μ', h1, h2, h3, h4, h5, h6⟩ := (lookS_sound hσ (hnew nid (Nat.le_refl _) (by omega)) hxx (hev i) ho h).next
          refine ⟨about_any _ a w, ?_⟩
          rw [Oper.semAt_eq _ _ _ (by simp)]
          have hh := hk av us v w' F' μ' h1 h3 h4 h5 (fun o ho => h6 o (by omega))
          rcases h2 with h2 | ⟨h2, hv⟩
          · have h2' : (execOp a.eval { dst := dst, op := .lookup t' x i ok', type := ty, pos := pos, after := after, guard := guard }).run P w = .ok (.value v) w' := h2
            rw [h2']; exact hh
          · have h2' : (execOp a.eval { dst := dst, op := .lookup t' x i ok', type := ty, pos := pos, after := after, guard := guard }).run P w = .ok .skip w' := h2
            rw [h2']; subst hv; exact hh
        · cases hlk
      · cases hlk
    have hd : ∀ c, o.op ≠ .defer c := fun c hc => by rw [hc] at h; exact h
    exact qt_wp hd (yQ_sound hσ hev h) fun av v h1 h2 => hk av [] v w F μ h1 (Step.refl F μ w) hσ h2 (fun _ _ => rfl)
  | write =>
    simp only [hkd] at h
    have hd : ∀ c, o.op ≠ .defer c := fun c hc => by rw [hc] at h; exact h
    obtain ⟨av, us, v, w', F', μ', h1, h2, h3, h4, h5, h6⟩ := yW_sound hσ (hnew nid (Nat.le_refl _) (by omega)) hev h
    refine ⟨about_any o a w, ?_⟩
    rw [Oper.semAt_eq _ _ _ hd]
    have hh := hk av us v w' F' μ' h1 h3 h4 h5 (fun o ho => h6 o (by omega))
    rcases h2 with h2 | ⟨h2, hv⟩
    · rw [h2]; exact hh
    · rw [h2]; subst hv; exact hh
  | call =>
    simp only [hkd] at h
    obtain ⟨dst, op, ty, pos, after, guard⟩ := o
    cases op <;> try exact h.elim
    rename_i c
    obtain ⟨callee, args, ats⟩ := c
    cases callee with
    | builtin b => exact h.elim
    | invoke r m => exact h.elim
    | value x =>
      simp only at h
      have hx := hev x
      refine ⟨about_any _ a w, ?_⟩
      rw [Oper.semAt_eq _ _ _ (by simp)]
      have runE : ∀ {f : FuncId} {as : List AV} (us bs : Array Value), callE P (some (f, as)) σ K → a.eval x = .func (.func f) us bs → (us ++ args.map a.eval ++ bs).size = as.length → (∀ (i : Nat) p, as[i]? = some p → RV F μ w ((us ++ args.map a.eval ++ bs)[i]?.getD undef) p) →
          Oper.uponIn (fc ro) n P { dst := dst, op := .call { callee := .value x, args := args, argTypes := ats }, type := ty, pos := pos, after := after, guard := guard } a next Q
            ((execOp a.eval { dst := dst, op := .call { callee := .value x, args := args, argTypes := ats }, type := ty, pos := pos, after := after, guard := guard }).run P w) := by
        intro f as us bs hE he hsz hrv
        obtain ⟨f', a1, a2, o1, s1, i1, n1, o2, s2, i2, n2, l1, l2, hc, ⟨fn, tS, tR, e, sz, g, hf, hn, hb, hx, hfi, hu, hs⟩, e1, e2, hne, g1, g2, h0, hl, hK⟩ := hE
        injection hc with hc; injection hc with hc1 hc2; subst hc1; subst hc2
        have r1 := (hrv 0 a1 rfl).uc
        have r2 := (hrv 1 a2 rfl).uc
        rw [e1] at r1; rw [e2] at r2
        generalize hvs : us ++ args.map a.eval ++ bs = vs at *
        obtain ⟨v1, v2, rfl⟩ : ∃ v1 v2, vs = #[v1, v2] := by
          obtain ⟨l⟩ := vs
          match l, hsz with
          | [v1, v2], _ => exact ⟨v1, v2, rfl⟩
        simp only [List.getElem?_toArray, List.getElem?_cons_zero, List.getElem?_cons_succ, Option.getD_some] at r1 r2
        cases r1 with
        | rsl _ _ _ _ _ r1 =>
        cases r1 with
        | msl _ _ _ off1 _ cap1 b1 t1 k1 hb1 _ hsh1 _ _ _ =>
        cases r2 with
        | rsl _ _ _ _ _ r2 =>
        cases r2 with
        | msl _ _ _ off2 _ cap2 b2 t2 k2 hb2 _ hsh2 _ _ _ =>
        have row : ∀ {o b t k sz : Nat} {l : List PV}, σ.get o = .row sz l → μ o = some b → w.shape? b = some (t, k) → (∀ off, w.frozen? ⟨b, off, none⟩ = false) ∧ (rowC l).length ≤ k ∧ okRow sz l := by
          intro o b t k sz l ho hb hsh
          have hro := hσ.obj o b hb
          rw [ho] at hro
          obtain ⟨hok, cur, t', q1, q2, q3⟩ := hro
          simp [World.shape?, q1] at hsh
          exact ⟨fun off => by simp [World.frozen?, q1], by omega, hok⟩
        obtain ⟨z1, _, _⟩ := row g1 hb1 hsh1
        obtain ⟨_, z2, z3⟩ := row g2 hb2 hsh2
        have hk2 : k2 ≠ 0 := by
          rw [rowC_len h0 z3] at z2
          have := Nat.mul_pos hl h0
          omega
        have hbne : b1 ≠ b2 := fun e => hne (hσ.inj o1 o2 b1 (by rw [g1]; simp) (by rw [g2]; simp) hb1 (e ▸ hb2))
        have hrun : (execOp a.eval { dst := dst, op := .call { callee := .value x, args := args, argTypes := ats }, type := ty, pos := pos, after := after, guard := guard }).run P w = .ok (.value (.bool false)) w := by
          simp only [execOp, resolve, he, Deferred.ofValue, Sem.run_bind, Sem.run_pure, Result.andThen_ok, invoke]
          rw [hvs, run_callFunc_extern hf hn hb hx hfi, Lib.run_overlaps_apart w tS tR e hu sz (fun w => run_sizeOf hs w) ⟨b1, off1, none⟩ ⟨b2, off2, none⟩ n1 cap1 n2 cap2 hbne t1 t2 k1 k2 hsh1 hsh2 hk2 (z1 _) (z1 _)]
          rfl
        rw [hrun]
        refine hk _ _ _ w F μ hK (Step.refl F μ w) (hσ.congr fun i => ?_) (.p (.bool _)) (fun _ _ => rfl)
        simp only [List.cons_append, List.nil_append, Heap.get]
        split
        · rename_i e; subst e; exact g1.symm
        · split
          · rename_i e; subst e; exact g2.symm
          · rfl
      obtain ⟨f, as, hc, hcases⟩ : ∃ f as, calleeOf (ev x) (args.toList.map ev) = some (f, as) ∧ ((enters P f = true ∧ COut P F μ σ w nid K f as) ∨ callE P (some (f, as)) σ K) := by
        rcases h.h with h | h | h | h
        · obtain ⟨f, as, h1, h2, h3⟩ := callK_sound hσ h; exact ⟨f, as, h1, .inl ⟨h2, h3⟩⟩
        · obtain ⟨f, as, h1, h2, h3⟩ := callI_sound hσ hnew h; exact ⟨f, as, h1, .inl ⟨h2, h3⟩⟩
        · obtain ⟨f, a1, a2, o1, s1, i1, n1, o2, s2, i2, n2, l1, l2, hc, rest⟩ := h
          exact ⟨f, _, hc, .inr ⟨f, a1, a2, o1, s1, i1, n1, o2, s2, i2, n2, l1, l2, rfl, rest⟩⟩
        · obtain ⟨r, us0, h, hsame, _, hK⟩ := h
          obtain ⟨f, as, h1, h2, h3⟩ := callI_sound hσ hnew h
          refine ⟨f, as, h1, .inl ⟨h2, fun vs hsz hrv => Calls.mono (h3 vs hsz hrv) fun e w' he => ?_⟩⟩
          obtain ⟨av, us, v, F', μ', e1, ⟨rfl, rfl⟩, g1, g2, g3, g4⟩ := he
          exact ⟨_, [], v, F', μ', e1, hK, g1, g2.congr fun i => (hsame i).symm, g3, g4⟩
      have key : ∀ (us bs : Array Value) , a.eval x = .func (.func f) us bs → (us ++ args.map a.eval ++ bs).size = as.length → (∀ (i : Nat) p, as[i]? = some p → RV F μ w ((us ++ args.map a.eval ++ bs)[i]?.getD undef) p) →
          Oper.uponIn (fc ro) n P { dst := dst, op := .call { callee := .value x, args := args, argTypes := ats }, type := ty, pos := pos, after := after, guard := guard } a next Q
            ((execOp a.eval { dst := dst, op := .call { callee := .value x, args := args, argTypes := ats }, type := ty, pos := pos, after := after, guard := guard }).run P w) := by
        intro us bs he hsz hrv
        rcases hcases with ⟨hent, hcout⟩ | hE
        rotate_left
        · exact runE us bs hE he hsz hrv
        have hrun : (execOp a.eval { dst := dst, op := .call { callee := .value x, args := args, argTypes := ats }, type := ty, pos := pos, after := after, guard := guard }).run P w =
            .ok (.enter f (us ++ args.map a.eval ++ bs)) w := by
          simp only [execOp, resolve, he, Deferred.ofValue, Sem.run_bind, Sem.run_pure, Result.andThen_ok, invoke]
          exact run_callFunc hent _ _
        rw [hrun, Oper.uponIn_enter]
        refine ⟨fun h => by simp [fc, Fence.wide] at h, callsIn_fc.2 ?_⟩
        refine Calls.mono (hcout _ hsz hrv) fun e w' he => ?_
        obtain ⟨av, us, v, F', μ', rfl, h1, h2, h3, h4, h5⟩ := he
        exact hk av us v w' F' μ' h1 h2 h3 h4 h5
      have args_rv : ∀ (us bs : Array Value) (l m : List AV), us.size = l.length → bs.size = m.length → (∀ (i : Nat) p, l[i]? = some p → RV F μ w (us[i]?.getD undef) p) →
          (∀ (i : Nat) p, m[i]? = some p → RV F μ w (bs[i]?.getD undef) p) → (us ++ args.map a.eval ++ bs).size = (l ++ args.toList.map ev ++ m).length ∧
          ∀ (i : Nat) p, (l ++ args.toList.map ev ++ m)[i]? = some p → RV F μ w ((us ++ args.map a.eval ++ bs)[i]?.getD undef) p := by
        intro us bs l m hl hm h1 h2
        refine ⟨by simp [hl, hm], fun i p hp => ?_⟩
        rw [List.getElem?_append] at hp
        split at hp
        · rename_i hi
          rw [List.getElem?_append] at hp
          split at hp
          · rename_i hi'
            have : (us ++ args.map a.eval ++ bs)[i]? = us[i]? := by
              rw [Array.getElem?_append_left (by simp; omega), Array.getElem?_append_left (by omega)]
            rw [this]; exact h1 i p hp
          · rename_i hi'
            have hi2 : i - l.length < args.size := by simp at hi; omega
            have : (us ++ args.map a.eval ++ bs)[i]? = (args.map a.eval)[i - l.length]? := by
              rw [Array.getElem?_append_left (by simp; omega), Array.getElem?_append_right (by omega), hl]
            rw [this]
            simp only [List.getElem?_map, Option.map_eq_some_iff, Array.getElem?_toList] at hp
            obtain ⟨y, hy, rfl⟩ := hp
            simp only [Array.getElem?_map, hy]
            exact hev y
        · rename_i hi
          have : (us ++ args.map a.eval ++ bs)[i]? = bs[i - (l ++ args.toList.map ev).length]? := by
            rw [Array.getElem?_append_right (by simp at hi ⊢; omega)]; simp [hl]
          rw [this]; exact h2 _ p hp
      unfold calleeOf at hc
      split at hc
      · rename_i f' l m hxe
        injection hc with hc; injection hc with hc1 hc2; subst hc1; subst hc2
        rw [hxe] at hx
        generalize hy : a.eval x = y at hx
        cases hx with
        | p hx =>
          cases hx with
          | fn _ us bs _ _ g1 g2 g3 g4 =>
            obtain ⟨e1, e2⟩ := args_rv us bs (l.map AV.p) (m.map AV.p) (by simp [g1]) (by simp [g2]) (fun i p hp => by
              simp only [List.getElem?_map, Option.map_eq_some_iff] at hp
              obtain ⟨q, hq, rfl⟩ := hp
              exact .p (g3 i q hq)) (fun i p hp => by
              simp only [List.getElem?_map, Option.map_eq_some_iff] at hp
              obtain ⟨q, hq, rfl⟩ := hp
              exact .p (g4 i q hq))
            exact key us bs hy e1 e2
      · rename_i f' l m hxe
        injection hc with hc; injection hc with hc1 hc2; subst hc1; subst hc2
        rw [hxe] at hx
        generalize hy : a.eval x = y at hx
        cases hx with
        | fn _ us bs _ _ g1 g2 g3 g4 =>
          obtain ⟨e1, e2⟩ := args_rv us bs l m g1 g2 g3 g4
          exact key us bs hy e1 e2
      · cases hc
theorem run_equal_nil {t e : TypeId} (hu : P.underlying t = some (.slice e)) (a : Option Addr) (l c : Nat) (w' : World) : (Op.equal t (.slice a l c) (.slice none 0 0)).run P w' = .ok a.isNone w' := by
  have : ∀ d, (Op.equalIn (d + 1) t (.slice a l c) (.slice none 0 0)).run P w' = .ok a.isNone w' := fun d => by
    cases a <;> simp only [Op.equalIn, underlying, Sem.run_bind, run_program, Result.andThen_ok, hu, Sem.run_pure] <;> rfl
  exact this 9999
theorem stS0_sound {ro : Option Nat} {n : Nat} {o : Oper} {ev : Operand → AV} {a : Act} {next : Act → World → Prop} {Q : Exit → Act → World → Prop} (hσ : SimH F μ σ w)
    (hnew : ∀ o, nid ≤ o → o < nid + 64 → μ o = none) (hev : ∀ x, RV F μ w (a.eval x) (ev x)) (h : stS0 P o.op ev σ nid K)
    (hk : ∀ av us v w' F' μ', K av us → Step F μ w F' μ' w' → SimH F' μ' (us ++ σ) w' → RV F' μ' w' v av → (∀ o, o < nid ∨ nid + 64 ≤ o → μ' o = μ o) → next (a.put o.dst v) w') :
    o.wpIn (fc ro) n P a w next Q := by
  unfold stS0 at h
  split at h
  · rename_i t x neg hnd
    have hsl : ∃ base len cap, a.eval x = .slice base len cap ∧ (tE P t).isSome = true ∧ K (.p (.bool (if neg then !base.isNone else base.isNone))) [] := by
      have hx := hev x
      unfold nilCmpK at h
      split at h
      · rename_i s c l hxe
        rw [hxe] at hx
        generalize a.eval x = v at hx
        cases hx with
        | p hx =>
          cases hx with
          | esl base cap sz clip h1 h2 h3 => exact ⟨base, 0, cap, rfl, h.1, h.2 _ (by simp)⟩
          | sl b off len cap sz clip l f h1 h2 h3 h4 h5 h6 h7 h8 => exact ⟨_, len, cap, rfl, h.1, h.2 _ (fun _ => by cases neg <;> rfl)⟩
      · rename_i hxe
        rw [hxe] at hx
        generalize a.eval x = v at hx
        cases hx with
        | msl o sz off off' len cap b t' n' h1 h2 h3 h4 h5 h6 => exact ⟨some ⟨b, off', none⟩, _, cap, rfl, h.1, by cases neg <;> exact h.2⟩
      · rename_i hxe
        rw [hxe] at hx
        generalize a.eval x = v at hx
        cases hx with
        | rsl _ _ _ _ _ hx =>
        cases hx with
        | msl o sz off off' len cap b t' n' h1 h2 h3 h4 h5 h6 => exact ⟨some ⟨b, off', none⟩, _, cap, rfl, h.1, by cases neg <;> exact h.2⟩
      · exact h.elim
    obtain ⟨base, len, cap, hv, ht, hK⟩ := hsl
    have hu : ∃ e, P.underlying t = some (.slice e) := by
      unfold tE at ht
      split at ht
      · rename_i e he; exact ⟨e, he⟩
      · cases ht
    obtain ⟨e, hu⟩ := hu
    have hrun : (execOp a.eval o).run P w = .ok (.value (.bool (if neg then !base.isNone else base.isNone))) w := by
      obtain ⟨dst, op, ty, pos, after, guard⟩ := o
      unfold ndOf at hnd
      split at hnd
      · rename_i t' x' ty' hop
        simp only at hop
        subst hop
        injection hnd with hnd; injection hnd with e1 e2; injection e2 with e2 e3
        subst e1; subst e2; subst e3
        have hg : (eqGuard .eql t' x' (.const (.slice none 0 0)) (.slice base len cap) (.slice none 0 0)).run P w = .ok () w := by unfold eqGuard; rfl
        have hcst : a.eval (.const (.slice none 0 0)) = .slice none 0 0 := rfl
        simp only [execOp, hv, hcst, Sem.run_bind, hg, Result.andThen_ok, binOp, run_equal_nil hu, Sem.run_pure]
        rfl
      · rename_i t' x' ty' hop
        simp only at hop
        subst hop
        injection hnd with hnd; injection hnd with e1 e2; injection e2 with e2 e3
        subst e1; subst e2; subst e3
        have hg : (eqGuard .neq t' x' (.const (.slice none 0 0)) (.slice base len cap) (.slice none 0 0)).run P w = .ok () w := by unfold eqGuard; rfl
        have hcst : a.eval (.const (.slice none 0 0)) = .slice none 0 0 := rfl
        simp only [execOp, hv, hcst, Sem.run_bind, hg, Result.andThen_ok, binOp, run_equal_nil hu, Sem.run_pure]
        rfl
      · cases hnd
    have hd : ∀ c, o.op ≠ .defer c := fun c hc => by rw [hc] at hnd; cases hnd
    refine ⟨about_any o a w, ?_⟩
    rw [Oper.semAt_eq _ _ _ hd, hrun]
    exact hk _ [] _ w F μ hK (Step.refl F μ w) hσ (.p (.bool _)) (fun _ _ => rfl)
  · split at h
    · rename_i t x neg hni
      have hb : ∃ b : Bool, (a.eval x = .nilIface ∧ b = true ∨ (∃ ty u, a.eval x = .iface ty u) ∧ b = false) ∧ niK.tIf2 P t = true ∧ K (.p (.bool (if neg then !b else b))) [] := by
        have hx := hev x
        unfold niK at h
        split at h
        · rename_i ty q hxe
          rw [hxe] at hx
          generalize hu : a.eval x = v at hx
          have hx := hx.pure_inv
          cases hx with
          | iface _ u _ _ => exact ⟨false, .inr ⟨⟨_, _, rfl⟩, rfl⟩, h.1, by cases neg <;> exact h.2⟩
        · rename_i hxe
          rw [hxe] at hx
          generalize hu : a.eval x = v at hx
          have hx := hx.pure_inv
          cases hx with
          | nili => exact ⟨true, .inl ⟨rfl, rfl⟩, h.1, by cases neg <;> exact h.2⟩
        · exact h.elim
      obtain ⟨b, hv, ht, hK⟩ := hb
      have hu : ∃ ms, P.underlying t = some (.interface ms) := by
        unfold niK.tIf2 at ht
        split at ht
        · rename_i ms hms; exact ⟨ms, hms⟩
        · cases ht
      obtain ⟨ms, hu⟩ := hu
      have hcst : a.eval (.const .nilIface) = .nilIface := rfl
      have heq : (Op.equal t (a.eval x) .nilIface).run P w = .ok b w := by
        have : ∀ d, (Op.equalIn (d + 1) t (a.eval x) .nilIface).run P w = .ok b w := fun d => by
          rcases hv with ⟨e1, e2⟩ | ⟨⟨ty, u, e1⟩, e2⟩ <;> subst e2 <;> rw [e1] <;>
            simp only [Op.equalIn, underlying, Sem.run_bind, run_program, Result.andThen_ok, hu, Sem.run_pure]
        exact this 9999
      have hrun : (execOp a.eval o).run P w = .ok (.value (.bool (if neg then !b else b))) w := by
        obtain ⟨dst, op, ty, pos, after, guard⟩ := o
        have hg : ∀ op', (eqGuard op' t x (.const .nilIface) (a.eval x) .nilIface).run P w = .ok () w := fun op' => by
          unfold eqGuard
          rcases hv with ⟨e1, _⟩ | ⟨⟨ty, u, e1⟩, _⟩ <;> rw [e1] <;> cases op' <;> cases x <;> rfl
        have hbn : ∀ v : Value, (v = .nilIface ∨ ∃ ty u, v = .iface ty u) → (binOp .eql t v .nilIface) = (do pure (.bool (← Op.equal t v .nilIface))) ∧ (binOp .neq t v .nilIface) = (do pure (.bool !(← Op.equal t v .nilIface))) := fun v hv' => by
          rcases hv' with rfl | ⟨ty, u, rfl⟩ <;> exact ⟨rfl, rfl⟩
        obtain ⟨hb1, hb2⟩ := hbn (a.eval x) (by rcases hv with ⟨e1, _⟩ | ⟨e1, _⟩; exact .inl e1; exact .inr e1)
        unfold niOf at hni
        split at hni
        · rename_i t' x' ty' hop
          simp only at hop
          subst hop
          injection hni with hni; injection hni with e1 e2; injection e2 with e2 e3
          subst e1; subst e2; subst e3
          simp only [execOp, hcst, Sem.run_bind, hg, Result.andThen_ok, hb1, heq, Sem.run_pure]
          rfl
        · rename_i t' x' ty' hop
          simp only at hop
          subst hop
          injection hni with hni; injection hni with e1 e2; injection e2 with e2 e3
          subst e1; subst e2; subst e3
          simp only [execOp, hcst, Sem.run_bind, hg, Result.andThen_ok, hb2, heq, Sem.run_pure]
          rfl
        · cases hni
      have hd : ∀ c, o.op ≠ .defer c := fun c hc => by rw [hc] at hni; cases hni
      refine ⟨about_any o a w, ?_⟩
      rw [Oper.semAt_eq _ _ _ hd, hrun]
      exact hk _ [] _ w F μ hK (Step.refl F μ w) hσ (.p (.bool _)) (fun _ _ => rfl)
    · exact stK_sound hσ hnew hev h hk
theorem stS_sound {ro : Option Nat} {n : Nat} {o : Oper} {ev : Operand → AV} {a : Act} {next : Act → World → Prop} {Q : Exit → Act → World → Prop} (hσ : SimH F μ σ w)
    (hnew : ∀ o, nid ≤ o → o < nid + 64 → μ o = none) (hev : ∀ x, RV F μ w (a.eval x) (ev x)) (h : stS P o.op ev σ nid K)
    (hk : ∀ av us v w' F' μ', K av us → Step F μ w F' μ' w' → SimH F' μ' (us ++ σ) w' → RV F' μ' w' v av → (∀ o, o < nid ∨ nid + 64 ≤ o → μ' o = μ o) → next (a.put o.dst v) w') :
    o.wpIn (fc ro) n P a w next Q := by
  have wout : (∀ c, o.op ≠ .defer c) → WOutN P F μ σ w nid K (execOp a.eval o) → o.wpIn (fc ro) n P a w next Q := fun hd h => by
    obtain ⟨av, us, v, w', F', μ', h1, h2, h3, h4, h5, h6⟩ := h
    refine ⟨about_any o a w, ?_⟩
    rw [Oper.semAt_eq _ _ _ hd]
    have hh := hk av us v w' F' μ' h1 h3 h4 h5 (fun o ho => h6 o (by omega))
    rcases h2 with h2 | ⟨h2, hv⟩
    · rw [h2]; exact hh
    · rw [h2]; subst hv; exact hh
  obtain ⟨dst, op, ty, pos, after, guard⟩ := o
  replace h : stS P op ev σ nid K := h
  unfold stS at h
  split at h
  · rename_i t x
    exact wout (fun c hc => by cases hc) (rangeK_sound hσ (hnew nid (Nat.le_refl _) (by omega)) (hev x) h).next
  · rename_i x s
    exact wout (fun c hc => by cases hc) (nextK_sound (nid := nid) hσ (hev x) h).next
  · rename_i x
    exact qt_wp (fun c hc => by cases hc) (entryK_sound hσ (hev x) h).next fun av v h1 h2 => hk av [] v w F μ h1 (Step.refl F μ w) hσ h2 (fun _ _ => rfl)
  · rename_i t x y z
    rcases h.h with h | h
    · exact stS0_sound (o := { dst := dst, op := .binOp .add t x y z, type := ty, pos := pos, after := after, guard := guard }) hσ hnew hev h hk
    · have hx := hev x
      have hy := hev y
      unfold wrapK at h
      split at h
      · rename_i k n' k' m hxe hye
        obtain ⟨rfl, hK⟩ := h
        rw [hxe] at hx; rw [hye] at hy
        have hxv := pint_inv hx
        have hyv := pint_inv hy
        refine qt_wp (F := F) (μ := μ) (Kq := fun v => K v []) (fun c hc => by cases hc) ⟨_, .int k (k.wrap (n' + m)), hK, .p (.int _ _), fun w' _ => ?_⟩ fun av v h1 h2 => hk av [] v w F μ h1 (Step.refl F μ w) hσ h2 (fun _ _ => rfl)
        have hg : (eqGuard .add t x y (.int k n') (.int k m)).run P w' = .ok () w' := by unfold eqGuard; rfl
        simp only [execOp, hxv, hyv, Sem.run_bind, hg, Result.andThen_ok, binOp, Op.intArith, ne_eq, not_true_eq_false, if_false, Sem.run_pure]
      · exact h.elim
  · exact stS0_sound (o := { dst := dst, op := op, type := ty, pos := pos, after := after, guard := guard }) hσ hnew hev h hk
end
end Go.Sg
namespace Go.Sg
open Go
def XCalls (P : Program) (f : FuncId) (m : Nat) (σ0 : Heap) (as : List AV) (p : PV) : Prop :=
  flatP p = true ∧ ∀ (F : Nat → Prop) (μ : Num) (w : World) (vs : Array Value), SimH F μ σ0 w → (∀ o, m ≤ o → μ o = none) → vs.size = as.length → (∀ (i : Nat) p, as[i]? = some p → RV F μ w (vs[i]?.getD undef) p) →
    Calls P f vs w fun e w' => ∃ v F' μ', e = .panicked [{ v, recovered := false }] ∧ Base F μ w F' μ' w' ∧ RP F' w' v p
structure callP (P : Program) (c : Option (FuncId × List AV)) (σ : Heap) (nid : Nat) (KX : PV → Heap → Prop) : Prop where
  h : ∃ (f : FuncId) (as as0 : List AV) (σ0 : Heap) (ρ : List Nat) (p : PV), c = some (f, as) ∧ enters P f = true ∧ as = renL (rn ρ nid) as0 ∧ ρ.Nodup ∧ (∀ o ∈ ρ, σ.get o ≠ .dead) ∧
    (∀ i, i < ρ.length → σ.get (ρ.getD i 0) = renO (rn ρ nid) (σ0.get i)) ∧ (∀ i, ρ.length ≤ i → σ0.get i = .dead) ∧ XCalls P f ρ.length σ0 as0 p ∧ KX p (ρ.map fun o => (o, .dead))
def panK (P : Program) (op : Op) (ev : Operand → AV) (σ : Heap) (nid : Nat) (KX : PV → Heap → Prop) : Prop :=
  match op with
  | .call c => (match c.callee with
    | .value x => callP P (calleeOf (ev x) (c.args.toList.map ev)) σ nid KX
    | _ => False)
  | _ => False
structure XAlt (A B : Prop) : Prop where
  h : A ∨ B
theorem XAlt.l {A B : Prop} (h : A) : XAlt A B := ⟨.inl h⟩
theorem XAlt.r {A B : Prop} (h : B) : XAlt A B := ⟨.inr h⟩
def xalt (op : Op) (A B : Prop) : Prop :=
  match op with
  | .call c => (match c.callee with
    | .value _ => XAlt A B
    | _ => A)
  | _ => A
theorem xalt_or {op : Op} {A B : Prop} (h : xalt op A B) : A ∨ B := by
  unfold xalt at h
  split at h
  · split at h
    · exact h.h
    · exact .inl h
  · exact .inl h
section
variable {P : Program} {F : Nat → Prop} {μ : Num} {σ : Heap} {w : World} {nid : Nat} {KX : PV → Heap → Prop}
theorem call_enter {x : Operand} {args : Array Operand} {ats : Array TypeId} {dst : Option Nat} {ty : TypeId} {pos : String} {after : Array Edge} {guard : Option (Nat × Bool)} {f : FuncId} {as : List AV} {ev : Operand → AV} {a : Act}
    (hev : ∀ x, RV F μ w (a.eval x) (ev x)) (hc : calleeOf (ev x) (args.toList.map ev) = some (f, as)) (hent : enters P f = true) :
    ∃ vs : Array Value, vs.size = as.length ∧ (∀ (i : Nat) p, as[i]? = some p → RV F μ w (vs[i]?.getD undef) p) ∧
      (execOp a.eval { dst := dst, op := .call { callee := .value x, args := args, argTypes := ats }, type := ty, pos := pos, after := after, guard := guard }).run P w = .ok (.enter f vs) w := by
  have hx := hev x
  have hrun : ∀ (us bs : Array Value), a.eval x = .func (.func f) us bs →
      (execOp a.eval { dst := dst, op := .call { callee := .value x, args := args, argTypes := ats }, type := ty, pos := pos, after := after, guard := guard }).run P w = .ok (.enter f (us ++ args.map a.eval ++ bs)) w := fun us bs he => by
    simp only [execOp, resolve, he, Deferred.ofValue, Sem.run_bind, Sem.run_pure, Result.andThen_ok, invoke]
    exact run_callFunc hent _ _
  have args_rv : ∀ (us bs : Array Value) (l m : List AV), us.size = l.length → bs.size = m.length → (∀ (i : Nat) p, l[i]? = some p → RV F μ w (us[i]?.getD undef) p) →
      (∀ (i : Nat) p, m[i]? = some p → RV F μ w (bs[i]?.getD undef) p) → (us ++ args.map a.eval ++ bs).size = (l ++ args.toList.map ev ++ m).length ∧
      ∀ (i : Nat) p, (l ++ args.toList.map ev ++ m)[i]? = some p → RV F μ w ((us ++ args.map a.eval ++ bs)[i]?.getD undef) p := by
    intro us bs l m hl hm h1 h2
    refine ⟨by simp [hl, hm], fun i p hp => ?_⟩
    rw [List.getElem?_append] at hp
    split at hp
    · rename_i hi
      rw [List.getElem?_append] at hp
      split at hp
      · rename_i hi'
        have : (us ++ args.map a.eval ++ bs)[i]? = us[i]? := by
          rw [Array.getElem?_append_left (by simp; omega), Array.getElem?_append_left (by omega)]
        rw [this]; exact h1 i p hp
      · rename_i hi'
        have hi2 : i - l.length < args.size := by simp at hi; omega
        have : (us ++ args.map a.eval ++ bs)[i]? = (args.map a.eval)[i - l.length]? := by
          rw [Array.getElem?_append_left (by simp; omega), Array.getElem?_append_right (by omega), hl]
        rw [this]
        simp only [List.getElem?_map, Option.map_eq_some_iff, Array.getElem?_toList] at hp
        obtain ⟨y, hy, rfl⟩ := hp
        simp only [Array.getElem?_map, hy]
        exact hev y
    · rename_i hi
      have : (us ++ args.map a.eval ++ bs)[i]? = bs[i - (l ++ args.toList.map ev).length]? := by
        rw [Array.getElem?_append_right (by simp at hi ⊢; omega)]; simp [hl]
      rw [this]; exact h2 _ p hp
  unfold calleeOf at hc
  split at hc
  · rename_i f' l m hxe
    injection hc with hc; injection hc with hc1 hc2; subst hc1; subst hc2
    rw [hxe] at hx
    generalize hy : a.eval x = y at hx
    cases hx with
    | p hx =>
      cases hx with
      | fn _ us bs _ _ g1 g2 g3 g4 =>
        obtain ⟨e1, e2⟩ := args_rv us bs (l.map AV.p) (m.map AV.p) (by simp [g1]) (by simp [g2]) (fun i p hp => by
          simp only [List.getElem?_map, Option.map_eq_some_iff] at hp
          obtain ⟨q, hq, rfl⟩ := hp
          exact .p (g3 i q hq)) (fun i p hp => by
          simp only [List.getElem?_map, Option.map_eq_some_iff] at hp
          obtain ⟨q, hq, rfl⟩ := hp
          exact .p (g4 i q hq))
        exact ⟨_, e1, e2, hrun us bs hy⟩
  · rename_i f' l m hxe
    injection hc with hc; injection hc with hc1 hc2; subst hc1; subst hc2
    rw [hxe] at hx
    generalize hy : a.eval x = y at hx
    cases hx with
    | fn _ us bs _ _ g1 g2 g3 g4 =>
      obtain ⟨e1, e2⟩ := args_rv us bs l m g1 g2 g3 g4
      exact ⟨_, e1, e2, hrun us bs hy⟩
  · cases hc
theorem panK_sound {ro : Option Nat} {n : Nat} {o : Oper} {ev : Operand → AV} {a : Act} {next : Act → World → Prop} {Q : Exit → Act → World → Prop} (hσ : SimH F μ σ w)
    (hnew : ∀ o, nid ≤ o → o < nid + 64 → μ o = none) (hev : ∀ x, RV F μ w (a.eval x) (ev x)) (h : panK P o.op ev σ nid KX)
    (hk : ∀ p us v w', KX p us → Step F μ w F μ w' → SimH F μ (us ++ σ) w' → RP F w' v p → Q (.panic [{ v, recovered := false }]) a w') :
    o.wpIn (fc ro) n P a w next Q := by
  unfold panK at h
  obtain ⟨dst, op, ty, pos, after, guard⟩ := o
  cases op <;> try exact h.elim
  rename_i c
  obtain ⟨callee, args, ats⟩ := c
  cases callee with
  | builtin b => exact h.elim
  | invoke r m => exact h.elim
  | value x =>
    simp only at h
    obtain ⟨f, as, as0, σ0, ρ, p, hc, hent, has, hnd, hlive, hsame, hdead, ⟨hfl, hcall⟩, hK⟩ := h.h
    obtain ⟨vs, hsz, hrv, hrun⟩ := call_enter (P := P) (dst := dst) (ats := ats) (ty := ty) (pos := pos) (after := after) (guard := guard) hev hc hent
    refine ⟨about_any _ a w, ?_⟩
    rw [Oper.semAt_eq _ _ _ (by simp), hrun, Oper.uponIn_enter]
    refine ⟨fun h => by simp [fc, Fence.wide] at h, callsIn_fc.2 ?_⟩
    let g := rn ρ nid
    let m := ρ.length
    have glt : ∀ i, i < m → g i = ρ.getD i 0 := fun i hi => if_pos hi
    have gwin : ∀ i, m ≤ i → nid ≤ g i ∧ g i < nid + 64 := fun i h1 => by
      have : g i = nid + min (i - ρ.length) 63 := if_neg (by omega)
      rw [this]; omega
    have mem : ∀ i, i < m → ρ.getD i 0 ∈ ρ := fun i hi => by rw [List.getD_eq_getElem?_getD, List.getElem?_eq_getElem hi]; exact List.getElem_mem hi
    have ginj : ∀ i j, i < m → j < m → g i = g j → i = j := fun i j hi hj e => by
      rw [glt i hi, glt j hj, List.getD_eq_getElem?_getD, List.getD_eq_getElem?_getD, List.getElem?_eq_getElem hi, List.getElem?_eq_getElem hj] at e
      exact nodup_inj hnd hi hj e
    let μc : Num := ⟨fun i => if i < m then μ (ρ.getD i 0) else none, fun c b => μ.hid c b ∧ ∃ i, i < m ∧ μ (ρ.getD i 0) = some b⟩
    have hin : ∀ o b, μ (g o) = some b → μc o = some b := fun o b hb => by
      rcases Nat.lt_or_ge o m with h1 | h1
      · rw [glt o h1] at hb; show (if o < m then _ else _) = _; rw [if_pos h1]; exact hb
      · have := gwin o h1; rw [hnew _ this.1 this.2] at hb; cases hb
    have μclt : ∀ {o b}, μc o = some b → o < m ∧ μ (ρ.getD o 0) = some b := fun {o b} hb => by
      by_cases h1 : o < m
      · exact ⟨h1, by have : (if o < m then μ (ρ.getD o 0) else none) = some b := hb; rwa [if_pos h1] at this⟩
      · have : (if o < m then μ (ρ.getD o 0) else none) = some b := hb; rw [if_neg h1] at this; cases this
    have hd0 : ∀ {o}, σ0.get o ≠ .dead → o < m := fun {o} ho => by
      rcases Nat.lt_or_ge o m with h1 | h1
      · exact h1
      · exact absurd (hdead o h1) ho
    have hsim : SimH F μc σ0 w := by
      refine ⟨hσ.fb, fun b hb => hb.elim (fun ⟨o, ho⟩ => hσ.mb b (.inl ⟨_, (μclt ho).2⟩)) fun ⟨x, hx⟩ => hσ.mb b (.inr ⟨x, hx.1⟩), fun o ho => ?_, fun o b hb => ?_, fun o b ho hb => ?_, fun i j b hi hj hmi hmj => ?_,
        fun c x hc => ⟨(hσ.hd c x hc.1).1, fun o ho hm => (hσ.hd c x hc.1).2 _ (hlive _ (mem o (hd0 ho))) (μclt hm).2⟩, fun c x y hx hy => hσ.hu c x y hx.1 hy.1⟩
      · obtain ⟨b, hb⟩ := hσ.has _ (hlive _ (mem o (hd0 ho)))
        exact ⟨b, by show (if o < m then _ else _) = _; rw [if_pos (hd0 ho)]; exact hb⟩
      · obtain ⟨h1, h2⟩ := μclt hb
        have := hσ.obj _ b h2
        rw [hsame o h1] at this
        exact this.ren_in hin fun c hc => ⟨hc, o, h1, h2⟩
      · exact hσ.live _ b (hlive _ (mem o (hd0 ho))) (μclt hb).2
      · have := hσ.inj _ _ b (hlive _ (mem i (hd0 hi))) (hlive _ (mem j (hd0 hj))) (μclt hmi).2 (μclt hmj).2
        exact ginj i j (hd0 hi) (hd0 hj) (by rw [glt i (hd0 hi), glt j (hd0 hj)]; exact this)
    refine Calls.mono (hcall F μc w vs hsim (fun o ho => if_neg (by show ¬ o < ρ.length; omega)) (by rw [hsz, has, renL_map]; simp) fun i p hp => ?_) fun e w' he => ?_
    · exact (hrv i (renV g p) (by rw [has, renL_map]; simp [hp]; rfl)).ren_in hin rfl
    · obtain ⟨v, F', μ', rfl, hb, hr⟩ := he
      have nothas : ∀ b, ¬ μ.has b → ¬ μc.has b := fun b hn h => hn (h.elim (fun ⟨o, ho⟩ => .inl ⟨_, (μclt ho).2⟩) fun ⟨x, hx⟩ => .inr ⟨x, hx.1⟩)
      have hst : Step F μ w F μ w' := ⟨hb.os, hb.tape, hb.output, hb.size, hb.fr, fun b hlt hn => hb.old b hlt (nothas b hn), hb.shape, fun _ h => h, fun _ h => .inl h, fun _ _ h => h, fun _ h => .inl h⟩
      have hget : ∀ i, Heap.get ((ρ.map fun o => (o, AObj.dead)) ++ σ) i ≠ .dead → i ∉ ρ ∧ Heap.get ((ρ.map fun o => (o, AObj.dead)) ++ σ) i = σ.get i := fun i hi => get_kill ρ i hi
      refine hk p _ v w' hK hst ?_ (hr.flat hfl)
      refine ⟨fun b h => Nat.lt_of_lt_of_le (hσ.fb b h) hb.size, fun b hm => Nat.lt_of_lt_of_le (hσ.mb b hm) hb.size, fun o ho => ?_, fun o b hm => ?_, fun o b ho hm => ?_, fun i j b hi hj hmi hmj => ?_, fun c x hc => ⟨(hσ.hd c x hc).1, fun o ho => (hσ.hd c x hc).2 o (by rw [(hget o ho).2] at ho; exact ho)⟩, hσ.hu⟩
      · obtain ⟨h1, h2⟩ := hget o ho
        rw [h2] at ho; exact hσ.has o ho
      · rcases Classical.em (Heap.get ((ρ.map fun o => (o, AObj.dead)) ++ σ) o = .dead) with hd | hd
        · rw [hd]; trivial
        · obtain ⟨h1, h2⟩ := hget o hd
          have hdo := hd
          rw [h2] at hdo
          rw [h2]
          have hno : ∀ i, i < m → μ (ρ.getD i 0) = some b → False := fun i h3 h4 => h1 (hσ.inj o _ b hdo (hlive _ (mem i h3)) hm h4 ▸ mem i h3)
          refine (hσ.obj o b hm).step hst (hb.old b (hσ.mb b (.inl ⟨o, hm⟩)) fun h => ?_) fun c hc => ⟨hc, hb.old c (hσ.mb c (.inr ⟨b, hc⟩)) fun h => ?_⟩
          · rcases h with ⟨i, hi⟩ | ⟨x, hx⟩
            · exact hno i (μclt hi).1 (μclt hi).2
            · exact (hσ.hd b x hx.1).2 o hdo hm
          · rcases h with ⟨i, hi⟩ | ⟨x, hx, i, h3, h4⟩
            · exact (hσ.hd c b hc).2 _ (hlive _ (mem i (μclt hi).1)) (μclt hi).2
            · exact hno i h3 (hσ.hu c b x hc hx ▸ h4)
      · obtain ⟨h1, h2⟩ := hget o ho
        rw [h2] at ho
        exact hσ.live o b ho hm
      · rw [(hget i hi).2] at hi
        rw [(hget j hj).2] at hj
        exact hσ.inj i j b hi hj hmi hmj
end
end Go.Sg
namespace Go.Sg
open Go
structure St where
  env : Env
  hp : Heap
  nx : Nat
  yk : Nat
def evalO (env : Env) : Operand → AV
  | .tmp t => env.get t
  | .const v => constAV v
  | .func f => .p (.fn (.func f) [] [])
  | .global _ => .any
structure KeepY (F : Nat → Prop) (μ : Num) (w w' : World) : Prop where
  os : w'.os = w.os
  tape : w'.tape = w.tape
  output : w'.output = w.output
  size : w.heap.size ≤ w'.heap.size
  same : ∀ b, F b ∨ μ.has b → w'.heap[b]? = w.heap[b]?
structure Gam (P : Program) where
  it : Bool
  J : Nat → (Nat → Prop) → Num → World → Prop
  l : Nat
  xs : List (List PV)
  stop : Nat
  cl : ∀ {k : Nat} {F F' : Nat → Prop} {μ μ' : Num} {w w' : World}, J k F μ w → Base F μ w F' μ' w' → J k F' μ' w'
  yld : it = true → ∀ {k : Nat} {F : Nat → Prop} {μ : Num} {w : World} {vs : Array Value} (ro : Option Nat) (n : Nat), J k F μ w → (∀ b, F b → b < w.heap.size) → (∀ b, μ.has b → b < w.heap.size) → k < xs.length → k ≤ stop → vs.size = (xs.getD k []).length →
    (∀ (i : Nat) p, (xs.getD k [])[i]? = some p → RP F w (vs[i]?.getD undef) p) → YieldAt (fc ro) n P l vs w fun e w' => e = .returned (.bool (decide (k ≠ stop))) ∧ J (k + 1) F μ w' ∧ KeepY F μ w w'
structure Cx (P : Program) where
  N : Nat
  G : Gam P
  kp : List Nat
def Gam.no (P : Program) : Gam P where
  it := false
  J := fun _ _ _ _ => True
  l := 0
  xs := []
  stop := 0
  cl := fun _ _ => trivial
  yld := fun h => by cases h
def markD (r : Nat) : Deferred := { target := .collected r, args := #[] }
structure D0 where
  ds : List Deferred
  b0 : Nat
  ro : Option Nat
def Mk (it : Bool) (F : Nat → Prop) (μ : Num) (w : World) (d0 : D0) (a : Act) : Prop :=
  ∃ ms : List Nat, ((it = true → ms = []) ∧ ms.Nodup ∧ d0.b0 ≤ w.heap.size) ∧ a.defers = ms.map markD ++ d0.ds ∧ ∀ r ∈ ms, w.heap[r]? = some (.deferred (some [])) ∧ ¬ F r ∧ ¬ μ.has r ∧ d0.b0 ≤ r
theorem lt_of_get {w : World} {b : Nat} {o : Obj} (h : w.heap[b]? = some o) : b < w.heap.size := (Array.getElem?_eq_some_iff.1 h).1
theorem Mk.base {it : Bool} {F F' : Nat → Prop} {μ μ' : Num} {w w' : World} {d0 : D0} {a a' : Act} (h : Mk it F μ w d0 a) (b : Base F μ w F' μ' w') (e : a'.defers = a.defers) : Mk it F' μ' w' d0 a' := by
  obtain ⟨ms, h1, h2, h3⟩ := h
  refine ⟨ms, ⟨h1.1, h1.2.1, Nat.le_trans h1.2.2 b.size⟩, e.trans h2, fun r hr => ?_⟩
  obtain ⟨h4, h5, h6, h7⟩ := h3 r hr
  have hlt := lt_of_get h4
  refine ⟨(b.old r hlt h6).trans h4, fun hf => ?_, fun hm => ?_, h7⟩
  · rcases b.fnew r hf with h | h | h
    · exact h5 h
    · exact h6 h
    · omega
  · rcases b.mnew r hm with h | h
    · exact h6 h
    · omega
def Rd (F : Nat → Prop) (μ : Num) (w : World) (d0 : D0) : Prop := ∀ l, d0.ro = some l → ∃ r : Loop, w.heap[l]? = some (.loop r) ∧ ¬ F l ∧ ¬ μ.has l
theorem Rd.base {F F' : Nat → Prop} {μ μ' : Num} {w w' : World} {d0 : D0} (h : Rd F μ w d0) (b : Base F μ w F' μ' w') : Rd F' μ' w' d0 := fun l hl => by
  obtain ⟨r, h4, h5, h6⟩ := h l hl
  have hlt := lt_of_get h4
  refine ⟨r, (b.old l hlt h6).trans h4, fun hf => ?_, fun hm => ?_⟩
  · rcases b.fnew l hf with h | h | h
    · exact h5 h
    · exact h6 h
    · omega
  · rcases b.mnew l hm with h | h
    · exact h6 h
    · omega
def Kp (L : List Nat) (μ μ' : Num) : Prop := ∀ o ∈ L, ∀ b, μ o = some b → μ' o = some b
theorem Kp.refl (L : List Nat) (μ : Num) : Kp L μ μ := fun _ _ _ h => h
theorem Kp.trans {L : List Nat} {μ μ1 μ2 : Num} (h : Kp L μ μ1) (k : Kp L μ1 μ2) : Kp L μ μ2 := fun o ho b hb => k o ho b (h o ho b hb)
theorem Kp.step {L : List Nat} {F F' : Nat → Prop} {μ μ' : Num} {w w' : World} (h : Step F μ w F' μ' w') : Kp L μ μ' := fun o _ b hb => h.pre o b hb
def Rl {P : Program} (G : Gam P) (F : Nat → Prop) (μ : Num) (w : World) (F' : Nat → Prop) (μ' : Num) (w' : World) : Prop := G.it = false → Base F μ w F' μ' w'
section
variable {P : Program} {G : Gam P}
theorem Rl.refl (F : Nat → Prop) (μ : Num) (w : World) : Rl G F μ w F μ w := fun _ => Base.refl F μ w
theorem Rl.trans {F F1 F2 : Nat → Prop} {μ μ1 μ2 : Num} {w w1 w2 : World} (h : Rl G F μ w F1 μ1 w1) (k : Rl G F1 μ1 w1 F2 μ2 w2) : Rl G F μ w F2 μ2 w2 := fun e => (h e).trans (k e)
theorem Rl.of {F F' : Nat → Prop} {μ μ' : Num} {w w' : World} (h : Base F μ w F' μ' w') : Rl G F μ w F' μ' w' := fun _ => h
end
structure Sim {P : Program} (C : Cx P) (d0 : D0) (F : Nat → Prop) (μ : Num) (s : St) (a : Act) (w : World) : Prop where
  h : SimH F μ s.hp w
  fresh : ∀ o, s.nx ≤ o → μ o = none
  size : a.tmps.size = C.N
  env : ∀ t, RV F μ w (a.tmps[t]?.getD undef) (s.env.get t)
  mks : Mk C.G.it F μ w d0 a
  rd : Rd F μ w d0
  itro : C.G.it = true → d0.ro = none
  j : C.G.J s.yk F μ w
section
variable {P : Program} {C : Cx P} {d0 : D0} {N : Nat} {F : Nat → Prop} {μ : Num} {w : World} {a : Act}
theorem eval_rv {env : Env} (h : ∀ t, RV F μ w (a.tmps[t]?.getD undef) (env.get t)) (x : Operand) : RV F μ w (a.eval x) (evalO env x) := by
  cases x with
  | tmp t => have := h t; simpa [Act.eval, evalO, Array.getD_eq_getD_getElem?] using this
  | const v => exact constAV_spec v
  | global g => exact .any _
  | func f => exact .p (.fn _ _ _ _ _ rfl rfl (by simp) (by simp))
def Env.put (env : Env) (dst : Option Nat) (v : AV) : Env :=
  match dst with
  | some d => (d, v) :: env
  | none => env
theorem put_env {env : Env} (h : ∀ t, RV F μ w (a.tmps[t]?.getD undef) (env.get t)) {dst : Option Nat} {v : Value} {av : AV} (hd : ∀ d, dst = some d → d < a.tmps.size) (hv : RV F μ w v av) (t : Nat) :
    RV F μ w ((a.put dst v).tmps[t]?.getD undef) ((env.put dst av).get t) := by
  cases dst with
  | none => exact h t
  | some d =>
    have hlt := hd d rfl
    simp only [Act.put, Env.put, Env.get]
    by_cases e : d = t
    · subst e; simp [hlt]; exact hv
    · rw [if_neg e]
      have : (a.tmps.setIfInBounds d v)[t]? = a.tmps[t]? := by rw [Array.getElem?_setIfInBounds, if_neg e]
      rw [this]; exact h t
theorem Sim.put {s : St} (h : Sim C d0 F μ s a w) {dst : Option Nat} (hd : ∀ d, dst = some d → d < C.N) {F' : Nat → Prop} {μ' : Num} {w' : World} (hst : Step F μ w F' μ' w') {us : Heap} (hs : SimH F' μ' (us ++ s.hp) w') {v : Value} {av : AV}
    (hv : RV F' μ' w' v av) (hμ : ∀ o, o < s.nx ∨ s.nx + 64 ≤ o → μ' o = μ o) : Sim C d0 F' μ' ⟨s.env.put dst av, us ++ s.hp, s.nx + 64, s.yk⟩ (a.put dst v) w' where
  h := hs
  fresh := fun o ho => by
    have ho' : s.nx + 64 ≤ o := ho
    rw [hμ o (.inr ho')]; exact h.fresh o (by omega)
  size := by cases dst <;> simp [Act.put, h.size]
  env := put_env (fun t => (h.env t).step hst) (fun d hd' => by rw [h.size]; exact hd d hd') hv
  mks := h.mks.base hst.base (by cases dst <;> rfl)
  rd := h.rd.base hst.base
  itro := h.itro
  j := C.G.cl h.j hst.base
theorem shape_same {w w' : World} {b : Nat} (h : w'.heap[b]? = w.heap[b]?) : w'.shape? b = w.shape? b := by unfold World.shape?; rw [h]
theorem RV.same {w' : World} {v : Value} {x : AV} (h : RV F μ w v x) (hs : ∀ b, F b ∨ μ.has b → w'.heap[b]? = w.heap[b]?) : RV F μ w' v x := by
  induction h with
  | any v => exact .any v
  | p h => exact .p (h.mono (fun _ h => h) fun b hb => hs b (.inl hb))
  | ptr o off b h => exact .ptr o off b h
  | msl o sz off off' len cap b t n h1 h0 h2 h3 h4 h5 => exact .msl o sz off off' len cap b t n h1 h0 ((shape_same (hs b (.inr (.inl ⟨o, h1⟩)))).trans h2) h3 h4 h5
  | rsl o sz i len v _ ih => exact .rsl o sz i len _ ih
  | csl o sz i len cap base _ ih => exact .csl o sz i len cap base ih
  | eptr o sz i j v _ ih => exact .eptr o sz i j _ ih
  | mp o b h => exact .mp o b h
  | ch o b h => exact .ch o b h
  | agg cs l h1 _ ih => exact .agg cs l h1 ih
  | tup cs l h1 _ ih => exact .tup cs l h1 ih
  | fn f as bs ls ms h1 h2 _ _ i1 i2 => exact .fn f as bs ls ms h1 h2 i1 i2
theorem RO.same {w' : World} {b : Nat} {x : AObj} (h : RO F μ w b x) (hs : ∀ b, F b ∨ μ.has b → w'.heap[b]? = w.heap[b]?) (hb : w'.heap[b]? = w.heap[b]?) : RO F μ w' b x := by
  cases x with
  | dead => trivial
  | cells cs =>
    obtain ⟨cur, t, h1, h2, h3⟩ := h
    exact ⟨cur, t, hb.trans h1, h2, fun i c hc => (h3 i c hc).same hs⟩
  | row sz l =>
    obtain ⟨h0, cur, t, h1, h2, h3⟩ := h
    exact ⟨h0, cur, t, hb.trans h1, h2, fun i c hc => (h3 i c hc).same hs⟩
  | map ks m =>
    obtain ⟨h0, es, clock, h1, h2, h3, h4⟩ := h
    exact ⟨h0, es, clock, hb.trans h1, h2, h3, fun i k v hm => let ⟨e, a, b, c⟩ := h4 i k v hm; ⟨e, a, b.mono (fun _ h => h) (fun b hb => hs b (.inl hb)), c.mono (fun _ h => h) (fun b hb => hs b (.inl hb))⟩⟩
  | chan cap buf =>
    obtain ⟨bs, x, y, h1, h2, h3⟩ := h
    exact ⟨bs, x, y, hb.trans h1, h2, fun i c hc => (h3 i c hc).mono (fun _ h => h) (fun b hb => hs b (.inl hb))⟩
  | iter rem cur => exact IterOk.mono h (fun _ h => h) (fun b hb => hs b (.inl hb)) hb
  | mapS ks sz m =>
    obtain ⟨h0, es, clock, h1, h2, h3, c, h4, h5⟩ := h
    refine ⟨h0, es, clock, hb.trans h1, h2, h3, c, fun i k x hx => ?_, h5⟩
    obtain ⟨e, a, d, g⟩ := h4 i k x hx
    refine ⟨e, a, d.mono (fun _ h => h) (fun b hb => hs b (.inl hb)), ?_⟩
    cases x with
    | h l => exact ⟨g.1, g.2.mono (fun _ h => h) (fun b hb => hs b (.inl hb)) (hs _ (.inr (.inr ⟨b, g.1⟩)))⟩
    | v av => exact RV.same g hs
theorem SimH.same {σ : Heap} {w' : World} (h : SimH F μ σ w) (hz : w.heap.size ≤ w'.heap.size) (hs : ∀ b, F b ∨ μ.has b → w'.heap[b]? = w.heap[b]?) : SimH F μ σ w' :=
  ⟨fun b hb => Nat.lt_of_lt_of_le (h.fb b hb) hz, fun b hb => Nat.lt_of_lt_of_le (h.mb b hb) hz, h.has, fun o b hb => (h.obj o b hb).same hs (hs b (.inr (.inl ⟨o, hb⟩))), h.live, h.inj, h.hd, h.hu⟩
def guardK (ops : List Oper) (g : Option (Nat × Bool)) (env : Env) (K : Bool → Env → Prop) : Prop :=
  match g with
  | none => K true env
  | some (j, want) => (match (ops[j]?).bind (·.dst) with
    | none => False
    | some t => (match env.get t with
      | .p (.bool b) => (b = want → K true ((t, .p (.bool want)) :: env)) ∧ (b ≠ want → K false ((t, .p (.bool !want)) :: env))
      | .p (.tup []) => K false env
      | _ => False))
theorem tup_nil_inv {v : Value} (h : RV F μ w v (.p (.tup []))) : v = .tuple #[] := by
  cases h with
  | p h => cases h with
    | tup cs _ h1 _ => simp at h1; rw [h1]
theorem guardK_sound {ops : Array Oper} {o : Oper} {env : Env} {K : Bool → Env → Prop} (h : guardK ops.toList o.guard env K) (he : ∀ t, RV F μ w (a.tmps[t]?.getD undef) (env.get t))
    (hd : ∀ (j : Nat) (x : Oper) d, ops[j]? = some x → x.dst = some d → d < a.tmps.size) :
    ∃ b env', K b env' ∧ Region.wanted o (yielded ops a.tmps) = b ∧ ∀ t, RV F μ w (a.tmps[t]?.getD undef) (env'.get t) := by
  unfold guardK at h
  unfold Region.wanted
  cases hg : o.guard with
  | none => rw [hg] at h; exact ⟨true, env, h, rfl, he⟩
  | some g =>
    obtain ⟨j, want⟩ := g
    rw [hg] at h
    simp only [Array.getElem?_toList] at h
    cases ho : (ops[j]?).bind (·.dst) with
    | none => rw [ho] at h; exact h.elim
    | some t =>
      rw [ho] at h
      simp only at h
      have hlt : t < a.tmps.size := by
        obtain ⟨x, hx, hxd⟩ := Option.bind_eq_some_iff.1 ho
        exact hd j x t hx hxd
      have ht := he t
      have hsome : a.tmps[t]? = some (a.tmps[t]?.getD undef) := by rw [Array.getElem?_eq_getElem hlt]; rfl
      split at h
      · rename_i b hb
        rw [hb] at ht
        have hv := pbool_inv ht
        have hy : yielded ops a.tmps j = some b := by
          unfold yielded; rw [ho]
          simp only [Option.bind_some]
          rw [hsome, hv]
        rw [hv] at hsome
        have env' : ∀ c, b = c → ∀ u, RV F μ w (a.tmps[u]?.getD undef) (Env.get ((t, .p (.bool c)) :: env) u) := fun c hc u => by
          simp only [Env.get]
          by_cases e : t = u
          · subst e; rw [if_pos rfl, hv, hc]; exact .p (.bool _)
          · rw [if_neg e]; exact he u
        by_cases hw : b = want
        · exact ⟨true, _, h.1 hw, by simp [hy, hw], env' want hw⟩
        · exact ⟨false, _, h.2 hw, by simp [hy, hw], env' (!want) (by cases b <;> cases want <;> simp_all)⟩
      · rename_i hb
        rw [hb] at ht
        have hv := tup_nil_inv ht
        have hy : yielded ops a.tmps j = none := by
          unfold yielded; rw [ho]
          simp only [Option.bind_some]
          rw [hsome, hv]
        exact ⟨false, env, h, by simp [hy], he⟩
      · exact h.elim
def yieldOf (ev : Operand → AV) : Op → Option (Nat × List AV)
  | .call c => (match c.callee with
    | .value x => (match ev x with | .p (.fn (.yield l) [] []) => some (l, c.args.toList.map ev) | _ => none)
    | _ => none)
  | _ => none
def panicOf : Op → Option Operand
  | .panic x => some x
  | _ => none
def opS {P : Program} (G : Gam P) (op : Op) (dst : Option Nat) (env : Env) (hp : Heap) (nx yk : Nat) (K : St → Prop) (KP : PV → St → Prop) : Prop :=
  match panicOf op with
  | some x => (match evalO env x with | .p (.iface t v) => KP (.iface t v) ⟨env, hp, nx, yk⟩ | _ => False)
  | none => (match yieldOf (evalO env) op with
    | some (l, as) => (G.it = true ∧ l = G.l ∧ yk < G.xs.length ∧ yk ≤ G.stop ∧ as = (G.xs.getD yk []).map .p) ∧ K ⟨env.put dst (.p (.bool (decide (yk ≠ G.stop)))), hp, nx, yk + 1⟩
    | none => xalt op (stS P op (evalO env) hp nx fun v us => K ⟨env.put dst v, us ++ hp, nx + 64, yk⟩) (panK P op (evalO env) hp nx fun p us => KP p ⟨env, us ++ hp, nx, yk⟩))
def seqK {P : Program} (G : Gam P) (ops : List Oper) : List Oper → St → (St → Prop) → (PV → St → Prop) → Prop
  | [], s, K, _ => K s
  | o :: r, s, K, KP => guardK ops o.guard s.env fun b env => match b with
    | true => opS G o.op o.dst env s.hp s.nx s.yk (fun s' => seqK G ops r s' K KP) KP
    | false => seqK G ops r ⟨env.put o.dst undefA, s.hp, s.nx, s.yk⟩ K KP
def okOps (N : Nat) (ops : List Oper) : Bool := ops.all fun o => match o.dst with | some d => decide (d < N) | none => true
theorem okOps_spec {ops : List Oper} (h : okOps N ops = true) (o : Oper) (ho : o ∈ ops) (d : Nat) (hd : o.dst = some d) : d < N := by
  have := List.all_eq_true.1 h o ho
  rw [hd] at this; simpa using this
theorem undef_rv : RV F μ w undef undefA := .p (.tup _ _ rfl (by simp))
def OnePanic (F : Nat → Prop) (w : World) (ch : List PanicEntry) (p : PV) : Prop := ∃ v, ch = [{ v, recovered := false }] ∧ RP F w v p
theorem opS_sound {n : Nat} {o : Oper} {s : St} {Q : Exit → Act → World → Prop} {next : Act → World → Prop} {K : St → Prop} {KP : PV → St → Prop} (hd : ∀ d, o.dst = some d → d < C.N) (hs : Sim C d0 F μ s a w)
    (h : opS C.G o.op o.dst s.env s.hp s.nx s.yk K KP)
    (hk : ∀ s' F' μ' a' w', K s' → Rl C.G F μ w F' μ' w' → Kp C.kp μ μ' → Sim C d0 F' μ' s' a' w' → next a' w')
    (hp : ∀ s' F' μ' w' p ch, KP p s' → Rl C.G F μ w F' μ' w' → Kp C.kp μ μ' → Sim C d0 F' μ' s' a w' → OnePanic F' w' ch p → Q (.panic ch) a w') : o.wpIn (fc d0.ro) n P a w next Q := by
  unfold opS at h
  split at h
  · rename_i x hx
    split at h
    · rename_i t v hv
      have hrv := eval_rv hs.env x
      rw [hv] at hrv
      obtain ⟨dst, op, ty, pos, after, guard⟩ := o
      cases op <;> try (cases hx; done)
      rename_i y
      simp only [panicOf, Option.some.injEq] at hx
      subst hx
      generalize hxv : a.eval y = u at hrv
      have hrv := hrv.pure_inv
      have hpan : Q (.panic [{ v := u, recovered := false }]) a w := hp s F μ w _ _ h (Rl.refl F μ w) (Kp.refl _ _) hs ⟨u, rfl, hrv⟩
      cases hrv with
      | iface _ v' _ hr =>
        refine ⟨about_any _ a w, ?_⟩
        rw [Oper.semAt_eq _ _ _ (by simp)]
        have hrun : (execOp a.eval { dst := dst, op := .panic y, type := ty, pos := pos, after := after, guard := guard }).run P w = .halt (.panic (.iface t v')) w := by
          simp only [execOp, hxv]; rfl
        rw [hrun, Oper.uponIn_panic]
        exact hpan
    · exact h.elim
  · split at h
    · rename_i hx l as hy
      obtain ⟨⟨h1, h2, h3, h4, h5⟩, hK⟩ := h
      obtain ⟨dst, op, ty, pos, after, guard⟩ := o
      obtain ⟨x, args, ats, rfl⟩ : ∃ x args ats, op = .call { callee := .value x, args := args, argTypes := ats } := by
        cases op with
        | call c =>
          obtain ⟨callee, args, ats⟩ := c
          cases callee with
          | value x => exact ⟨x, args, ats, rfl⟩
          | _ => cases hy
        | _ => cases hy
      simp only [yieldOf] at hy
      split at hy
      · rename_i l' hx'
        injection hy with hy; injection hy with e1 e2; subst e1
        have hrv := eval_rv hs.env x
        rw [hx'] at hrv
        have hrv := hrv.pure_inv
        generalize hxv : a.eval x = u at hrv
        cases hrv with
        | fn _ us bs _ _ g1 g2 g3 g4 =>
          have e3 : us = #[] := Array.eq_empty_of_size_eq_zero g1
          have e4 : bs = #[] := Array.eq_empty_of_size_eq_zero g2
          subst e3; subst e4
          have hargs : (args.map a.eval).size = (C.G.xs.getD s.yk []).length := by
            have := congrArg List.length (e2.trans h5); simpa using this
          have hrp : ∀ (i : Nat) p, (C.G.xs.getD s.yk [])[i]? = some p → RP F w ((args.map a.eval)[i]?.getD undef) p := fun i p hp' => by
            have h6 : (args.toList.map (evalO s.env))[i]? = some (.p p) := by rw [e2, h5, List.getElem?_map, hp']; rfl
            simp only [List.getElem?_map, Option.map_eq_some_iff, Array.getElem?_toList] at h6
            obtain ⟨y, hy1, hy2⟩ := h6
            have h7 := eval_rv hs.env y
            rw [hy2] at h7
            simp only [Array.getElem?_map, hy1]
            exact h7.pure_inv
          obtain ⟨fn, tmps, assign, body, hrun, hround⟩ := C.G.yld h1 d0.ro (n - 1) hs.j hs.h.fb hs.h.mb h3 h4 hargs hrp
          refine ⟨about_any _ a w, ?_⟩
          rw [Oper.semAt_eq _ _ _ (by simp)]
          have hrun2 : (execOp a.eval { dst := dst, op := .call { callee := .value x, args := args, argTypes := ats }, type := ty, pos := pos, after := after, guard := guard }).run P w = .ok (.round C.G.l fn tmps assign body) w := by
            simp only [execOp, resolve, hxv, Deferred.ofValue, Sem.run_bind, Sem.run_pure, Result.andThen_ok, invoke, Array.empty_append, h2]
            exact hrun
          rw [hrun2, Oper.uponIn_round]
          refine ⟨fun h => by simp [fc, Fence.wide] at h, RoundIn.mono hround fun e w' he => ?_⟩
          obtain ⟨rfl, hj, hky⟩ := he
          refine hk _ F μ _ w' hK (fun hf => by rw [h1] at hf; cases hf) (Kp.refl _ _) ⟨hs.h.same hky.size hky.same, hs.fresh, by cases dst <;> simp [Act.put, hs.size], ?_, ?_, ?_, hs.itro, hj⟩
          · exact put_env (fun t => (hs.env t).same hky.same) (fun d hd' => by rw [hs.size]; exact hd d hd') (.p (.bool _))
          · obtain ⟨ms, m1, m2, m3⟩ := hs.mks
            have := m1.1 h1
            subst this
            exact ⟨[], ⟨fun _ => rfl, List.nodup_nil, Nat.le_trans m1.2.2 hky.size⟩, by cases dst <;> exact m2, by simp⟩
          · intro l hl
            exact absurd hl (by rw [hs.itro h1]; simp)
      · cases hy
    · rcases xalt_or h with h | h
      · refine stS_sound hs.h (fun o h1 _ => hs.fresh o h1) (eval_rv hs.env) h fun av us v w' F' μ' k1 k2 k3 k4 k5 => ?_
        exact hk _ F' μ' _ w' k1 (.of k2.base) (.step k2) (hs.put hd k2 k3 k4 k5)
      · refine panK_sound hs.h (fun o h1 _ => hs.fresh o h1) (eval_rv hs.env) h fun p us v w' k1 k2 k3 k4 => ?_
        exact hp ⟨s.env, us ++ s.hp, s.nx, s.yk⟩ F μ w' p _ k1 (.of k2.base) (.step k2) ⟨k3, hs.fresh, hs.size, fun t => (hs.env t).step k2, hs.mks.base k2.base rfl, hs.rd.base k2.base, hs.itro, C.G.cl hs.j k2.base⟩ ⟨v, rfl, k4⟩
theorem seqK_sound {n : Nat} {ops : Array Oper} {Q : Exit → Act → World → Prop} {K : St → Prop} {KP : PV → St → Prop} (hok : okOps C.N ops.toList = true) :
    ∀ (l : List Oper) (s : St) (F : Nat → Prop) (μ : Num) (a : Act) (w : World), (∀ o ∈ l, o ∈ ops.toList) → Sim C d0 F μ s a w → seqK C.G ops.toList l s K KP →
      (∀ s' F' μ' a' w', K s' → Rl C.G F μ w F' μ' w' → Kp C.kp μ μ' → Sim C d0 F' μ' s' a' w' → Q .normal a' w') →
      (∀ s' F' μ' a' w' p ch, KP p s' → Rl C.G F μ w F' μ' w' → Kp C.kp μ μ' → Sim C d0 F' μ' s' a' w' → OnePanic F' w' ch p → Q (.panic ch) a' w') → wpListIn (fc d0.ro) n P ops Q l a w := by
  intro l
  induction l with
  | nil => intro s F μ a w _ hs h hk _; exact hk s F μ a w h (Rl.refl F μ w) (Kp.refl _ _) hs
  | cons o r ih =>
    intro s F μ a w hmem hs h hk hp
    have hdst : ∀ d, o.dst = some d → d < C.N := okOps_spec hok o (hmem o (by simp))
    simp only [seqK] at h
    obtain ⟨b, env', h1, h2, h3⟩ := guardK_sound h hs.env (fun j x d hx hd => by
      rw [hs.size]; exact okOps_spec hok x (by rw [Array.mem_toList_iff]; exact Array.mem_of_getElem? hx) d hd)
    have hs' : Sim C d0 F μ ⟨env', s.hp, s.nx, s.yk⟩ a w := ⟨hs.h, hs.fresh, hs.size, h3, hs.mks, hs.rd, hs.itro, hs.j⟩
    simp only [wpListIn]
    rw [h2]
    cases b with
    | true =>
      simp only [if_true]
      simp only at h1
      refine opS_sound (s := ⟨env', s.hp, s.nx, s.yk⟩) hdst hs' h1 (fun s' F' μ' a' w' k1 k2 k3 k4 => ?_) fun s' F' μ' w' p ch k1 k2 k3 k4 k5 => hp s' F' μ' a w' p ch k1 k2 k3 k4 k5
      exact ih s' F' μ' a' w' (fun x hx => hmem x (by simp [hx])) k4 k1 (fun s'' F'' μ'' a'' w'' e1 e2 e3 e4 => hk s'' F'' μ'' a'' w'' e1 (k2.trans e2) (k3.trans e3) e4)
        fun s'' F'' μ'' a'' w'' p ch e1 e2 e3 e4 e5 => hp s'' F'' μ'' a'' w'' p ch e1 (k2.trans e2) (k3.trans e3) e4 e5
    | false =>
      simp only [Bool.false_eq_true, if_false]
      simp only at h1
      refine ⟨about_any o a w, ?_⟩
      exact ih ⟨env'.put o.dst undefA, s.hp, s.nx, s.yk⟩ F μ _ w (fun x hx => hmem x (by simp [hx]))
        ⟨hs.h, hs.fresh, by cases o.dst <;> simp [Act.put, hs.size], put_env h3 (fun d hd => by rw [hs.size]; exact hdst d hd) undef_rv, hs.mks.base (Base.refl F μ w) (by cases o.dst <;> rfl), hs.rd, hs.itro, hs.j⟩ h1 hk hp
end
end Go.Sg
namespace Go.Sg
open Go
section
variable {P : Program} {K : AV → Prop} {σ σ' : Heap}
theorem partP_pick {g : Bool} {s : Nat} {cs : List PV} {off : Nat} (h : partP g s cs off K) : ∃ v, K v ∧ partP g s cs off (· = v) := by
  unfold partP at *
  cases g
  · simp only at h ⊢
    split at h
    · rename_i v hv; exact ⟨_, h, by simp only [hv]⟩
    · exact h.elim
  · exact ⟨_, h.2, h.1, rfl⟩
theorem partA_pick {g : Bool} {s : Nat} {cs : List AV} {off : Nat} (h : partA g s cs off K) : ∃ v, K v ∧ partA g s cs off (· = v) := by
  unfold partA at *
  cases g
  · simp only at h ⊢
    split at h
    · rename_i v hv; exact ⟨_, h, by simp only [hv]⟩
    · exact h.elim
  · exact ⟨_, h.2, h.1, rfl⟩
theorem pickK_pick {c a b : AV} (h : pickK c a b K) : ∃ v, K v ∧ pickK c a b (· = v) := by
  unfold pickK at h
  split at h
  · exact ⟨_, h, rfl⟩
  · exact h.elim
theorem fieldK_pick {t f : Nat} {x : AV} (h : fieldK P t f x K) : ∃ v, K v ∧ fieldK P t f x (· = v) := by
  unfold fieldK at *
  split at h
  · split at h
    · exact partP_pick h
    · exact partA_pick h
    · exact h.elim
  · exact h.elim
theorem loadK_pick {t : TypeId} {a : AV} (h : loadK P t a σ K) (he : ∀ q, q ∈ objs a → σ'.get q = σ.get q) : ∃ v, K v ∧ loadK P t a σ' (· = v) := by
  unfold loadK at *
  split at h
  · split at h
    · exact partP_pick h
    · rename_i o off
      split at h
      · rename_i cs hcs
        rw [← he o (by simp [objs])] at hcs
        simp only [hcs]; exact partA_pick h
      · exact h.elim
    · exact h.elim
  · exact h.elim
theorem nilK_pick {a : AV} (h : nilK a K) : ∃ v, K v ∧ nilK a (· = v) := by
  unfold nilK at h
  split at h <;> first | exact h.elim | exact ⟨_, h, rfl⟩
theorem faK_pick {t f : Nat} {x : AV} (h : faK P t f x K) : ∃ v, K v ∧ faK P t f x (· = v) := by
  unfold faK at *
  split at h
  · split at h <;> first | exact h.elim | exact ⟨_, h.2, h.1, rfl⟩
  · exact h.elim
theorem iaK_pick {t : TypeId} {x i : AV} (h : iaK P t x i K) : ∃ v, K v ∧ iaK P t x i (· = v) := by
  unfold iaK at *
  split at h
  · split at h
    · rename_i n
      obtain ⟨⟨h1, h2, h3⟩, h⟩ := h
      have hn : n.toNat < _ := (Int.toNat_lt h2).2 h3
      have hg := List.getElem?_eq_getElem hn
      exact ⟨_, h _ hg, ⟨h1, h2, h3⟩, fun p hp => by rw [hg] at hp; injection hp with hp; rw [hp]⟩
    · exact ⟨_, h.2, h.1, rfl⟩
    · exact h.elim
  · split at h
    · split at h <;> first | exact h.elim | exact ⟨_, h.2, h.1, rfl⟩
    · exact h.elim
theorem ixK_pick {t : TypeId} {x i : AV} (h : ixK P t x i K) : ∃ v, K v ∧ ixK P t x i (· = v) := by
  unfold ixK at *
  split at h
  · split at h
    · obtain ⟨v, h1, h2⟩ := partP_pick h.2; exact ⟨v, h1, h.1, h2⟩
    · obtain ⟨v, h1, h2⟩ := partA_pick h.2; exact ⟨v, h1, h.1, h2⟩
    · exact h.elim
  · split at h
    · exact ⟨_, h.2.2, h.1, h.2.1, rfl⟩
    · exact h.elim
theorem intK_pick {op : BinOp} {k k' : IntKind} {a b : Int} (h : intK op k k' a b K) : ∃ v, K v ∧ intK op k k' a b (· = v) := by
  cases op <;> simp only [intK] at h ⊢ <;> first | exact ⟨_, h.2.2, h.1, h.2.1, rfl⟩ | exact ⟨_, h.2, h.1, rfl⟩
theorem binK_pick {op : BinOp} {t : TypeId} {x y : AV} (h : binK P op t x y K) : ∃ v, K v ∧ binK P op t x y (· = v) := by
  unfold binK at *
  split at h
  · exact intK_pick h
  · cases op <;> simp only [strK] at h ⊢ <;> first | exact h.elim | exact ⟨_, h, rfl⟩ | exact ⟨_, h.2, h.1, rfl⟩
  · cases op <;> simp only [boolK] at h ⊢ <;> first | exact h.elim | exact ⟨_, h.2, h.1, rfl⟩
  · exact h.elim
theorem unK_pick {op : UnOp} {x : AV} (h : unK op x K) : ∃ v, K v ∧ unK op x (· = v) := by
  unfold unK at h
  split at h <;> first | exact h.elim | exact ⟨_, h, rfl⟩ | exact ⟨_, h.2, h.1, rfl⟩
theorem exK_pick {x : AV} {i : Nat} (h : exK x i K) : ∃ v, K v ∧ exK x i (· = v) := by
  unfold exK at *
  split at h
  · split at h
    · exact ⟨_, h, rfl⟩
    · exact h.elim
  · split at h
    · exact ⟨_, h, rfl⟩
    · exact h.elim
  · exact h.elim
theorem convK_pick {s d : TypeId} {x : AV} (h : convK P s d x σ K) (he : ∀ q, q ∈ objs x → σ'.get q = σ.get q) : ∃ v, K v ∧ convK P s d x σ' (· = v) := by
  unfold convK at *
  split at h
  · split at h
    · exact ⟨_, h.2, h.1, rfl⟩
    · exact h.elim
  · split at h
    · exact ⟨_, h.2, h.1, rfl⟩
    · obtain ⟨h1, h2, q, h3, h4⟩ := h
      exact ⟨_, h4, h1, h2, q, h3, rfl⟩
    · rename_i o sz off len
      obtain ⟨h1, h2, h⟩ := h
      split at h
      · rename_i cs hcs
        rw [← he o (by simp [objs])] at hcs
        obtain ⟨h3, q, h4, h5⟩ := h
        refine ⟨_, h5, h1, h2, ?_⟩
        simp only [hcs]
        exact ⟨h3, q, h4, rfl⟩
      · exact h.elim
    · exact h.elim
  · exact h.elim
theorem slK_pick {t : TypeId} {x : AV} {lo hi mx : Option AV} (h : slK P t x lo hi mx σ K) (he : ∀ q, q ∈ objs x → σ'.get q = σ.get q) : ∃ v, K v ∧ slK P t x lo hi mx σ' (· = v) := by
  unfold slK at *
  split at h
  · split at h
    · split at h
      · exact ⟨_, h.2, h.1, rfl⟩
      · exact ⟨_, h.2.2.2, h.1, h.2.1, h.2.2.1, rfl⟩
    · exact h.elim
  · split at h
    · split at h
      · exact ⟨_, h.2, h.1, rfl⟩
      · exact ⟨_, h.2.2.2, h.1, h.2.1, h.2.2.1, rfl⟩
    · exact h.elim
  · rename_i o off
    split at h
    · rename_i n s g cs ht hcs
      rw [← he o (by simp [objs])] at hcs
      simp only [ht, hcs]
      split at h
      · exact ⟨_, h.2.2, h.1, h.2.1, rfl⟩
      · exact h.elim
    · exact h.elim
  · split at h
    · exact ⟨_, h.2.2.2, h.1, h.2.1, h.2.2.1, rfl⟩
    · exact h.elim
  · exact h.elim
theorem taK_pick {t : TypeId} {x : AV} (h : taK P t x K) : ∃ v, K v ∧ taK P t x (· = v) := by
  unfold taK at h
  split at h <;> first | exact h.elim | exact ⟨_, h.2.2, h.1, h.2.1, rfl⟩
theorem ifK_pick {t : TypeId} {x : AV} (h : ifK P t x K) : ∃ v, K v ∧ ifK P t x (· = v) := by
  unfold ifK at h
  split at h <;> first | exact h.elim | exact ⟨_, h.2, h.1, rfl⟩
theorem lenK_pick {x : AV} {t : TypeId} (h : lenK x P t K) : ∃ v, K v ∧ lenK x P t (· = v) := by
  unfold lenK at h
  split at h <;> first | exact h.elim | exact ⟨_, h.2, h.1, rfl⟩
theorem minmaxK_pick {mx : Bool} {r : List AV} : ∀ {x : AV}, minmaxK mx x r K → ∃ v, K v ∧ minmaxK mx x r (· = v) := by
  induction r with
  | nil =>
    intro x h
    unfold minmaxK at h
    split at h
    · exact ⟨_, h, rfl⟩
    · exact h.elim
  | cons y r ih =>
    intro x h
    unfold minmaxK at h
    split at h
    · rename_i h1; cases h1
    · rename_i k a k' b r' hy
      injection hy with hy1 hy2; subst hy1; subst hy2
      obtain ⟨v, h1, h2⟩ := ih h
      exact ⟨v, h1, h2⟩
    · exact h.elim
theorem buildK_pick {t : TypeId} {parts : List (Nat × AV)} (h : buildK P t parts K) : ∃ v, K v ∧ buildK P t parts (· = v) := by
  unfold buildK at *
  split at h
  · split at h
    · exact ⟨_, h, rfl⟩
    · exact h.elim
  · exact h.elim
variable {W : AV → Heap → Prop} {nid : Nat}
theorem srcK_pick {x : AV} {s : Nat} {Kn : Nat → List AV → Prop} (h : srcK x s σ Kn) (he : ∀ q, q ∈ objs x → σ'.get q = σ.get q) :
    ∃ n new, Kn n new ∧ ∀ Kn' : Nat → List AV → Prop, Kn' n new → srcK x s σ' Kn' := by
  unfold srcK at *
  split at h
  · exact ⟨_, _, h.2, fun K' hk => ⟨h.1, hk⟩⟩
  · rename_i o sz off n
    obtain ⟨h1, h⟩ := h
    split at h
    · rename_i cs hcs
      rw [← he o (by simp [objs])] at hcs
      exact ⟨_, _, h.2, fun K' hk => ⟨h1, by simp only [hcs]; exact ⟨h.1, hk⟩⟩⟩
    · exact h.elim
  · exact ⟨_, _, h.2, fun K' hk => ⟨h.1, hk⟩⟩
  · exact h.elim
theorem storeK_pick {t : TypeId} {a x : AV} (h : storeK P t a x σ W) (he : ∀ q, q ∈ objs a → σ'.get q = σ.get q) : ∃ v us, W v us ∧ storeK P t a x σ' (fun v' us' => v' = v ∧ us' = us) := by
  unfold storeK at *
  split at h
  · rename_i o off s g ht
    split at h
    · rename_i cs hcs
      rw [← he o (by simp [objs])] at hcs
      refine ⟨_, _, h.2, ?_⟩
      simp only [hcs]
      exact ⟨h.1, by simp⟩
    · exact h.elim
  · exact h.elim
theorem appendK_pick {t xt : TypeId} {a x : AV} (h : appendK P t xt a x σ nid W) (he : ∀ q, q ∈ objs a ∨ q ∈ objs x → σ'.get q = σ.get q) :
    ∃ v us, W v us ∧ appendK P t xt a x σ' nid (fun v' us' => v' = v ∧ us' = us) := by
  unfold appendK at *
  split at h
  · obtain ⟨h0, h⟩ := h
    obtain ⟨n, new, h1, h2⟩ := srcK_pick h fun q hq => he q (.inr hq)
    split at h1
    · obtain ⟨h3, h4, h5⟩ := h1
      rcases Nat.eq_zero_or_pos n with hn | hn
      · exact ⟨_, _, h4 hn, h0, h2 _ ⟨h3, fun _ => ⟨rfl, rfl⟩, fun h => by omega⟩⟩
      · exact ⟨_, _, h5 hn, h0, h2 _ ⟨h3, fun h => by omega, fun _ => ⟨rfl, rfl⟩⟩⟩
    · rename_i o sz off len
      split at h1
      · rename_i cs hcs
        rw [← he o (.inl (by simp [objs]))] at hcs
        obtain ⟨h3, h4, h5⟩ := h1
        rcases Nat.eq_zero_or_pos n with hn | hn
        · exact ⟨_, _, h4 hn, h0, h2 _ (by simp only [hcs]; exact ⟨h3, fun _ => by simp, fun h => by omega⟩)⟩
        · exact ⟨_, _, h5 hn, h0, h2 _ (by simp only [hcs]; exact ⟨h3, fun h => by omega, fun _ => by simp⟩)⟩
      · exact h1.elim
    · exact h1.elim
  · exact h.elim
theorem copyK_pick {t : TypeId} {a x : AV} (h : copyK P t a x σ W) (he : ∀ q, q ∈ objs a ∨ q ∈ objs x → σ'.get q = σ.get q) :
    ∃ v us, W v us ∧ copyK P t a x σ' (fun v' us' => v' = v ∧ us' = us) := by
  unfold copyK at *
  split at h
  · obtain ⟨h0, h⟩ := h
    rename_i o sz off len _
    obtain ⟨n, new, h1, h2⟩ := srcK_pick h fun q hq => he q (.inr hq)
    split at h1
    · rename_i cs hcs
      rw [← he o (.inl (by simp [objs]))] at hcs
      exact ⟨_, _, h1.2, h0, h2 _ (by simp only [hcs]; exact ⟨h1.1, by simp⟩)⟩
    · exact h1.elim
  · exact h.elim
theorem strBytesK_pick {s d : TypeId} {x : AV} (h : strBytesK P s d x W) : ∃ v us, W v us ∧ strBytesK P s d x (fun v' us' => v' = v ∧ us' = us) := by
  unfold strBytesK at *
  split at h
  · exact ⟨_, _, h.2, h.1, rfl, rfl⟩
  · exact h.elim
theorem buildSliceK_pick {t : TypeId} {len : Nat} {parts : List (Nat × AV)} (h : buildSliceK P t len parts nid W) : ∃ v us, W v us ∧ buildSliceK P t len parts nid (fun v' us' => v' = v ∧ us' = us) := by
  unfold buildSliceK at *
  split at h
  · obtain ⟨h0, h⟩ := h
    split at h
    · rename_i cs hcs; exact ⟨_, _, h, h0, by simp only [hcs]; simp⟩
    · exact h.elim
  · exact h.elim
theorem makeSliceK_pick {t : TypeId} {n c : AV} (h : makeSliceK P t n c nid W) : ∃ v us, W v us ∧ makeSliceK P t n c nid (fun v' us' => v' = v ∧ us' = us) := by
  unfold makeSliceK at *
  split at h
  · exact ⟨_, _, h.2, h.1, rfl, rfl⟩
  · exact h.elim
theorem allocK_pick {t : TypeId} (h : allocK P t nid W) : ∃ v us, W v us ∧ allocK P t nid (fun v' us' => v' = v ∧ us' = us) := by
  unfold allocK at *
  split at h
  · exact ⟨_, _, h, rfl, rfl⟩
  · split at h
    · split at h
      · exact ⟨_, _, h, rfl, rfl⟩
      · exact h.elim
    · exact h.elim
theorem callK_pick {c : Option (FuncId × List AV)} (h : callK P c σ W) : ∃ v us, W v us ∧ ∀ σ' : Heap, (∀ q, q ∈ keys us → σ'.get q = σ.get q) → callK P c σ' (fun v' us' => v' = v ∧ us' = us) := by
  obtain ⟨f, as, Z, ps, r, h1, h2, h3, h4, h5, h6⟩ := h
  refine ⟨_, _, h6, fun σ' he => ?_⟩
  have he' : ∀ o, o ∈ Z → σ'.get o = σ.get o := fun o ho => he o (by simp [keys]; exact ho)
  refine ⟨f, as, Z, ps, r, h1, h2, fun o ho => by rw [he' o ho]; exact h3 o ho, h4.local he', h5, rfl, ?_⟩
  apply List.map_congr_left
  intro o ho
  rw [he' o ho]
theorem map_agree {ev ev' : Operand → AV} {l : List Operand} (h : ∀ x ∈ l, ev' x = ev x) : l.map ev' = l.map ev := List.map_congr_left h
theorem opt_agree {ev ev' : Operand → AV} {l : Option Operand} (h : ∀ x, l = some x → ev' x = ev x) : l.map ev' = l.map ev := by
  cases l with
  | none => rfl
  | some x => simp [h x rfl]
theorem parts_agree {ev ev' : Operand → AV} {l : List (Nat × Operand)} (h : ∀ x ∈ l.map (·.2), ev' x = ev x) : l.map (fun y => (y.1, ev' y.2)) = l.map fun y => (y.1, ev y.2) :=
  List.map_congr_left fun y hy => by rw [h y.2 (List.mem_map.2 ⟨y, hy, rfl⟩)]
theorem qK_pick {op : Op} {ev ev' : Operand → AV} (h : qK P op ev σ K) (hev : ∀ x ∈ op.operands.toList, ev' x = ev x)
    (he : ∀ q, q ∈ (op.operands.toList.map ev).flatMap objs → σ'.get q = σ.get q) : ∃ v, K v ∧ qK P op ev' σ' (· = v) := by
  cases op <;> simp only [qK] at h ⊢ <;> try exact h.elim
  case move x => exact ⟨_, h, hev x (by simp [Op.operands])⟩
  case assign x => exact ⟨_, h, hev x (by simp [Op.operands])⟩
  case pick c a b => rw [hev c (by simp [Op.operands]), hev a (by simp [Op.operands]), hev b (by simp [Op.operands])]; exact pickK_pick h
  case field t x f => rw [hev x (by simp [Op.operands])]; exact fieldK_pick h
  case load t a => rw [hev a (by simp [Op.operands])]; exact loadK_pick h fun q hq => he q (by simp [Op.operands, hq])
  case nilCheck x => rw [hev x (by simp [Op.operands])]; exact nilK_pick h
  case fieldAddr t x f => rw [hev x (by simp [Op.operands])]; exact faK_pick h
  case indexAddr t x i => rw [hev x (by simp [Op.operands]), hev i (by simp [Op.operands])]; exact iaK_pick h
  case index t x i => rw [hev x (by simp [Op.operands]), hev i (by simp [Op.operands])]; exact ixK_pick h
  case binOp op t x y _ => rw [hev x (by simp [Op.operands]), hev y (by simp [Op.operands])]; exact binK_pick h
  case unOp op _ x => rw [hev x (by simp [Op.operands])]; exact unK_pick h
  case extract x i => rw [hev x (by simp [Op.operands])]; exact exK_pick h
  case convert s d x => rw [hev x (by simp [Op.operands])]; exact convK_pick h fun q hq => he q (by simp [Op.operands, hq])
  case makeFunc f a b =>
    rw [map_agree (l := a.toList) (fun x hx => hev x (by simp [Op.operands, Array.mem_toList_iff.1 hx])), map_agree (l := b.toList) (fun x hx => hev x (by simp [Op.operands, Array.mem_toList_iff.1 hx]))]
    exact ⟨_, h, rfl⟩
  case slice t x lo hi mx =>
    rw [hev x (by simp [Op.operands]), opt_agree (l := lo) (fun y hy => hev y (by simp [Op.operands, hy])), opt_agree (l := hi) (fun y hy => hev y (by simp [Op.operands, hy])),
      opt_agree (l := mx) (fun y hy => hev y (by simp [Op.operands, hy]))]
    exact slK_pick h fun q hq => he q (by simp [Op.operands, hq])
  case makeInterface t x => rw [hev x (by simp [Op.operands])]; exact ifK_pick h
  case typeAssert x xt t c =>
    cases c with
    | false => simp only at h ⊢; rw [hev x (by simp [Op.operands])]; exact taK_pick h
    | true => exact h.elim
  case build t parts =>
    rw [parts_agree (l := parts.toList) (fun x hx => hev x (by simpa [Op.operands] using hx))]
    exact buildK_pick h
  case call c =>
    obtain ⟨callee, args, ats⟩ := c
    cases callee with
    | builtin b =>
      have hev' : ∀ x ∈ args.toList, ev' x = ev x := fun x hx => hev x (by simp [Op.operands, Call.operands, Array.mem_toList_iff.1 hx])
      cases b <;> simp only [] at h ⊢ <;> try exact h.elim
      · split at h
        · rename_i x t hx ht
          rw [hev' x (by rw [hx]; simp)]; exact lenK_pick h
        · exact h.elim
      · split at h
        · rename_i x r hx
          rw [hev' x (by rw [hx]; simp), map_agree (l := r) (fun y hy => hev' y (by rw [hx]; simp [hy]))]; exact minmaxK_pick h
        · exact h.elim
      · split at h
        · rename_i x r hx
          rw [hev' x (by rw [hx]; simp), map_agree (l := r) (fun y hy => hev' y (by rw [hx]; simp [hy]))]; exact minmaxK_pick h
        · exact h.elim
    | value f => exact h.elim
    | invoke x m => exact h.elim
theorem wK_pick {op : Op} {ev ev' : Operand → AV} (h : wK P op ev σ nid W) (hev : ∀ x ∈ op.operands.toList, ev' x = ev x)
    (he : ∀ q, q ∈ (op.operands.toList.map ev).flatMap objs → σ'.get q = σ.get q) : ∃ v us, W v us ∧ wK P op ev' σ' nid (fun v' us' => v' = v ∧ us' = us) := by
  cases op <;> simp only [wK] at h ⊢ <;> try exact h.elim
  case alloc t => exact allocK_pick h
  case box t x => rw [hev x (by simp [Op.operands])]; exact ⟨_, _, h.2, h.1, rfl, rfl⟩
  case store t a x => rw [hev x (by simp [Op.operands]), hev a (by simp [Op.operands])]; exact storeK_pick h fun q hq => he q (by simp [Op.operands, hq])
  case buildSlice t n parts =>
    rw [parts_agree (l := parts.toList) (fun x hx => hev x (by simpa [Op.operands] using hx))]
    exact buildSliceK_pick h
  case makeSlice t n c => rw [hev n (by simp [Op.operands]), hev c (by simp [Op.operands])]; exact makeSliceK_pick h
  case convert s d x => rw [hev x (by simp [Op.operands])]; exact strBytesK_pick h
  case call c =>
    obtain ⟨callee, args, ats⟩ := c
    split at h
    · rename_i x y t xt hcl harg h1 h2
      simp only at harg h1 h2
      have hx : ∀ z ∈ [x, y], ev' z = ev z := fun z hz => hev z (by simp only [Op.operands, Call.operands]; simp; right; rw [← Array.mem_toList_iff, harg]; exact hz)
      rw [hx x (by simp), hx y (by simp)]
      exact appendK_pick h fun q hq => he q (by simp only [Op.operands, Call.operands]; simp [harg]; right; exact hq)
    · rename_i x y t hcl harg h1
      simp only at harg h1
      have hx : ∀ z ∈ [x, y], ev' z = ev z := fun z hz => hev z (by simp only [Op.operands, Call.operands]; simp; right; rw [← Array.mem_toList_iff, harg]; exact hz)
      rw [hx x (by simp), hx y (by simp)]
      exact copyK_pick h fun q hq => he q (by simp only [Op.operands, Call.operands]; simp [harg]; right; exact hq)
    · exact h.elim
theorem callI_pick {c : Option (FuncId × List AV)} (h : callI P c σ nid W) : ∃ v us, W v us ∧ ∀ σ' : Heap, (∀ q, q ∈ keys us → σ'.get q = σ.get q) → callI P c σ' nid (fun v' us' => v' = v ∧ us' = us) := by
  obtain ⟨f, as, as0, σ0, r, σ1, ρ, hc, hent, has, hnd, hlive, hsame, hdead, hcov, hbd, hcall, hK⟩ := h
  refine ⟨_, _, hK, fun σ' he => ?_⟩
  have hk : ∀ i, i < ρ.length → σ'.get (ρ.getD i 0) = σ.get (ρ.getD i 0) := fun i hi => he _ (by
    rw [keys_ren]; exact List.mem_map.2 ⟨i, hcov i hi, if_pos hi⟩)
  refine ⟨f, as, as0, σ0, r, σ1, ρ, hc, hent, has, hnd, fun o ho => ?_, fun i hi => (hk i hi).trans (hsame i hi), hdead, hcov, hbd, hcall, rfl, rfl⟩
  obtain ⟨i, hi, rfl⟩ := List.getElem_of_mem ho
  have : ρ.getD i 0 = ρ[i] := by rw [List.getD_eq_getElem?_getD, List.getElem?_eq_getElem hi]; rfl
  rw [← this, hk i hi, this]; exact hlive _ ho
theorem callX_pick {c : AV × List AV} (h : callX P c σ nid W) : ∃ v us, W v us ∧ ∀ σ' : Heap, (∀ q, q ∈ c.2.flatMap objs ∨ q ∈ keys us → σ'.get q = σ.get q) → callX P c σ' nid (fun v' us' => v' = v ∧ us' = us) := by
  rcases h.h with h | h | h | h
  · obtain ⟨v, us, h1, h2⟩ := callK_pick h
    exact ⟨v, us, h1, fun σ' he => ⟨.inl (h2 σ' fun q hq => he q (.inr hq))⟩⟩
  · obtain ⟨v, us, h1, h2⟩ := callI_pick h
    exact ⟨v, us, h1, fun σ' he => ⟨.inr (.inl (h2 σ' fun q hq => he q (.inr hq)))⟩⟩
  · obtain ⟨f, a1, a2, o1, s1, i1, n1, o2, s2, i2, n2, l1, l2, hc, hf, e1, e2, hne, g1, g2, h0, hl, hK⟩ := h
    exact ⟨_, _, hK, fun σ' he => ⟨.inr (.inr (.inl ⟨f, a1, a2, o1, s1, i1, n1, o2, s2, i2, n2, l1, l2, hc, hf, e1, e2, hne, (he o1 (.inr (by simp [keys]))).trans g1, (he o2 (.inr (by simp [keys]))).trans g2, h0, hl, rfl, rfl⟩))⟩⟩
  · obtain ⟨r, us, h, hsame, hobj, hK⟩ := h
    obtain ⟨v, us', ⟨rfl, rfl⟩, h2⟩ := callI_pick h
    refine ⟨_, [], hK, fun σ' he => ⟨.inr (.inr (.inr ⟨_, _, h2 σ' (fun q hq => he q (.inl (hobj q hq))), fun i => ?_, hobj, rfl, rfl⟩))⟩⟩
    have h3 := hsame i
    rw [get_append] at h3 ⊢
    split
    · rename_i hi
      rw [if_pos hi] at h3
      rw [h3, he i (.inl (hobj i hi))]
    · rfl
theorem rowIx_pick {t : TypeId} {x i : AV} (h : rowIx P t x i K) : ∃ v, K v ∧ rowIx P t x i (· = v) := by
  cases x with
  | rsl o sz i0 len => simp only [rowIx] at *; split at h <;> first | exact h.elim | exact ⟨_, h.2, h.1, rfl⟩
  | eptr o sz i0 j => simp only [rowIx] at *; split at h <;> first | exact h.elim | exact ⟨_, h.2, h.1, rfl⟩
  | _ => simp only [rowIx] at h ⊢; exact iaK_pick h
theorem rowLoad_pick {t : TypeId} {a : AV} (h : rowLoad P t a σ K) (he : ∀ q, q ∈ objs a → σ'.get q = σ.get q) : ∃ v, K v ∧ rowLoad P t a σ' (· = v) := by
  cases a with
  | eptr o sz i j =>
    simp only [rowLoad] at *
    rw [he o (by simp [objs])]
    split at h
    · split at h
      · obtain ⟨h1, h2⟩ := h
        have hi := h1.2.2.2.2
        obtain ⟨v, h3, h4⟩ := partP_pick (h2 _ (List.getElem?_eq_getElem hi))
        refine ⟨v, h3, h1, fun p hp => ?_⟩
        rw [List.getElem?_eq_getElem hi] at hp; injection hp with hp; rw [← hp]; exact h4
      · exact ⟨_, h.2, h.1, rfl⟩
    · exact h.elim
  | _ => simp only [rowLoad] at h ⊢; exact loadK_pick h he
theorem rowFa_pick {t f : Nat} {x : AV} (h : rowFa P t f x K) : ∃ v, K v ∧ rowFa P t f x (· = v) := by
  cases x with
  | eptr o sz i0 j => simp only [rowFa] at *; split at h <;> first | exact h.elim | exact ⟨_, h.2, h.1, rfl⟩
  | _ => simp only [rowFa] at h ⊢; exact faK_pick h
theorem rowNil_pick {x : AV} (h : rowNil x K) : ∃ v, K v ∧ rowNil x (· = v) := by
  cases x with
  | eptr o sz i0 j => exact ⟨_, h, rfl⟩
  | _ => simp only [rowNil] at h ⊢; exact nilK_pick h
theorem rowConv_pick {s d : TypeId} {x : AV} (h : rowConv P s d x σ K) (he : ∀ q, q ∈ objs x → σ'.get q = σ.get q) : ∃ v, K v ∧ rowConv P s d x σ' (· = v) := by
  cases x with
  | rsl o sz i len =>
    simp only [rowConv] at *
    rw [he o (by simp [objs])]
    split at h
    · obtain ⟨h1, h⟩ := h
      split at h
      · obtain ⟨h2, q, h3, h4⟩ := h
        exact ⟨_, h4, h1, h2, q, h3, rfl⟩
      · exact h.elim
    · exact h.elim
  | _ => simp only [rowConv] at h ⊢; exact convK_pick h he
theorem rowSl_pick {t : TypeId} {x : AV} {lo hi mx : Option AV} (h : rowSl P t x lo hi mx σ K) (he : ∀ q, q ∈ objs x → σ'.get q = σ.get q) : ∃ v, K v ∧ rowSl P t x lo hi mx σ' (· = v) := by
  cases x with
  | rsl o sz i len =>
    simp only [rowSl] at *
    split at h
    · split at h
      · exact ⟨_, h.2, h.1, rfl⟩
      · exact ⟨_, h.2.2.2, h.1, h.2.1, h.2.2.1, rfl⟩
    · exact h.elim
  | eptr o sz i j =>
    simp only [rowSl] at *
    rw [he o (by simp [objs])]
    split at h
    · split at h
      · exact ⟨_, h.2, h.1, rfl⟩
      · exact h.elim
    · exact h.elim
  | _ => simp only [rowSl] at h ⊢; exact slK_pick h he
theorem rowLen_pick {x : AV} {t : TypeId} (h : rowLen x P t K) : ∃ v, K v ∧ rowLen x P t (· = v) := by
  cases x with
  | rsl o sz i len => exact ⟨_, h.2, h.1, rfl⟩
  | _ => simp only [rowLen] at h ⊢; exact lenK_pick h
theorem xQ_pick {op : Op} {ev ev' : Operand → AV} (h : xQ P op ev σ K) (hev : ∀ x ∈ op.operands.toList, ev' x = ev x)
    (he : ∀ q, q ∈ (op.operands.toList.map ev).flatMap objs → σ'.get q = σ.get q) : ∃ v, K v ∧ xQ P op ev' σ' (· = v) := by
  cases op <;> simp only [xQ] at h ⊢
  case load t a => rw [hev a (by simp [Op.operands])]; exact rowLoad_pick h fun q hq => he q (by simp [Op.operands, hq])
  case nilCheck x => rw [hev x (by simp [Op.operands])]; exact rowNil_pick h
  case fieldAddr t x f => rw [hev x (by simp [Op.operands])]; exact rowFa_pick h
  case indexAddr t x i => rw [hev x (by simp [Op.operands]), hev i (by simp [Op.operands])]; exact rowIx_pick h
  case convert s d x => rw [hev x (by simp [Op.operands])]; exact rowConv_pick h fun q hq => he q (by simp [Op.operands, hq])
  case slice t x lo hi mx =>
    rw [hev x (by simp [Op.operands]), opt_agree (l := lo) (fun y hy => hev y (by simp [Op.operands, hy])), opt_agree (l := hi) (fun y hy => hev y (by simp [Op.operands, hy])),
      opt_agree (l := mx) (fun y hy => hev y (by simp [Op.operands, hy]))]
    exact rowSl_pick h fun q hq => he q (by simp [Op.operands, hq])
  case call c =>
    obtain ⟨callee, args, ats⟩ := c
    cases callee with
    | builtin b =>
      have hev' : ∀ x ∈ args.toList, ev' x = ev x := fun x hx => hev x (by simp [Op.operands, Call.operands, Array.mem_toList_iff.1 hx])
      cases b with
      | len =>
        simp only [] at h ⊢
        split at h
        · rename_i x t hx ht
          rw [hev' x (by rw [hx]; simp)]; exact rowLen_pick h
        · exact h.elim
      | _ => exact qK_pick h hev he
    | _ => exact qK_pick h hev he
  all_goals exact qK_pick h hev he
theorem rowAlloc_pick {t : TypeId} (h : rowAlloc P t nid W) : ∃ v us, W v us ∧ rowAlloc P t nid (fun v' us' => v' = v ∧ us' = us) := by
  unfold rowAlloc at *
  split at h
  · exact ⟨_, _, h, rfl, rfl⟩
  · exact allocK_pick h
theorem rowBox_pick {t : TypeId} {x : AV} (h : rowBox P t x nid W) : ∃ v us, W v us ∧ rowBox P t x nid (fun v' us' => v' = v ∧ us' = us) := by
  unfold rowBox at *
  split at h
  · split at h
    · exact ⟨_, _, h.2, h.1, rfl, rfl⟩
    · exact h.elim
  · exact ⟨_, _, h.2, h.1, rfl, rfl⟩
theorem storeF_pick {t : TypeId} {a x : AV} (h : storeF P t a x σ W) (he : ∀ q, q ∈ objs a → σ'.get q = σ.get q) : ∃ v us, W v us ∧ storeF P t a x σ' (fun v' us' => v' = v ∧ us' = us) := by
  unfold storeF at *
  split at h
  · rename_i o s g ht
    split at h
    · rename_i cs hcs
      rw [← he o (by simp [objs])] at hcs
      refine ⟨_, _, h.2, ?_⟩
      simp only [hcs]
      exact ⟨h.1, by simp⟩
    · exact h.elim
  · rename_i hne
    obtain ⟨v, us, g1, g2⟩ := storeK_pick h he
    exact ⟨v, us, g1, g2⟩
theorem rowStore_pick {t : TypeId} {a x : AV} (h : rowStore P t a x σ W) (he : ∀ q, q ∈ objs a → σ'.get q = σ.get q) : ∃ v us, W v us ∧ rowStore P t a x σ' (fun v' us' => v' = v ∧ us' = us) := by
  cases a with
  | eptr o sz i j =>
    simp only [rowStore] at *
    rw [he o (by simp [objs])]
    split at h
    · split at h
      · split at h
        · exact ⟨_, _, h.2, h.1, rfl, rfl⟩
        · obtain ⟨h1, h2⟩ := h
          have hi := h1.2.2.2.1
          have h3 := h2 _ (List.getElem?_eq_getElem hi)
          split at h3
          · rename_i cs hcs
            refine ⟨_, _, h3, h1, fun p hp => ?_⟩
            rw [List.getElem?_eq_getElem hi, hcs] at hp; injection hp with hp; subst hp
            exact ⟨rfl, rfl⟩
          · exact h3.elim
        · split at h
          · exact ⟨_, _, h.2, h.1, rfl, rfl⟩
          · exact h.elim
      · exact h.elim
    · exact h.elim
  | _ => simp only [rowStore] at h ⊢; exact storeF_pick h he
theorem rowBuildSlice_pick {t : TypeId} {len : Nat} {parts : List (Nat × AV)} (h : rowBuildSlice P t len parts nid W) : ∃ v us, W v us ∧ rowBuildSlice P t len parts nid (fun v' us' => v' = v ∧ us' = us) := by
  unfold rowBuildSlice at *
  split at h
  · split at h
    · split at h
      · exact ⟨_, _, h.2, h.1, rfl, rfl⟩
      · exact h.elim
    · exact buildSliceK_pick h
  · exact buildSliceK_pick h
theorem rowMake_pick {t : TypeId} {n c : AV} (h : rowMake P t n c nid W) : ∃ v us, W v us ∧ rowMake P t n c nid (fun v' us' => v' = v ∧ us' = us) := by
  unfold rowMake at *
  split at h
  · exact ⟨_, _, h.2.2, h.1, h.2.1, rfl, rfl⟩
  · exact h.elim
theorem rowSrc_pick {x : AV} {s : Nat} {Kn : Nat → List PV → Prop} (h : rowSrc x s σ Kn) (he : ∀ q, q ∈ objs x → σ'.get q = σ.get q) :
    ∃ n new, Kn n new ∧ ∀ Kn' : Nat → List PV → Prop, Kn' n new → rowSrc x s σ' Kn' := by
  unfold rowSrc at *
  split at h
  · exact ⟨_, _, h.2, fun K' hk => ⟨h.1, hk⟩⟩
  · rename_i o sz i n
    obtain ⟨h1, h⟩ := h
    simp only [he o (by simp [objs])]
    split at h
    · exact ⟨_, _, h.2, fun K' hk => ⟨h1, h.1, hk⟩⟩
    · exact h.elim
  · exact ⟨_, _, h.2, fun K' hk => ⟨h.1, hk⟩⟩
  · exact h.elim
theorem rowAppend_pick {t xt : TypeId} {a x : AV} (h : rowAppend P t xt a x σ nid W) (he : ∀ q, q ∈ objs a ∨ q ∈ objs x → σ'.get q = σ.get q) :
    ∃ v us, W v us ∧ rowAppend P t xt a x σ' nid (fun v' us' => v' = v ∧ us' = us) := by
  unfold rowAppend at *
  split at h
  · exact appendK_pick h he
  · split at h
    · obtain ⟨h0, h⟩ := h
      obtain ⟨n, new, h1, h2⟩ := rowSrc_pick h fun q hq => he q (.inr hq)
      split at h1
      · rename_i o sz i len _
        split at h1
        · rename_i sz' l hcs
          rw [← he o (.inl (by simp [objs]))] at hcs
          exact ⟨_, _, h1.2, h0, h2 _ (by simp only [hcs]; exact ⟨h1.1, by simp⟩)⟩
        · exact h1.elim
      · obtain ⟨h3, h4, h5⟩ := h1
        rcases Nat.eq_zero_or_pos n with hn | hn
        · exact ⟨_, _, h4 hn, h0, h2 _ ⟨h3, fun _ => ⟨rfl, rfl⟩, fun h => by omega⟩⟩
        · exact ⟨_, _, h5 hn, h0, h2 _ ⟨h3, fun h => by omega, fun _ => ⟨rfl, rfl⟩⟩⟩
      · exact h1.elim
    · exact h.elim
theorem rowCopy_pick {t : TypeId} {a x : AV} (h : rowCopy P t a x σ W) (he : ∀ q, q ∈ objs a ∨ q ∈ objs x → σ'.get q = σ.get q) :
    ∃ v us, W v us ∧ rowCopy P t a x σ' (fun v' us' => v' = v ∧ us' = us) := by
  cases a with
  | rsl o sz i len =>
    simp only [rowCopy] at *
    split at h
    · obtain ⟨h0, h⟩ := h
      obtain ⟨n, new, h1, h2⟩ := rowSrc_pick h fun q hq => he q (.inr hq)
      split at h1
      · rename_i sz' l hcs
        rw [← he o (.inl (by simp [objs]))] at hcs
        exact ⟨_, _, h1.2, h0, h2 _ (by simp only [hcs]; exact ⟨h1.1, by simp⟩)⟩
      · exact h1.elim
    · exact h.elim
  | _ => simp only [rowCopy] at h ⊢; exact copyK_pick h he
theorem xW_pick {op : Op} {ev ev' : Operand → AV} (h : xW P op ev σ nid W) (hev : ∀ x ∈ op.operands.toList, ev' x = ev x)
    (he : ∀ q, q ∈ (op.operands.toList.map ev).flatMap objs → σ'.get q = σ.get q) : ∃ v us, W v us ∧ xW P op ev' σ' nid (fun v' us' => v' = v ∧ us' = us) := by
  cases op <;> simp only [xW] at h ⊢
  case alloc t => exact rowAlloc_pick h
  case box t x => rw [hev x (by simp [Op.operands])]; exact rowBox_pick h
  case store t a x => rw [hev x (by simp [Op.operands]), hev a (by simp [Op.operands])]; exact rowStore_pick h fun q hq => he q (by simp [Op.operands, hq])
  case buildSlice t n parts =>
    rw [parts_agree (l := parts.toList) (fun x hx => hev x (by simpa [Op.operands] using hx))]
    exact rowBuildSlice_pick h
  case makeSlice t n c => rw [hev n (by simp [Op.operands]), hev c (by simp [Op.operands])]; exact rowMake_pick h
  case call c =>
    obtain ⟨callee, args, ats⟩ := c
    split at h
    · rename_i x y t xt hcl harg h1 h2
      simp only at harg h1 h2
      have hx : ∀ z ∈ [x, y], ev' z = ev z := fun z hz => hev z (by simp only [Op.operands, Call.operands]; simp; right; rw [← Array.mem_toList_iff, harg]; exact hz)
      rw [hx x (by simp), hx y (by simp)]
      exact rowAppend_pick h fun q hq => he q (by simp only [Op.operands, Call.operands]; simp [harg]; right; exact hq)
    · rename_i x y t hcl harg h1
      simp only at harg h1
      have hx : ∀ z ∈ [x, y], ev' z = ev z := fun z hz => hev z (by simp only [Op.operands, Call.operands]; simp; right; rw [← Array.mem_toList_iff, harg]; exact hz)
      rw [hx x (by simp), hx y (by simp)]
      exact rowCopy_pick h fun q hq => he q (by simp only [Op.operands, Call.operands]; simp [harg]; right; exact hq)
    · exact h.elim
  all_goals exact wK_pick h hev he
theorem objs_uc (a : AV) : objs (uc a) = objs a := by cases a <;> rfl
theorem objs_ucm (l : List Operand) (ev : Operand → AV) : (l.map fun x => uc (ev x)).flatMap objs = (l.map ev).flatMap objs := by
  induction l with
  | nil => rfl
  | cons x l ih => simp [ih, objs_uc]
theorem zAV_pick {t : TypeId} (h : zAV P t K) : ∃ v, K v ∧ zAV P t (· = v) := by
  unfold zAV at *
  split at h
  · split at h
    · exact ⟨_, h, rfl⟩
    · exact h.elim
  · exact h.elim
theorem zAV_mono {t : TypeId} {K' : AV → Prop} (h : zAV P t K) (hk : ∀ v, K v → K' v) : zAV P t K' := by
  unfold zAV at *
  split at h
  · split at h
    · exact hk _ h
    · exact h.elim
  · exact h.elim
theorem lookK_pick {t : TypeId} {ok : Bool} {kt : KT} {m : List (PV × PV)} {k : AV} (h : lookK P t ok kt m k K) : ∃ v, K v ∧ lookK P t ok kt m k (· = v) := by
  unfold lookK at *
  split at h
  · rename_i kt' e key hT
    obtain ⟨h0, h⟩ := h
    cases ok with
    | true =>
      simp only at h ⊢
      cases hf : mfind key m with
      | none =>
        obtain ⟨z, h1, h2⟩ := zAV_pick (h.n hf)
        exact ⟨_, h1, h0, ⟨fun v e => (by cases e), fun _ => zAV_mono h2 fun v e => by rw [e]⟩⟩
      | some v => exact ⟨_, h.s v hf, h0, ⟨fun u e => by injection e with e; rw [e], fun e => by cases e⟩⟩
    | false =>
      simp only at h ⊢
      cases hf : mfind key m with
      | none =>
        obtain ⟨z, h1, h2⟩ := zAV_pick (h.n hf)
        exact ⟨_, h1, h0, ⟨fun v e => (by cases e), fun _ => h2⟩⟩
      | some v => exact ⟨_, h.s v hf, h0, ⟨fun u e => by injection e with e; rw [e], fun e => by cases e⟩⟩
  · exact h.elim
theorem lookupK_pick {t : TypeId} {x k : AV} {ok : Bool} (h : lookupK P t x k ok σ K) (he : ∀ q, q ∈ objs x → σ'.get q = σ.get q) : ∃ v, K v ∧ lookupK P t x k ok σ' (· = v) := by
  cases x with
  | mp o =>
    simp only [lookupK] at *
    rw [he o (by simp [objs])]
    split at h
    · exact lookK_pick h
    · exact h.elim
  | p q =>
    cases q with
    | mp kt m => simp only [lookupK] at *; exact lookK_pick h
    | _ => exact h.elim
  | _ => exact h.elim
theorem capK_pick {t : TypeId} {x : AV} (h : capK P t x K) : ∃ v, K v ∧ capK P t x (· = v) := by
  unfold capK at *
  split at h
  · exact ⟨_, h.2, h.1, rfl⟩
  · exact h.elim
theorem cslSl_pick {t : TypeId} {o sz i len cap : Nat} {lo hi mx : Option AV} (h : cslSl P t o sz i len cap lo hi mx K) : ∃ v, K v ∧ cslSl P t o sz i len cap lo hi mx (· = v) := by
  unfold cslSl at *
  split at h
  · exact ⟨_, h.2, h.1, rfl⟩
  · exact h.elim
theorem eqF1_pick {p q : PV} {K : Bool → Prop} (h : eqF1 p q K) : ∃ v, K v ∧ ∀ K' : Bool → Prop, K' v → eqF1 p q K' := by
  cases p <;> cases q <;> first | exact h.elim | exact ⟨_, h, fun _ h => h⟩
theorem eqF_pick : ∀ {a b : List PV} {K : Bool → Prop}, eqF a b K → ∃ v, K v ∧ ∀ K' : Bool → Prop, K' v → eqF a b K'
  | [], [], K, h => ⟨_, h, fun _ h => h⟩
  | [], _ :: _, K, h => h.elim
  | _ :: _, [], K, h => h.elim
  | p :: r, q :: s, K, h => by
    obtain ⟨v, h1, h2⟩ := eqF1_pick h
    cases r with
    | nil =>
      cases s with
      | nil => exact ⟨v, h1, fun K' h => h2 _ h⟩
      | cons _ _ => exact h1.elim
    | cons x r =>
      obtain ⟨u, h3, h4⟩ := eqF_pick (a := x :: r) (b := s) h1
      exact ⟨_, h3, fun K' h => h2 _ (h4 _ h)⟩
theorem eqAgg_pick {op : BinOp} {t : TypeId} {a b : List PV} (h : eqAgg P op t a b K) : ∃ v, K v ∧ eqAgg P op t a b (· = v) := by
  unfold eqAgg at *
  split at h
  · obtain ⟨h0, h⟩ := h
    cases op <;> simp only at h ⊢ <;> try exact h.elim
    · obtain ⟨v, h1, h2⟩ := eqF_pick h; exact ⟨_, h1, h0, h2 _ rfl⟩
    · obtain ⟨v, h1, h2⟩ := eqF_pick h; exact ⟨_, h1, h0, h2 _ rfl⟩
  · exact h.elim
  · split at h
    · obtain ⟨h0, h⟩ := h
      cases op <;> simp only at h ⊢ <;> try exact h.elim
      · obtain ⟨v, h1, h2⟩ := eqF_pick h; exact ⟨_, h1, h0, h2 _ rfl⟩
      · obtain ⟨v, h1, h2⟩ := eqF_pick h; exact ⟨_, h1, h0, h2 _ rfl⟩
    · exact h.elim
theorem yLen_pick {t : TypeId} {x : AV} (h : yLen P t x σ K) (he : ∀ q, q ∈ objs x → σ'.get q = σ.get q) : ∃ v, K v ∧ yLen P t x σ' (· = v) := by
  cases x with
  | mp o =>
    simp only [yLen] at *
    rw [he o (by simp [objs])]
    split at h
    · exact ⟨_, h.2, h.1, rfl⟩
    · exact h.elim
  | p q =>
    cases q with
    | mp kt m => simp only [yLen] at *; exact ⟨_, h.2, h.1, rfl⟩
    | _ => unfold yLen at *; exact rowLen_pick h
  | ch o =>
    simp only [yLen] at *
    rw [he o (by simp [objs])]
    split at h
    · exact ⟨_, h.2, h.1, rfl⟩
    · exact h.elim
  | _ => unfold yLen at *; exact rowLen_pick h
theorem yQ_pick {op : Op} {ev ev' : Operand → AV} (h : yQ P op ev σ K) (hev : ∀ x ∈ op.operands.toList, ev' x = ev x)
    (he : ∀ q, q ∈ (op.operands.toList.map ev).flatMap objs → σ'.get q = σ.get q) : ∃ v, K v ∧ yQ P op ev' σ' (· = v) := by
  have gen : xQ P op (fun x => uc (ev x)) σ K → ∃ v, K v ∧ xQ P op (fun x => uc (ev' x)) σ' (· = v) := fun h => xQ_pick h (fun x hx => by rw [hev x hx]) (fun q hq => he q (by rw [← objs_ucm]; exact hq))
  have gen2 : xQ P op ev σ K → ∃ v, K v ∧ xQ P op ev' σ' (· = v) := fun h => xQ_pick h hev he
  cases op <;> simp only [yQ] at h ⊢
  case move x => rw [hev x (by simp [Op.operands])]; exact ⟨_, h, rfl⟩
  case assign x => rw [hev x (by simp [Op.operands])]; exact ⟨_, h, rfl⟩
  case lookup t x i ok => rw [hev x (by simp [Op.operands]), hev i (by simp [Op.operands])]; exact lookupK_pick h fun q hq => he q (by simp [Op.operands, hq])
  case slice t x lo hi mx =>
    rw [hev x (by simp [Op.operands])]
    split at h
    · rename_i hx
      rw [opt_agree (l := lo) (fun y hy => hev y (by simp [Op.operands, hy])), opt_agree (l := hi) (fun y hy => hev y (by simp [Op.operands, hy])),
        opt_agree (l := mx) (fun y hy => hev y (by simp [Op.operands, hy]))]
      exact cslSl_pick h
    · exact gen2 h
  case binOp bop t x y z =>
    rw [hev x (by simp [Op.operands]), hev y (by simp [Op.operands])]
    split at h
    · exact eqAgg_pick h
    · exact gen2 h
  case call c =>
    obtain ⟨callee, args, ats⟩ := c
    have hev' : ∀ x ∈ args.toList, ev' x = ev x := fun x hx => hev x (by simp [Op.operands, Call.operands, Array.mem_toList_iff.1 hx])
    split at h
    · split at h
      · rename_i x t hx ht
        rw [hev' x (by simp only at hx; rw [hx]; simp)]; exact capK_pick h
      · exact h.elim
    · rename_i hc
      simp only at hc
      subst hc
      split at h
      · rename_i x t hx ht
        simp only at hx
        rw [hev' x (by rw [hx]; simp)]; exact yLen_pick h fun q hq => he q (by
          have : args = #[x] := by apply Array.ext'; simpa using hx
          subst this; simp [Op.operands, Call.operands, hq])
      · exact h.elim
    · exact gen2 h
  all_goals exact gen h
theorem rowSrc_mono {x : AV} {s : Nat} {Kn Kn' : Nat → List PV → Prop} (h : rowSrc x s σ Kn) (hk : ∀ n new, Kn n new → Kn' n new) : rowSrc x s σ Kn' := by
  unfold rowSrc at *
  split at h
  · exact ⟨h.1, hk _ _ h.2⟩
  · refine ⟨h.1, ?_⟩
    have h2 := h.2
    split at h2
    · exact ⟨h2.1, hk _ _ h2.2⟩
    · exact h2.elim
  · exact ⟨h.1, hk _ _ h.2⟩
  · exact h.elim
theorem appendK_mono {t xt : TypeId} {a x : AV} {W' : AV → Heap → Prop} (h : appendK P t xt a x σ nid W) (hk : ∀ v us, W v us → W' v us) : appendK P t xt a x σ nid W' := by
  unfold appendK at *
  split at h
  · refine ⟨h.1, srcK_mono h.2 fun n new h2 => ?_⟩
    split at h2
    · exact ⟨h2.1, fun hn => hk _ _ (h2.2.1 hn), fun hn => hk _ _ (h2.2.2 hn)⟩
    · split at h2
      · exact ⟨h2.1, fun hn => hk _ _ (h2.2.1 hn), fun hn => hk _ _ (h2.2.2 hn)⟩
      · exact h2.elim
    · exact h2.elim
  · exact h.elim
theorem rowAppend_mono {t xt : TypeId} {a x : AV} {W' : AV → Heap → Prop} (h : rowAppend P t xt a x σ nid W) (hk : ∀ v us, W v us → W' v us) : rowAppend P t xt a x σ nid W' := by
  unfold rowAppend at *
  split at h
  · exact appendK_mono h hk
  · split at h
    · refine ⟨h.1, rowSrc_mono h.2 fun n new h2 => ?_⟩
      split at h2
      · split at h2
        · exact ⟨h2.1, hk _ _ h2.2⟩
        · exact h2.elim
      · exact ⟨h2.1, fun hn => hk _ _ (h2.2.1 hn), fun hn => hk _ _ (h2.2.2 hn)⟩
      · exact h2.elim
    · exact h.elim
theorem appendZ_pick {t xt : TypeId} {a x : AV} (h : appendZ P t xt a x σ nid W) : ∃ v us, W v us ∧ ∀ σ' : Heap, (∀ q, q ∈ objs a ∨ q ∈ keys us → σ'.get q = σ.get q) → appendZ P t xt a x σ' nid (fun v' us' => v' = v ∧ us' = us) := by
  unfold appendZ at *
  obtain ⟨p, Z, h1, _, h3⟩ := (fz_pick 60).1 x [] _ h
  obtain ⟨v, us, g1, g2⟩ := rowAppend_pick (σ' := deadZ Z ++ σ) h1 (fun _ _ => rfl)
  refine ⟨v, _, g1, fun σ' he => (fz_mono 60).1 _ _ _ _ (fun p' Z' hp => ?_) (h3 σ' fun q hq => he q (.inr ?_))⟩
  · obtain ⟨rfl, rfl⟩ := hp
    obtain ⟨v2, us2, ⟨e1, e2⟩, g3⟩ := rowAppend_pick (σ' := deadZ Z' ++ σ') g2 (fun q hq => by
      rw [get_append, get_append]
      split
      · rfl
      · rcases hq with hq | hq
        · exact he q (.inl hq)
        · simp [objs] at hq)
    subst e1; subst e2
    obtain ⟨v3, us3, ⟨e1, e2⟩, g4⟩ := rowAppend_pick (σ' := deadZ Z' ++ σ') (W := fun v' us' => v' = v2 ∧ us' = us2) g3 (fun _ _ => rfl)
    exact rowAppend_mono g3 fun v' us' hh => ⟨hh.1, by rw [hh.2]⟩
  · simp only [keys, List.map_append, List.mem_append]
    right
    simp [deadZ, hq]
theorem rowStore_mono {t : TypeId} {o sz i j : Nat} {p : PV} {W' : AV → Heap → Prop} (h : rowStore P t (.eptr o sz i j) (.p p) σ W) (hk : ∀ v us, W v us → W' v us) : rowStore P t (.eptr o sz i j) (.p p) σ W' := by
  simp only [rowStore] at *
  split at h
  · split at h
    · exact ⟨h.1, hk _ _ h.2⟩
    · refine ⟨h.1, fun q hq => ?_⟩
      have := h.2 q hq
      split at this
      · exact hk _ _ this
      · exact this.elim
    · split at h
      · exact ⟨h.1, hk _ _ h.2⟩
      · exact h.elim
  · exact h.elim
theorem storeZ_pick {t : TypeId} {o sz i j : Nat} {x : AV} (h : storeZ P t (.eptr o sz i j) x σ W) : ∃ v us, W v us ∧ ∀ σ' : Heap, (∀ q, q = o ∨ q ∈ keys us → σ'.get q = σ.get q) → storeZ P t (.eptr o sz i j) x σ' (fun v' us' => v' = v ∧ us' = us) := by
  unfold storeZ at *
  obtain ⟨p, Z, h1, _, h3⟩ := (fz_pick 60).1 x [] _ h
  obtain ⟨v, us, g1, g2⟩ := rowStore_pick (σ' := deadZ Z ++ σ) h1 (fun _ _ => rfl)
  refine ⟨v, _, g1, fun σ' he => (fz_mono 60).1 _ _ _ _ (fun p' Z' hp => ?_) (h3 σ' fun q hq => he q (.inr ?_))⟩
  · obtain ⟨rfl, rfl⟩ := hp
    obtain ⟨v2, us2, ⟨e1, e2⟩, g3⟩ := rowStore_pick (σ' := deadZ Z' ++ σ') g2 (fun q hq => by
      rw [get_append, get_append]
      split
      · rfl
      · simp [objs] at hq; exact he q (.inl hq))
    subst e1; subst e2
    exact rowStore_mono g3 fun v' us' hh => ⟨hh.1, by rw [hh.2]⟩
  · simp only [keys, List.map_append, List.mem_append]
    right
    simp [deadZ, hq]
theorem selfCopy_pick {t : TypeId} {o sz i len sz2 i2 n : Nat} (h : selfCopy P t o sz i len sz2 i2 n σ W) (he : σ'.get o = σ.get o) : ∃ v us, W v us ∧ selfCopy P t o sz i len sz2 i2 n σ' (fun v' us' => v' = v ∧ us' = us) := by
  unfold selfCopy at *
  rw [he]
  split at h
  · exact ⟨_, _, h.2, h.1, rfl, rfl⟩
  · exact h.elim
theorem clearK_pick {t : TypeId} {x : AV} (h : clearK P t x σ W) (he : ∀ q, q ∈ objs x → σ'.get q = σ.get q) : ∃ v us, W v us ∧ clearK P t x σ' (fun v' us' => v' = v ∧ us' = us) := by
  unfold clearK at *
  split at h
  · rename_i o sz i len s g z hE hZ
    simp only
    rw [he o (by simp [objs])]
    split at h
    · exact ⟨_, _, h.2, h.1, rfl, rfl⟩
    · exact h.elim
  · exact h.elim
theorem putP_pick {t : TypeId} {m k v : AV} (h : putP P t m k v σ W) (he : ∀ q, q ∈ objs m → σ'.get q = σ.get q) : ∃ v' us, W v' us ∧ putP P t m k v σ' (fun v'' us' => v'' = v' ∧ us' = us) := by
  unfold putP at *
  split at h
  · rename_i o key val
    simp only
    rw [he o (by simp [objs])]
    split at h
    · exact ⟨_, _, h.2, h.1, rfl, rfl⟩
    · exact h.elim
  · exact h.elim
theorem lookS_pick {t : TypeId} {o sz : Nat} {k : AV} {ok : Bool} {kt : KT} {m : List (PV × MV)} (h : lookS P t o k ok kt sz m nid W) : ∃ v us, W v us ∧ lookS P t o k ok kt sz m nid (fun v' us' => v' = v ∧ us' = us) := by
  unfold lookS at *
  split at h
  · rename_i kt' e key hT
    obtain ⟨h0, h⟩ := h
    cases hf : mfind key m with
    | none =>
      obtain ⟨z, h1, h2⟩ := zAV_pick (h.n hf)
      exact ⟨_, _, h1, h0, ⟨fun v e => (by cases e), fun _ => zAV_mono h2 fun v e => ⟨e, rfl⟩⟩⟩
    | some x =>
      have h1 := h.s x hf
      cases x with
      | h l => exact ⟨_, _, h1, h0, ⟨fun u e => by injection e with e; subst e; exact ⟨rfl, rfl⟩, fun e => by cases e⟩⟩
      | v a => exact ⟨_, _, h1, h0, ⟨fun u e => by injection e with e; subst e; exact ⟨rfl, rfl⟩, fun e => by cases e⟩⟩
  · exact h.elim
theorem chanK_pick {t : TypeId} {n : AV} (h : chanK P t n nid W) : ∃ v us, W v us ∧ chanK P t n nid (fun v' us' => v' = v ∧ us' = us) := by
  unfold chanK at *
  split at h
  · exact ⟨_, _, h.2, h.1, rfl, rfl⟩
  · exact h.elim
theorem putK_pick {t : TypeId} {m k v : AV} (h : putK P t m k v σ W) (he : ∀ q, q ∈ objs m ∨ q ∈ objs v → σ'.get q = σ.get q) : ∃ v' us, W v' us ∧ putK P t m k v σ' (fun v'' us' => v'' = v' ∧ us' = us) := by
  unfold putK at *
  split at h
  · rename_i o key n sz i len
    simp only
    rw [he o (by simp [objs]), he n (by simp [objs])]
    split at h
    · exact ⟨_, _, h.2, h.1, rfl, rfl⟩
    · exact h.elim
  · rename_i hno
    obtain ⟨v', us, h1, h2⟩ := putP_pick h (fun q hq => he q (.inl hq))
    refine ⟨v', us, h1, ?_⟩
    cases v with
    | rsl n sz i len =>
      cases m with
      | mp o =>
        cases k with
        | p key => exact (hno _ _ _ _ _ _ rfl rfl rfl).elim
        | _ => exact h2
      | _ => exact h2
    | _ => cases m <;> cases k <;> exact h2
theorem growK_pick {t : TypeId} {a x : AV} (h : growK P t a x σ nid W) (he : ∀ q, q ∈ objs a → σ'.get q = σ.get q) : ∃ v us, W v us ∧ growK P t a x σ' nid (fun v' us' => v' = v ∧ us' = us) := by
  unfold growK at *
  split at h
  · rename_i o sz i len cap k n s g z bt hE hz hb
    simp only [hE, hz, hb]
    rw [he o (by simp [objs])]
    split at h
    · exact ⟨_, _, h.2, h.1, rfl, rfl⟩
    · exact h.elim
  · exact h.elim
theorem growR_pick {t : TypeId} {a x : AV} (h : growR P t a x σ nid W) (he : ∀ q, q ∈ objs a → σ'.get q = σ.get q) : ∃ v us, W v us ∧ growR P t a x σ' nid (fun v' us' => v' = v ∧ us' = us) := by
  unfold growR at *
  split at h
  · rename_i o sz i len k n s g z bt hE hz hb
    simp only [hE, hz, hb]
    rw [he o (by simp [objs])]
    split at h
    · exact ⟨_, _, h.2, h.1, rfl, rfl⟩
    · exact h.elim
  · exact h.elim
theorem growA_pick {t : TypeId} {a x : AV} (h : growA P t a x σ nid W) (he : ∀ q, q ∈ objs a → σ'.get q = σ.get q) : ∃ v us, W v us ∧ growA P t a x σ' nid (fun v' us' => v' = v ∧ us' = us) := by
  cases a with
  | rsl o sz i len => exact growR_pick (P := P) (t := t) (x := x) (nid := nid) (a := .rsl o sz i len) h he
  | any => exact growK_pick (P := P) (t := t) (x := x) (nid := nid) (a := .any) h he
  | p q => exact growK_pick (P := P) (t := t) (x := x) (nid := nid) (a := .p q) h he
  | ptr o off => exact growK_pick (P := P) (t := t) (x := x) (nid := nid) (a := .ptr o off) h he
  | msl o sz off len => exact growK_pick (P := P) (t := t) (x := x) (nid := nid) (a := .msl o sz off len) h he
  | csl o sz i len cap => exact growK_pick (P := P) (t := t) (x := x) (nid := nid) (a := .csl o sz i len cap) h he
  | eptr o sz i j => exact growK_pick (P := P) (t := t) (x := x) (nid := nid) (a := .eptr o sz i j) h he
  | mp o => exact growK_pick (P := P) (t := t) (x := x) (nid := nid) (a := .mp o) h he
  | ch o => exact growK_pick (P := P) (t := t) (x := x) (nid := nid) (a := .ch o) h he
  | agg cs => exact growK_pick (P := P) (t := t) (x := x) (nid := nid) (a := .agg cs) h he
  | tup vs => exact growK_pick (P := P) (t := t) (x := x) (nid := nid) (a := .tup vs) h he
  | fn f a b => exact growK_pick (P := P) (t := t) (x := x) (nid := nid) (a := .fn f a b) h he
theorem byteK_pick {s d : TypeId} {o sz i len : Nat} (h : byteK P s d o sz i len σ W) : ∃ v us, W v us ∧ (∀ σ' : Heap, σ'.get o = σ.get o → byteK P s d o sz i len σ' (fun v' us' => v' = v ∧ us' = us)) := by
  unfold byteK at *
  split at h
  · rename_i sz' l hd ho
    obtain ⟨h1, q, hq, hK⟩ := h
    refine ⟨_, _, hK, fun σ' he => ?_⟩
    rw [he, hd, ho]
    exact ⟨h1, q, hq, rfl, rfl⟩
  · exact h.elim
theorem yW_pick {op : Op} {ev : Operand → AV} (h : yW P op ev σ nid W) : ∃ v us, W v us ∧ ∀ (ev' : Operand → AV) (σ' : Heap), (∀ x ∈ op.operands.toList, ev' x = ev x) →
    (∀ q, q ∈ (op.operands.toList.map ev).flatMap objs ∨ q ∈ keys us → σ'.get q = σ.get q) → yW P op ev' σ' nid (fun v' us' => v' = v ∧ us' = us) := by
  have gen : xW P op (fun x => uc (ev x)) σ nid W → ∃ v us, W v us ∧ ∀ (ev' : Operand → AV) (σ' : Heap), (∀ x ∈ op.operands.toList, ev' x = ev x) →
      (∀ q, q ∈ (op.operands.toList.map ev).flatMap objs ∨ q ∈ keys us → σ'.get q = σ.get q) → xW P op (fun x => uc (ev' x)) σ' nid (fun v' us' => v' = v ∧ us' = us) := fun h => by
    obtain ⟨v, us, h1, h2⟩ := xW_pick (ev' := fun x => uc (ev x)) (σ' := σ) h (fun _ _ => rfl) (fun _ _ => rfl)
    refine ⟨v, us, h1, fun ev' σ' hev he => ?_⟩
    obtain ⟨v', us', ⟨e1, e2⟩, h3⟩ := xW_pick (ev' := fun x => uc (ev' x)) (σ' := σ') h2 (fun x hx => by rw [hev x hx]) (fun q hq => he q (.inl (by rw [← objs_ucm]; exact hq)))
    subst e1; subst e2
    exact h3
  cases op <;> simp only [yW] at h
  case makeMap t n =>
    cases n with
    | none =>
      simp only at h
      split at h
      · rename_i hT
        exact ⟨_, _, h, fun _ _ _ _ => by simp only [yW, hT]; exact ⟨trivial, trivial⟩⟩
      · exact h.elim
    | some _ => exact h.elim
  case makeChan t n =>
    obtain ⟨v, us, h1, h2⟩ := chanK_pick h
    refine ⟨v, us, h1, fun ev' σ' hev he => ?_⟩
    simp only [yW]
    rw [hev n (by simp [Op.operands])]
    exact h2
  case store t a x =>
    have hop : ∀ (ev' : Operand → AV), (∀ z ∈ (Op.store t a x).operands.toList, ev' z = ev z) → ev' a = ev a ∧ ev' x = ev x := fun ev' hev => ⟨hev a (by simp [Op.operands]), hev x (by simp [Op.operands])⟩
    unfold yStore at h
    split at h
    · rename_i ha hx
      cases hua : uc (ev a) <;> rw [hua] at ha <;> try (cases ha; done)
      rename_i o sz i j
      rw [hua] at h
      obtain ⟨v, us, g1, g2⟩ := storeZ_pick h
      refine ⟨v, us, g1, fun ev' σ' hev he => ?_⟩
      obtain ⟨e1, e2⟩ := hop ev' hev
      simp only [yW]
      rw [e1, e2, hua]
      unfold yStore
      rw [hx]
      refine g2 σ' fun q hq => he q ?_
      rcases hq with hq | hq
      · left
        have : q ∈ objs (ev a) := by rw [← objs_uc, hua]; simp [objs, hq]
        simp [Op.operands, this]
      · exact .inr hq
    · rename_i hne
      obtain ⟨v, us, g1, g2⟩ := rowStore_pick (σ' := σ) h (fun _ _ => rfl)
      refine ⟨v, us, g1, fun ev' σ' hev he => ?_⟩
      obtain ⟨e1, e2⟩ := hop ev' hev
      simp only [yW]
      rw [e1, e2]
      obtain ⟨v2, us2, ⟨e3, e4⟩, g3⟩ := rowStore_pick (σ' := σ') g2 (fun q hq => he q (.inl (by rw [objs_uc] at hq; simp [Op.operands, hq])))
      subst e3; subst e4
      unfold yStore
      split
      · rename_i hx hy; exact (hne hx hy).elim
      · exact g3
  case buildSlice t n parts =>
    split at h
    · rename_i hp
      unfold emptyLitK at h
      split at h
      · rename_i s g z hE hz
        refine ⟨_, _, h.2, fun ev' σ' hev he => ?_⟩
        simp only [yW, hp, emptyLitK, hE, hz]
        exact ⟨h.1, trivial, trivial⟩
      · exact h.elim
    · rename_i hne
      obtain ⟨v, us, g1, g2⟩ := gen (by simpa using h)
      refine ⟨v, us, g1, fun ev' σ' hev he => ?_⟩
      have := g2 ev' σ' hev he
      simp only [yW]
      first
      | simpa using this
      | (split
         · rename_i hp; exact (hne rfl hp).elim
         · simpa using this)
  case convert s d x =>
    split at h
    · rename_i o sz i len hxx
      obtain ⟨v, us, g1, g2⟩ := byteK_pick h
      refine ⟨v, us, g1, fun ev' σ' hev he => ?_⟩
      simp only [yW]
      rw [hev x (by simp [Op.operands]), hxx]
      refine g2 σ' (he o (.inl ?_))
      have : o ∈ objs (ev x) := by rw [← objs_uc, hxx]; simp [objs]
      simp [Op.operands, this]
    · rename_i hne
      obtain ⟨v, us, g1, g2⟩ := gen (by simpa using h)
      refine ⟨v, us, g1, fun ev' σ' hev he => ?_⟩
      have := g2 ev' σ' hev he
      simp only [yW]
      split
      · rename_i o sz i len hxx
        rw [hev x (by simp [Op.operands])] at hxx
        exact (hne _ _ _ _ hxx).elim
      · exact this
  case mapUpdate t m k v =>
    obtain ⟨v', us, h1, h2⟩ := putK_pick (σ' := σ) h (fun _ _ => rfl)
    refine ⟨v', us, h1, fun ev' σ' hev he => ?_⟩
    obtain ⟨v2, us2, ⟨e1, e2⟩, h3⟩ := putK_pick (σ' := σ') h2 (fun q hq => he q (.inl (by rcases hq with hq | hq <;> simp [Op.operands, hq])))
    subst e1; subst e2
    simp only [yW]
    rw [hev m (by simp [Op.operands]), hev k (by simp [Op.operands]), hev v (by simp [Op.operands])]
    exact h3
  case insert t m k v =>
    obtain ⟨v', us, h1, h2⟩ := putK_pick (σ' := σ) h (fun _ _ => rfl)
    refine ⟨v', us, h1, fun ev' σ' hev he => ?_⟩
    obtain ⟨v2, us2, ⟨e1, e2⟩, h3⟩ := putK_pick (σ' := σ') h2 (fun q hq => he q (.inl (by rcases hq with hq | hq <;> simp [Op.operands, hq])))
    subst e1; subst e2
    simp only [yW]
    rw [hev m (by simp [Op.operands]), hev k (by simp [Op.operands]), hev v (by simp [Op.operands])]
    exact h3
  case call c =>
    obtain ⟨callee, args, ats⟩ := c
    split at h
    · rename_i x y t xt hc harg h1 h2
      simp only at hc harg h1 h2
      subst hc
      have hargs : args = #[x, y] := by apply Array.ext'; simpa using harg
      subst hargs
      have hyw : ∀ (ev : Operand → AV) (σ' : Heap) (K : AV → Heap → Prop), yW P (.call { callee := .builtin .append, args := #[x, y], argTypes := ats }) ev σ' nid K = zAppend P t xt (ev x) (ev y) σ' nid K := fun ev σ' K => by simp [yW, h1, h2]
      have hop : ∀ (ev' : Operand → AV), (∀ z ∈ (Op.call { callee := .builtin .append, args := #[x, y], argTypes := ats }).operands.toList, ev' z = ev z) → ev' x = ev x ∧ ev' y = ev y := fun ev' hev =>
        ⟨hev x (by simp [Op.operands, Call.operands]), hev y (by simp [Op.operands, Call.operands])⟩
      cases hti : tIsInt P xt with
      | true =>
        simp only [zAppend, hti] at h
        obtain ⟨v, us, g1, g2⟩ := growA_pick (σ' := σ) h (fun _ _ => rfl)
        refine ⟨v, us, g1, fun ev' σ' hev he => ?_⟩
        obtain ⟨e1, e2⟩ := hop ev' hev
        rw [hyw, e1, e2]
        simp only [zAppend, hti]
        obtain ⟨v2, us2, ⟨e3, e4⟩, g3⟩ := growA_pick (σ' := σ') g2 (fun q hq => he q (.inl (by simp [Op.operands, Call.operands, hq])))
        subst e3; subst e4
        exact g3
      | false =>
      simp only [zAppend, hti] at h
      have yap : ∀ {b : AV}, (∀ q, q ∈ objs b → q ∈ objs (ev x)) → yAppend P t xt b (uc (ev y)) σ nid W → ∃ v us, W v us ∧ ∀ (σ' : Heap), (∀ q, q ∈ ((Op.call { callee := .builtin .append, args := #[x, y], argTypes := ats }).operands.toList.map ev).flatMap objs ∨ q ∈ keys us → σ'.get q = σ.get q) → yAppend P t xt b (uc (ev y)) σ' nid (fun v' us' => v' = v ∧ us' = us) := fun hb h => by
        unfold yAppend at h
        split at h
        · rename_i hx hy
          obtain ⟨v, us, g1, g2⟩ := appendZ_pick h
          refine ⟨v, us, g1, fun σ' he => ?_⟩
          unfold yAppend
          simp only [hx, hy]
          refine g2 σ' fun q hq => he q ?_
          rcases hq with hq | hq
          · exact .inl (by simp [Op.operands, Call.operands, hb q hq])
          · exact .inr hq
        · rename_i hne
          obtain ⟨v, us, g1, g2⟩ := rowAppend_pick (σ' := σ) h (fun _ _ => rfl)
          refine ⟨v, us, g1, fun σ' he => ?_⟩
          obtain ⟨v2, us2, ⟨e3, e4⟩, g3⟩ := rowAppend_pick (σ' := σ') g2 (fun q hq => he q (.inl (by
            rw [objs_uc] at hq
            rcases hq with hq | hq
            · simp [Op.operands, Call.operands, hb q hq]
            · simp [Op.operands, Call.operands, hq])))
          subst e3; subst e4
          unfold yAppend
          split
          · rename_i hx hy; exact (hne hx hy).elim
          · exact g3
      split at h
      · rename_i o sz i len cap hcs
        rcases h.h with h | h
        · obtain ⟨v, us, g1, g2⟩ := yap (fun q hq => by rw [hcs]; exact hq) h
          refine ⟨v, us, g1, fun ev' σ' hev he => ?_⟩
          obtain ⟨e1, e2⟩ := hop ev' hev
          rw [hyw, e1, e2]
          simp only [zAppend, hti, hcs]
          exact AltA.l (g2 σ' he)
        · unfold emptyK at h
          split at h
          · rename_i sz2 c hxx
            refine ⟨_, _, h.2, fun ev' σ' hev he => ?_⟩
            obtain ⟨e1, e2⟩ := hop ev' hev
            rw [hyw, e1, e2]
            simp only [zAppend, hti, hcs]
            refine AltA.r ?_
            simp only [emptyK, hxx]
            exact ⟨h.1, trivial, trivial⟩
          · exact h.elim
      · rename_i hncs
        obtain ⟨v, us, g1, g2⟩ := yap (fun q hq => by rwa [objs_uc] at hq) h
        refine ⟨v, us, g1, fun ev' σ' hev he => ?_⟩
        obtain ⟨e1, e2⟩ := hop ev' hev
        rw [hyw, e1, e2]
        simp only [zAppend, hti]
        first
        | exact g2 σ' he
        | (split
           · rename_i o sz i len cap hcs; exact (hncs _ _ _ _ _ hcs).elim
           · exact g2 σ' he)
    · rename_i x y t hc harg h1
      simp only at hc harg h1
      subst hc
      have hargs : args = #[x, y] := by apply Array.ext'; simpa using harg
      subst hargs
      have hyw : ∀ (ev : Operand → AV) (σ' : Heap) (K : AV → Heap → Prop), yW P (.call { callee := .builtin .copy, args := #[x, y], argTypes := ats }) ev σ' nid K = yCopy P t (uc (ev x)) (uc (ev y)) σ' K := fun ev σ' K => by simp [yW, h1]
      have hop : ∀ (ev' : Operand → AV), (∀ z ∈ (Op.call { callee := .builtin .copy, args := #[x, y], argTypes := ats }).operands.toList, ev' z = ev z) → ev' x = ev x ∧ ev' y = ev y := fun ev' hev =>
        ⟨hev x (by simp [Op.operands, Call.operands]), hev y (by simp [Op.operands, Call.operands])⟩
      have hoo : ∀ {σ' : Heap} {us : Heap}, (∀ q, q ∈ ((Op.call { callee := .builtin .copy, args := #[x, y], argTypes := ats }).operands.toList.map ev).flatMap objs ∨ q ∈ keys us → σ'.get q = σ.get q) → ∀ q, q ∈ objs (uc (ev x)) ∨ q ∈ objs (uc (ev y)) → σ'.get q = σ.get q := fun he q hq => he q (.inl (by
          rw [objs_uc, objs_uc] at hq
          rcases hq with hq | hq <;> simp [Op.operands, Call.operands, hq]))
      revert h hoo
      generalize hX : uc (ev x) = X
      generalize hY : uc (ev y) = Y
      intro h hoo
      have fin : ∀ {σ' : Heap}, (∀ q, q ∈ objs X ∨ q ∈ objs Y → σ'.get q = σ.get q) → ∀ {W : AV → Heap → Prop}, yCopy P t X Y σ W → ∃ v us, W v us ∧ yCopy P t X Y σ' (fun v' us' => v' = v ∧ us' = us) := by
        intro σ' he W h
        unfold yCopy at *
        split at h
        · split at h
          · exact selfCopy_pick h (he _ (.inl (by simp [objs])))
          · exact rowCopy_pick h he
        · exact rowCopy_pick h he
      obtain ⟨v, us, g1, g2⟩ := fin (σ' := σ) (fun _ _ => rfl) h
      refine ⟨v, us, g1, fun ev' σ' hev he => ?_⟩
      obtain ⟨e1, e2⟩ := hop ev' hev
      rw [hyw, e1, e2, hX, hY]
      obtain ⟨v2, us2, ⟨e3, e4⟩, g3⟩ := fin (σ' := σ') (hoo he) g2
      subst e3; subst e4; exact g3
    · rename_i x t hc harg h1
      simp only at hc harg h1
      subst hc
      have hargs : args = #[x] := by apply Array.ext'; simpa using harg
      subst hargs
      have hyw : ∀ (ev : Operand → AV) (σ' : Heap) (K : AV → Heap → Prop), yW P (.call { callee := .builtin .clear, args := #[x], argTypes := ats }) ev σ' nid K = clearK P t (uc (ev x)) σ' K := fun ev σ' K => by simp [yW, h1]
      obtain ⟨v', us, g1, g2⟩ := clearK_pick (σ' := σ) h (fun _ _ => rfl)
      refine ⟨v', us, g1, fun ev' σ' hev he => ?_⟩
      rw [hyw, hev x (by simp [Op.operands, Call.operands])]
      obtain ⟨v2, us2, ⟨e1, e2⟩, g3⟩ := clearK_pick (σ' := σ') g2 (fun q hq => he q (.inl (by rw [objs_uc] at hq; simp [Op.operands, Call.operands, hq])))
      subst e1; subst e2; exact g3
    · exact h.elim
  all_goals exact gen h
theorem stK_pick {op : Op} {ev : Operand → AV} (h : stK P op ev σ nid W) : ∃ v us, W v us ∧ ∀ (ev' : Operand → AV) (σ' : Heap), (∀ x ∈ op.operands.toList, ev' x = ev x) →
    (∀ q, q ∈ (op.operands.toList.map ev).flatMap objs ∨ q ∈ keys us → σ'.get q = σ.get q) → stK P op ev' σ' nid (fun v' us' => v' = v ∧ us' = us) := by
  unfold stK at *
  cases hkd : kindOf P op with
  | quiet =>
    simp only [hkd] at h ⊢
    have lk : ∀ {ev' : Operand → AV} {σ' : Heap}, (∀ x ∈ op.operands.toList, ev' x = ev x) → (∀ q, q ∈ (op.operands.toList.map ev).flatMap objs → σ'.get q = σ.get q) → isLkS op ev' σ' = isLkS op ev σ := by
      intro ev' σ' hev he
      cases op <;> try rfl
      rename_i t x i ok
      simp only [isLkS]
      rw [hev x (by simp [Op.operands]), hev i (by simp [Op.operands])]
      cases hx : ev x <;> try rfl
      rename_i o
      simp only
      rw [he o (by simp [Op.operands, hx, objs])]
    cases hlk : isLkS op ev σ with
    | some y =>
      obtain ⟨t, o, k, ok, kt, sz, m⟩ := y
      rw [hlk] at h
      simp only at h
      obtain ⟨v, us, h1, h2⟩ := lookS_pick h
      refine ⟨v, us, h1, fun ev' σ' hev he => ?_⟩
      rw [lk hev fun q hq => he q (.inl hq), hlk]
      exact h2
    | none =>
    rw [hlk] at h
    simp only at h
    obtain ⟨v, h1, h2⟩ : ∃ v, W v [] ∧ yQ P op ev σ (· = v) := yQ_pick (ev' := ev) (σ' := σ) h (fun _ _ => rfl) (fun _ _ => rfl)
    refine ⟨v, [], h1, fun ev' σ' hev he => ?_⟩
    obtain ⟨v', e, h3⟩ := yQ_pick (ev' := ev') (σ' := σ') h2 hev (fun q hq => he q (.inl hq))
    subst e
    rw [lk hev fun q hq => he q (.inl hq), hlk]
    simpa using h3
  | write =>
    simp only [hkd] at h ⊢
    exact yW_pick h
  | call =>
    simp only [hkd] at h ⊢
    cases op <;> try exact h.elim
    rename_i c
    obtain ⟨callee, args, ats⟩ := c
    cases callee with
    | builtin b => exact h.elim
    | invoke r m => exact h.elim
    | value x =>
      simp only at h ⊢
      obtain ⟨v, us, h1, h2⟩ := callX_pick h
      refine ⟨v, us, h1, fun ev' σ' hev he => ?_⟩
      rw [hev x (by simp [Op.operands, Call.operands]), map_agree (l := args.toList) (fun y hy => hev y (by simp [Op.operands, Call.operands, Array.mem_toList_iff.1 hy]))]
      refine h2 σ' fun q hq => hq.elim (fun hq => he q (.inl ?_)) fun hq => he q (.inr hq)
      obtain ⟨y, hy, hq⟩ := List.mem_flatMap.1 hq
      obtain ⟨z, hz, rfl⟩ := List.mem_map.1 hy
      exact List.mem_flatMap.2 ⟨_, List.mem_map.2 ⟨z, by simp [Op.operands, Call.operands, Array.mem_toList_iff.1 hz], rfl⟩, hq⟩
def fpOp (op : Op) (ev : Operand → AV) : List Nat :=
  match op with
  | .move _ => []
  | .assign _ => []
  | op => (op.operands.toList.map ev).flatMap objs
theorem stK_pickF {op : Op} {ev : Operand → AV} (h : stK P op ev σ nid W) : ∃ v us, W v us ∧ ∀ (ev' : Operand → AV) (σ' : Heap), (∀ x ∈ op.operands.toList, ev' x = ev x) →
    (∀ q, q ∈ fpOp op ev ∨ q ∈ keys us → σ'.get q = σ.get q) → stK P op ev' σ' nid (fun v' us' => v' = v ∧ us' = us) := by
  cases op <;> first
  | exact stK_pick h
  | (rename_i x
     have h : W (ev x) [] := h
     refine ⟨ev x, [], h, fun ev' σ' hev _ => ?_⟩
     have e := hev x (by simp [Op.operands])
     exact ⟨e, rfl⟩)
end
end Go.Sg
namespace Go.Sg
open Go
def afterOn (o : Oper) : List Nat := (o.after.toList.filter fun e => Region.binds .any e).map (·.on)
def dedup : List Nat → List Nat
  | [] => []
  | x :: r => if (dedup r).contains x then dedup r else x :: dedup r
theorem mem_dedup {k : Nat} : ∀ {l : List Nat}, k ∈ dedup l → k ∈ l
  | [], h => by simp [dedup] at h
  | x :: r, h => by
    simp only [dedup] at h
    split at h
    · exact List.mem_cons_of_mem _ (mem_dedup h)
    · rcases List.mem_cons.1 h with h | h
      · subst h; simp
      · exact List.mem_cons_of_mem _ (mem_dedup h)
def ancs : List Oper → List (List Nat) → List (List Nat)
  | [], acc => acc
  | o :: r, acc => ancs r (acc ++ [dedup ((afterOn o).flatMap fun k => k :: acc.getD k [])])
def conf (ops : List Oper) (fps : List (List Nat × List Nat)) (i j : Nat) : Bool :=
  match ops[i]?, ops[j]? with
  | some x, some y => !(Oper.apart ops.toArray x y) || (fps.getD i ([], [])).2.any (fun q => (fps.getD j ([], [])).1.contains q || (fps.getD j ([], [])).2.contains q) ||
      (fps.getD j ([], [])).2.any (fun q => (fps.getD i ([], [])).1.contains q)
  | _, _ => false
def okR (ops : List Oper) (fps : List (List Nat × List Nat)) : Bool :=
  (List.range ops.length).all fun j => (match ops[j]? with | some o => (afterOn o).all fun k => decide (k < j) | none => true) &&
    (List.range j).all fun i => ((ancs ops []).getD j []).contains i || !conf ops fps i j
def okC (ops : List Oper) (fps : List (List Nat × List Nat)) : Bool :=
  (List.range ops.length).all fun j => (match ops[j]? with | some o => (afterOn o).all fun k => decide (k < j) | none => true) &&
    (List.range j).all fun i => ((ancs ops []).getD j []).contains i || (decide (j < fps.length) && !conf ops fps i j)
theorem okC_of {ops : List Oper} {fps : List (List Nat × List Nat)} (h : okR ops fps = true) (hl : fps.length = ops.length) : okC ops fps = true := by
  unfold okR at h
  unfold okC
  rw [List.all_eq_true] at *
  intro j hj
  have := h j hj
  rw [hl, decide_eq_true (List.mem_range.1 hj)]
  simpa using this
def okX (ops : List Oper) (fps : List (List Nat × List Nat)) : Bool :=
  (List.range ops.length).all fun j => (match ops[j]? with | some o => (afterOn o).all fun k => decide (k < j) | none => true) &&
    (List.range j).all fun i => ((ancs ops []).getD j []).contains i || (decide (j < fps.length) && !conf ops fps i j) || (decide (fps.length ≤ j) && !decide (i + 1 = fps.length))
def drwK {P : Program} (G : Gam P) (ops : List Oper) (nx yk : Nat) : List Oper → Nat → Env → Heap → List (List Nat × List Nat) → (St → Prop) → (PV → St → Prop) → Prop
  | [], i, env, hp, fps, K, _ => okR ops fps = true ∧ K ⟨env, hp, nx + 64 * i, yk⟩
  | o :: r, i, env, hp, fps, K, KP => guardK ops o.guard env fun b env' => match b with
    | true => (match yieldOf (evalO env') o.op with
      | some _ => okC ops fps = true ∧ seqK G ops (o :: r) ⟨env', hp, nx + 64 * i, yk⟩ K KP
      | none => xalt o.op (stK P o.op (evalO env') hp (nx + 64 * i) fun v us => drwK G ops nx yk r (i + 1) (env'.put o.dst v) (us ++ hp) (fps ++ [(fpOp o.op (evalO env'), keys us)]) K KP) (panK P o.op (evalO env') hp (nx + 64 * i) fun p us => okX ops (fps ++ [([], keys us)]) = true ∧ KP p ⟨[], [], nx + 64 * ops.length, yk⟩))
    | false => drwK G ops nx yk r (i + 1) (env'.put o.dst undefA) hp (fps ++ [([], [])]) K KP
structure Rec where
  ex : Bool
  fp : List Nat
  v : AV
  us : Heap
instance : Inhabited Rec := ⟨⟨false, [], .any, []⟩⟩
def dstOf (ops : List Oper) (k : Nat) : Option Nat := (ops[k]?).bind (·.dst)
def envF (ops : List Oper) (recs : Nat → Rec) (e0 : Nat → AV) (S : Nat → Bool) : Nat → Nat → AV
  | 0, t => e0 t
  | k + 1, t => if S k = true ∧ dstOf ops k = some t then (recs k).v else envF ops recs e0 S k t
def hpF (recs : Nat → Rec) (h0 : Nat → AObj) (S : Nat → Bool) : Nat → Nat → AObj
  | 0, q => h0 q
  | k + 1, q => if S k = true ∧ q ∈ keys (recs k).us then Heap.get (recs k).us q else hpF recs h0 S k q
section
variable {ops : List Oper} {recs recs' : Nat → Rec} {e0 : Nat → AV} {h0 : Nat → AObj} {S S' : Nat → Bool}
theorem envF_congr {n t : Nat} (hr : ∀ k, k < n → recs k = recs' k) (hS : ∀ k, k < n → S k = S' k) : envF ops recs e0 S n t = envF ops recs' e0 S' n t := by
  induction n with
  | zero => rfl
  | succ n ih => simp only [envF, hr n (by omega), hS n (by omega), ih (fun k hk => hr k (by omega)) (fun k hk => hS k (by omega))]
theorem hpF_congr {n q : Nat} (hr : ∀ k, k < n → recs k = recs' k) (hS : ∀ k, k < n → S k = S' k) : hpF recs h0 S n q = hpF recs' h0 S' n q := by
  induction n with
  | zero => rfl
  | succ n ih => simp only [hpF, hr n (by omega), hS n (by omega), ih (fun k hk => hr k (by omega)) (fun k hk => hS k (by omega))]
theorem envF_eq {j n t : Nat} (hj : j ≤ n) (h1 : ∀ i, i < j → dstOf ops i = some t → S i = true) (h2 : ∀ k, j ≤ k → k < n → dstOf ops k = some t → S k = false) :
    envF ops recs e0 S n t = envF ops recs e0 (fun _ => true) j t := by
  induction n with
  | zero => have : j = 0 := by omega
            subst this; rfl
  | succ n ih =>
    rcases Nat.lt_or_ge n j with h | h
    · have : j = n + 1 := by omega
      subst this
      clear ih h2 hj h
      generalize n + 1 = m at *
      induction m with
      | zero => rfl
      | succ m ih =>
        simp only [envF]
        by_cases e : dstOf ops m = some t
        · simp [e, h1 m (by omega) e]
        · simp [e, ih fun i hi he => h1 i (by omega) he]
    · simp only [envF]
      have : ¬ (S n = true ∧ dstOf ops n = some t) := fun ⟨h3, h4⟩ => by rw [h2 n h (by omega) h4] at h3; cases h3
      rw [if_neg this]
      exact ih h fun k hk hk' => h2 k hk (by omega)
theorem hpF_eq {j n q : Nat} (hj : j ≤ n) (h1 : ∀ i, i < j → q ∈ keys (recs i).us → S i = true) (h2 : ∀ k, j ≤ k → k < n → q ∈ keys (recs k).us → S k = false) :
    hpF recs h0 S n q = hpF recs h0 (fun _ => true) j q := by
  induction n with
  | zero => have : j = 0 := by omega
            subst this; rfl
  | succ n ih =>
    rcases Nat.lt_or_ge n j with h | h
    · have : j = n + 1 := by omega
      subst this
      clear ih h2 hj h
      generalize n + 1 = m at *
      induction m with
      | zero => rfl
      | succ m ih =>
        simp only [hpF]
        by_cases e : q ∈ keys (recs m).us
        · simp [e, h1 m (by omega) e]
        · simp [e, ih fun i hi he => h1 i (by omega) he]
    · simp only [hpF]
      have : ¬ (S n = true ∧ q ∈ keys (recs n).us) := fun ⟨h3, h4⟩ => by rw [h2 n h (by omega) h4] at h3; cases h3
      rw [if_neg this]
      exact ih h fun k hk hk' => h2 k hk (by omega)
theorem envF_set {j n t : Nat} (hj : j < n) (hS : ∀ k, S' k = if k = j then true else S k) (h2 : ∀ k, j < k → k < n → dstOf ops j = some t → dstOf ops k = some t → S k = false) :
    envF ops recs e0 S' n t = if dstOf ops j = some t then (recs j).v else envF ops recs e0 S n t := by
  induction n with
  | zero => omega
  | succ n ih =>
    simp only [envF]
    rcases Nat.lt_or_ge j n with h | h
    · have hn : S' n = S n := by rw [hS n, if_neg (by omega)]
      rw [ih h fun k hk hk' => h2 k hk (by omega), hn]
      by_cases e : dstOf ops j = some t <;> by_cases e' : dstOf ops n = some t
      · simp [h2 n h (by omega) e e']
      · simp [e']
      · simp [e]
      · simp [e']
    · have : j = n := by omega
      subst this
      rw [hS j, if_pos rfl]
      have hlow : envF ops recs e0 S' j t = envF ops recs e0 S j t := envF_congr (fun _ _ => rfl) fun k hk => by rw [hS k, if_neg (by omega)]
      by_cases e : dstOf ops j = some t
      · simp [e]
      · simp [e, hlow]
theorem hpF_set {j n q : Nat} (hj : j < n) (hS : ∀ k, S' k = if k = j then true else S k) (h2 : ∀ k, j < k → k < n → q ∈ keys (recs j).us → q ∈ keys (recs k).us → S k = false) :
    hpF recs h0 S' n q = if q ∈ keys (recs j).us then Heap.get (recs j).us q else hpF recs h0 S n q := by
  induction n with
  | zero => omega
  | succ n ih =>
    simp only [hpF]
    rcases Nat.lt_or_ge j n with h | h
    · have hn : S' n = S n := by rw [hS n, if_neg (by omega)]
      rw [ih h fun k hk hk' => h2 k hk (by omega), hn]
      by_cases e : q ∈ keys (recs j).us <;> by_cases e' : q ∈ keys (recs n).us
      · simp [h2 n h (by omega) e e']
      · simp [e']
      · simp [e]
      · simp [e']
    · have : j = n := by omega
      subst this
      rw [hS j, if_pos rfl]
      have hlow : hpF recs h0 S' j q = hpF recs h0 S j q := hpF_congr (fun _ _ => rfl) fun k hk => by rw [hS k, if_neg (by omega)]
      by_cases e : q ∈ keys (recs j).us
      · simp [e]
      · simp [e, hlow]
def Closed (ops : List Oper) (D : Nat → Prop) : Prop := ∀ j o, ops[j]? = some o → D j → ∀ k ∈ afterOn o, D k
theorem ancs_spec : ∀ (rest : List Oper) (acc : List (List Nat)) (base : Nat), (∀ j, ops[base + j]? = rest[j]?) → acc.length = base →
    (∀ (j : Nat) l o, acc[j]? = some l → ops[j]? = some o → ∀ D : Nat → Prop, Closed ops D → (∀ k ∈ afterOn o, D k) → ∀ k ∈ l, D k) →
    ∀ (j : Nat) l o, (ancs rest acc)[j]? = some l → ops[j]? = some o → ∀ D : Nat → Prop, Closed ops D → (∀ k ∈ afterOn o, D k) → ∀ k ∈ l, D k := by
  intro rest
  induction rest with
  | nil => intro acc base _ _ h; exact h
  | cons o r ih =>
    intro acc base hops hlen h
    refine ih _ (base + 1) (fun j => by have := hops (j + 1); rw [show base + 1 + j = base + (j + 1) by omega]; simpa using this) (by simp [hlen]) fun j l o' hj ho' D hD hk k hkl => ?_
    rw [List.getElem?_append] at hj
    split at hj
    · exact h j l o' hj ho' D hD hk k hkl
    · rename_i hge
      have hj0 : j = base := by
        have := (List.getElem?_eq_some_iff.1 hj).1
        simp at this; omega
      subst hj0
      rw [show j - acc.length = 0 by omega] at hj
      simp only [List.getElem?_cons_zero, Option.some.injEq] at hj
      subst hj
      have ho := hops 0
      simp only [Nat.add_zero, List.getElem?_cons_zero] at ho
      rw [ho'] at ho; injection ho with ho; subst ho
      have := mem_dedup hkl
      obtain ⟨m, hm, hkm⟩ := List.mem_flatMap.1 this
      rcases List.mem_cons.1 hkm with e | e
      · subst e; exact hk k hm
      · have hlt : m < acc.length := by
          rcases Nat.lt_or_ge m acc.length with h' | h'
          · exact h'
          · rw [List.getD_eq_getElem?_getD, List.getElem?_eq_none h'] at e; simp at e
        have hg : acc[m]? = some (acc.getD m []) := by rw [List.getD_eq_getElem?_getD, List.getElem?_eq_getElem hlt]; rfl
        have hm' : ∃ om, ops[m]? = some om := by
          have hjl := (List.getElem?_eq_some_iff.1 ho').1
          exact ⟨_, List.getElem?_eq_getElem (by omega)⟩
        obtain ⟨om, hom⟩ := hm'
        exact h m _ om hg hom D hD (hD m om hom (hk m hm)) k e
end
theorem mem_afterOn {o : Oper} {k : Nat} : k ∈ afterOn o ↔ ∃ e ∈ o.after, Region.binds .any e = true ∧ e.on = k := by
  simp only [afterOn, List.mem_map, List.mem_filter, Array.mem_toList_iff]
  exact ⟨fun ⟨e, ⟨h1, h2⟩, h3⟩ => ⟨e, h1, h2, h3⟩, fun ⟨e, h1, h2, h3⟩ => ⟨e, ⟨h1, h2⟩, h3⟩⟩
def TrOk (P : Program) (ops : List Oper) (nx : Nat) (recs : Nat → Rec) (e0 : Nat → AV) (h0 : Nat → AObj) (i : Nat) (o : Oper) : Prop :=
  ((recs i).ex = true ∧
    (o.guard = none ∨ ∃ j want t, o.guard = some (j, want) ∧ dstOf ops j = some t ∧ envF ops recs e0 (fun _ => true) i t = .p (.bool want)) ∧
    ∀ (env' : Env) (σ' : Heap), (∀ t ∈ o.looksAt ops.toArray, env'.get t = envF ops recs e0 (fun _ => true) i t) →
      (∀ q, q ∈ (recs i).fp ∨ q ∈ keys (recs i).us → Heap.get σ' q = hpF recs h0 (fun _ => true) i q) → stK P o.op (evalO env') σ' (nx + 64 * i) (fun v us => v = (recs i).v ∧ us = (recs i).us)) ∨
  ((recs i).ex = false ∧ (recs i).v = undefA ∧ (recs i).us = [] ∧ (recs i).fp = [] ∧
    ∃ j want t, o.guard = some (j, want) ∧ dstOf ops j = some t ∧ (envF ops recs e0 (fun _ => true) i t = .p (.bool !want) ∨ envF ops recs e0 (fun _ => true) i t = .p (.tup [])))
section
variable {P : Program} {ops : List Oper} {nx yk : Nat} {e0 : Nat → AV} {h0 : Nat → AObj} {K : St → Prop} {KP : PV → St → Prop}
theorem TrOk.congr {recs recs' : Nat → Rec} {i : Nat} {o : Oper} (h : TrOk P ops nx recs e0 h0 i o) (e : ∀ k, k ≤ i → recs' k = recs k) : TrOk P ops nx recs' e0 h0 i o := by
  have hE : ∀ t, envF ops recs' e0 (fun _ => true) i t = envF ops recs e0 (fun _ => true) i t := fun t => envF_congr (fun k hk => e k (by omega)) (fun _ _ => rfl)
  have hH : ∀ t, hpF recs' h0 (fun _ => true) i t = hpF recs h0 (fun _ => true) i t := fun t => hpF_congr (fun k hk => e k (by omega)) (fun _ _ => rfl)
  unfold TrOk at *
  simp only [hE, hH, e i (Nat.le_refl _)]
  exact h
theorem guard_look {o : Oper} {j t : Nat} {want : Bool} (hg : o.guard = some (j, want)) (hd : dstOf ops j = some t) : t ∈ o.looksAt ops.toArray := by
  unfold Oper.looksAt
  rw [hg]
  simp only [List.mem_append]
  right
  have : (ops.toArray[j]?).bind (·.dst) = some t := by simpa [dstOf] using hd
  rw [this]; simp
theorem evalO_agree {env env' : Env} {o : Oper} (h : ∀ t ∈ o.looksAt ops.toArray, env'.get t = env.get t) : ∀ x ∈ o.op.operands.toList, evalO env' x = evalO env x := by
  intro x hx
  cases x with
  | tmp t =>
    refine h t ?_
    unfold Oper.looksAt
    simp only [List.mem_append, List.mem_filterMap]
    exact .inl ⟨.tmp t, hx, rfl⟩
  | const v => rfl
  | global g => rfl
  | func f => rfl
def Cut (P : Program) (G : Gam P) (ops : List Oper) (nx yk : Nat) (e0 : Nat → AV) (h0 : Nat → AObj) (K : St → Prop) (KP : PV → St → Prop) : Prop :=
  ∃ (m : Nat) (recs' : Nat → Rec) (env' : Env) (hp' : Heap), m ≤ ops.length ∧
      (∀ t, env'.get t = envF ops recs' e0 (fun _ => true) m t) ∧ (∀ q, hp'.get q = hpF recs' h0 (fun _ => true) m q) ∧
      (∀ k o, k < m → ops[k]? = some o → TrOk P ops nx recs' e0 h0 k o) ∧
      ((okC ops ((List.range m).map (fun k => ((recs' k).fp, keys (recs' k).us))) = true ∧ seqK G ops (ops.drop m) ⟨env', hp', nx + 64 * m, yk⟩ K KP) ∨
       ∃ (o : Oper) (p : PV) (us : Heap), ops[m]? = some o ∧
        (o.guard = none ∨ ∃ j want t, o.guard = some (j, want) ∧ dstOf ops j = some t ∧ envF ops recs' e0 (fun _ => true) m t = .p (.bool want)) ∧
        okX ops ((List.range m).map (fun k => ((recs' k).fp, keys (recs' k).us)) ++ [([], keys us)]) = true ∧ KP p ⟨[], [], nx + 64 * ops.length, yk⟩ ∧
        ∀ (env'' : Env) (σ'' : Heap), (∀ t ∈ o.looksAt ops.toArray, env''.get t = envF ops recs' e0 (fun _ => true) m t) → (∀ q, q ∈ keys us → Heap.get σ'' q = hpF recs' h0 (fun _ => true) m q) →
          panK P o.op (evalO env'') σ'' (nx + 64 * m) (fun p' us' => p' = p ∧ us' = us))
theorem panK_pick {op : Op} {ev : Operand → AV} {σ : Heap} {nid : Nat} {W : PV → Heap → Prop} (h : panK P op ev σ nid W) : ∃ p us, W p us ∧ ∀ (ev' : Operand → AV) (σ' : Heap), (∀ x ∈ op.operands.toList, ev' x = ev x) →
    (∀ q, q ∈ keys us → σ'.get q = σ.get q) → panK P op ev' σ' nid (fun p' us' => p' = p ∧ us' = us) := by
  unfold panK at *
  cases op <;> try exact h.elim
  rename_i c
  obtain ⟨callee, args, ats⟩ := c
  cases callee with
  | builtin b => exact h.elim
  | invoke r m => exact h.elim
  | value x =>
    simp only at h ⊢
    obtain ⟨f, as, as0, σ0, ρ, p, hc, hent, has, hnd, hlive, hsame, hdead, hcall, hK⟩ := h.h
    refine ⟨p, _, hK, fun ev' σ' hev he => ?_⟩
    have he' : ∀ o ∈ ρ, σ'.get o = σ.get o := fun o ho => he o (by simp only [keys, List.map_map, List.mem_map]; exact ⟨o, ho, rfl⟩)
    rw [hev x (by simp [Op.operands, Call.operands]), map_agree (l := args.toList) (fun y hy => hev y (by simp [Op.operands, Call.operands, Array.mem_toList_iff.1 hy]))]
    refine ⟨f, as, as0, σ0, ρ, p, hc, hent, has, hnd, fun o ho => by rw [he' o ho]; exact hlive o ho, fun i hi => ?_, hdead, hcall, rfl, rfl⟩
    have hm : ρ.getD i 0 ∈ ρ := by rw [List.getD_eq_getElem?_getD, List.getElem?_eq_getElem hi]; exact List.getElem_mem hi
    rw [he' _ hm]; exact hsame i hi
theorem drwK_trace {G : Gam P} : ∀ (rest : List Oper) (i : Nat) (env : Env) (hp : Heap) (recs : Nat → Rec) (fps : List (List Nat × List Nat)), (∀ j, ops[i + j]? = rest[j]?) → i + rest.length = ops.length →
    (∀ t, env.get t = envF ops recs e0 (fun _ => true) i t) → (∀ q, hp.get q = hpF recs h0 (fun _ => true) i q) → (∀ k o, k < i → ops[k]? = some o → TrOk P ops nx recs e0 h0 k o) →
    fps = (List.range i).map (fun k => ((recs k).fp, keys (recs k).us)) → drwK G ops nx yk rest i env hp fps K KP →
    Cut P G ops nx yk e0 h0 K KP := by
  intro rest
  induction rest with
  | nil =>
    intro i env hp recs fps hops hlen hE hH hT hf h
    simp at hlen
    subst hlen
    simp only [drwK] at h
    exact ⟨ops.length, recs, env, hp, Nat.le_refl _, hE, hH, fun k o hk hk' => hT k o hk hk', .inl ⟨by rw [← hf]; exact okC_of h.1 (by rw [hf]; simp), by rw [List.drop_length]; exact h.2⟩⟩
  | cons o r ih =>
    intro i env hp recs fps hops hlen hE hH hT hf h
    simp only [drwK] at h
    have hoi : ops[i]? = some o := by simpa using hops 0
    have hops' : ∀ j, ops[i + 1 + j]? = r[j]? := fun j => by have := hops (j + 1); rw [show i + 1 + j = i + (j + 1) by omega]; simpa using this
    have hlen' : i + 1 + r.length = ops.length := by simp at hlen; omega
    have next : ∀ (x : Rec) (env1 : Env), (∀ t, env1.get t = env.get t) →
        (TrOk P ops nx (fun k => if k = i then x else recs k) e0 h0 i o) →
        drwK G ops nx yk r (i + 1) (env1.put o.dst x.v) (x.us ++ hp) (fps ++ [(x.fp, keys x.us)]) K KP →
        Cut P G ops nx yk e0 h0 K KP := by
      intro x env1 h1 h2 h3
      have hlow : ∀ t, envF ops (fun k => if k = i then x else recs k) e0 (fun _ => true) i t = envF ops recs e0 (fun _ => true) i t := fun t => envF_congr (fun k hk => if_neg (by omega)) (fun _ _ => rfl)
      have hlow2 : ∀ t, hpF (fun k => if k = i then x else recs k) h0 (fun _ => true) i t = hpF recs h0 (fun _ => true) i t := fun t => hpF_congr (fun k hk => if_neg (by omega)) (fun _ _ => rfl)
      refine ih (i + 1) _ _ (fun k => if k = i then x else recs k) _ hops' hlen' (fun t => ?_) (fun q => ?_) (fun k o' hk hk' => ?_) ?_ h3
      · simp only [envF, hlow, if_true, true_and, dstOf, hoi, Option.bind_some]
        cases hd : o.dst with
        | none => simp [Env.put, h1, hE]
        | some d =>
          simp only [Env.put, Env.get, h1, hE, Option.some.injEq]
      · simp only [hpF, hlow2, if_true, true_and]
        rw [get_append, hH]
      · rcases Nat.lt_or_ge k i with hlt | hge
        · exact (hT k o' hlt hk').congr fun m hm => if_neg (by omega)
        · have : k = i := by omega
          subst this
          rw [hoi] at hk'; injection hk' with hk'; subst hk'
          exact h2
      · rw [hf, List.range_succ, List.map_append]
        simp only [List.map_cons, List.map_nil, if_true]
        congr 1
        apply List.map_congr_left
        intro k hk
        have : k ≠ i := by have := List.mem_range.1 hk; omega
        simp [this]
    have run : ∀ env1 : Env, (∀ t, env1.get t = env.get t) →
        (o.guard = none ∨ ∃ j want t, o.guard = some (j, want) ∧ dstOf ops j = some t ∧ envF ops recs e0 (fun _ => true) i t = .p (.bool want)) →
        (match yieldOf (evalO env1) o.op with
          | some _ => okC ops fps = true ∧ seqK G ops (o :: r) ⟨env1, hp, nx + 64 * i, yk⟩ K KP
          | none => xalt o.op (stK P o.op (evalO env1) hp (nx + 64 * i) fun v us => drwK G ops nx yk r (i + 1) (env1.put o.dst v) (us ++ hp) (fps ++ [(fpOp o.op (evalO env1), keys us)]) K KP) (panK P o.op (evalO env1) hp (nx + 64 * i) fun p us => okX ops (fps ++ [([], keys us)]) = true ∧ KP p ⟨[], [], nx + 64 * ops.length, yk⟩)) →
        Cut P G ops nx yk e0 h0 K KP := by
      intro env1 h1 hg hst
      cases hy : yieldOf (evalO env1) o.op with
      | some y =>
        rw [hy] at hst
        refine ⟨i, recs, env1, hp, by simp at hlen; omega, fun t => by rw [h1, hE], hH, hT, .inl ⟨by rw [← hf]; exact hst.1, ?_⟩⟩
        have : ops.drop i = o :: r := by
          refine List.ext_getElem? fun j => ?_
          rw [List.getElem?_drop]; exact hops j
        rw [this]; exact hst.2
      | none =>
      rw [hy] at hst
      simp only at hst
      rcases xalt_or hst with hst | hst
      rotate_left
      · obtain ⟨p, us, ⟨k1, k1'⟩, k2⟩ := panK_pick hst
        refine ⟨i, recs, env1, hp, by simp at hlen; omega, fun t => by rw [h1, hE], hH, hT, .inr ⟨o, p, us, hoi, hg, by rw [← hf]; exact k1, k1', fun env' σ' he hh => ?_⟩⟩
        exact k2 (evalO env') σ' (evalO_agree fun t ht => by rw [he t ht, h1, hE]) fun q hq => by rw [hh q hq, hH]
      obtain ⟨v, us, k1, k2⟩ := stK_pickF hst
      refine next ⟨true, fpOp o.op (evalO env1), v, us⟩ env1 h1 (.inl ?_) k1
      have hlow : ∀ t, envF ops (fun k => if k = i then (⟨true, fpOp o.op (evalO env1), v, us⟩ : Rec) else recs k) e0 (fun _ => true) i t = envF ops recs e0 (fun _ => true) i t :=
        fun t => envF_congr (fun k hk => if_neg (by omega)) (fun _ _ => rfl)
      have hlow2 : ∀ t, hpF (fun k => if k = i then (⟨true, fpOp o.op (evalO env1), v, us⟩ : Rec) else recs k) h0 (fun _ => true) i t = hpF recs h0 (fun _ => true) i t :=
        fun t => hpF_congr (fun k hk => if_neg (by omega)) (fun _ _ => rfl)
      simp only [if_true, hlow, hlow2, true_and]
      refine ⟨hg, fun env' σ' he hh => k2 (evalO env') σ' (evalO_agree fun t ht => by rw [he t ht, h1, hE]) fun q hq => by rw [hh q hq, hH]⟩
    unfold guardK at h
    cases hg : o.guard with
    | none => rw [hg] at h; exact run env (fun _ => rfl) (.inl hg) h
    | some g =>
      obtain ⟨j, want⟩ := g
      rw [hg] at h
      simp only at h
      cases hd : (ops[j]?).bind (·.dst) with
      | none => rw [hd] at h; exact h.elim
      | some t =>
        rw [hd] at h
        simp only at h
        have hdt : dstOf ops j = some t := hd
        have hlowg : ∀ (x : Rec), envF ops (fun k => if k = i then x else recs k) e0 (fun _ => true) i t = envF ops recs e0 (fun _ => true) i t := fun x => envF_congr (fun k hk => if_neg (by omega)) (fun _ _ => rfl)
        split at h
        · rename_i b hb
          have env1 : ∀ c, b = c → ∀ u, Env.get ((t, .p (.bool c)) :: env) u = env.get u := fun c hc u => by
            simp only [Env.get]
            split
            · rename_i e; rw [← e, hb, hc]
            · rfl
          by_cases hw : b = want
          · refine run ((t, .p (.bool want)) :: env) (env1 want hw) (.inr ⟨j, want, t, hg, hdt, ?_⟩) (h.1 hw)
            rw [← hE, hb, hw]
          · have hb' : b = !want := by cases b <;> cases want <;> simp_all
            refine next ⟨false, [], undefA, []⟩ ((t, .p (.bool !want)) :: env) (env1 _ hb') (.inr ?_) (h.2 hw)
            simp only [if_true, true_and]
            exact ⟨j, want, t, hg, hdt, .inl (by rw [hlowg, ← hE, hb, hb'])⟩
        · rename_i hb
          refine next ⟨false, [], undefA, []⟩ env (fun _ => rfl) (.inr ?_) h
          simp only [if_true, true_and]
          exact ⟨j, want, t, hg, hdt, .inr (by rw [hlowg, ← hE, hb])⟩
        · exact h.elim
end
end Go.Sg
namespace Go.Sg
open Go
section
variable {P : Program} {N : Nat} {ops : List Oper} {nx : Nat} {e0 : Nat → AV} {h0 : Nat → AObj} {recs : Nat → Rec}
def lst (listed : Array Bool) (k : Nat) : Bool := listed.getD k false
theorem lst_set {listed : Array Bool} {j : Nat} (hj : j < listed.size) (k : Nat) : lst (listed.setIfInBounds j true) k = if k = j then true else lst listed k := by
  unfold lst
  split
  · rename_i e; subst e; simp [hj]
  · rename_i e; exact getD_set_ne false (fun h => e h.symm)
theorem okC_spec {fps : List (List Nat × List Nat)} (h : okC ops fps = true) :
    (∀ j o, ops[j]? = some o → ∀ k ∈ afterOn o, k < j) ∧ ∀ i j, i < j → j < ops.length → (fps.length ≤ j ∨ conf ops fps i j = true) → ∀ (o : Oper), ops[j]? = some o → ∀ D : Nat → Prop, Closed ops D → (∀ k ∈ afterOn o, D k) → D i := by
  unfold okC at h
  simp only [List.all_eq_true, List.mem_range, Bool.and_eq_true] at h
  refine ⟨fun j o ho k hk => ?_, fun i j hij hj hc o ho D hD hk => ?_⟩
  · have hj := (List.getElem?_eq_some_iff.1 ho).1
    have := (h j hj).1
    rw [ho] at this
    simpa using List.all_eq_true.1 this k hk
  · have := (h j hj).2 i hij
    have e : (decide (j < fps.length) && !conf ops fps i j) = false := by
      rcases hc with hc | hc
      · rw [decide_eq_false (by omega)]; rfl
      · rw [hc]; simp
    rw [e] at this
    simp only [Bool.or_false] at this
    have hlen : j < (ancs ops []).length := by
      rcases Nat.lt_or_ge j (ancs ops []).length with h' | h'
      · exact h'
      · rw [List.getD_eq_getElem?_getD, List.getElem?_eq_none h'] at this; simp at this
    have hg : (ancs ops [])[j]? = some ((ancs ops []).getD j []) := by rw [List.getD_eq_getElem?_getD, List.getElem?_eq_getElem hlen]; rfl
    exact ancs_spec ops [] 0 (by simp) rfl (by simp) j _ o hg ho D hD hk i (by simpa using this)
structure InvD (P : Program) (N : Nat) (ops : List Oper) (nx : Nat) (e0 : Nat → AV) (h0 : Nat → AObj) (recs : Nat → Rec) (m : Nat) (listed : Array Bool) (F : Nat → Prop) (μ : Num) (a : Act) (w : World) : Prop where
  sz : listed.size = ops.length
  dc : Closed ops (fun k => lst listed k = true)
  lo : ∀ k, m ≤ k → lst listed k = false
  sim : ∃ hp : Heap, SimH F μ hp w ∧ ∀ q, hp.get q = hpF recs h0 (lst listed) m q
  env : ∃ en : Env, (∀ t, RV F μ w (a.tmps[t]?.getD undef) (en.get t)) ∧ ∀ t, en.get t = envF ops recs e0 (lst listed) m t
  size : a.tmps.size = N
  fresh : ∀ o, nx + 64 * m ≤ o → μ o = none
  win : ∀ j, j < m → lst listed j = false → ∀ o, nx + 64 * j ≤ o → o < nx + 64 * j + 64 → μ o = none
def unl (n : Nat) (listed : Array Bool) : Nat := ((List.range n).filter fun j => !lst listed j).length
theorem unl_lt {n j : Nat} {listed : Array Bool} (hj : j < n) (hs : j < listed.size) (h : lst listed j = false) : unl n (listed.setIfInBounds j true) < unl n listed := by
  unfold unl
  have e : (List.range n).filter (fun k => !lst (listed.setIfInBounds j true) k) = ((List.range n).filter fun k => !lst listed k).filter (fun k => decide (k ≠ j)) := by
    rw [List.filter_filter]
    apply List.filter_congr
    intro k _
    rw [lst_set hs]
    by_cases e : k = j <;> simp [e]
  rw [e]
  exact List.length_filter_lt_length_iff_exists.2 ⟨j, by simp [hj, h], by simp⟩
theorem unl_zero {n : Nat} {listed : Array Bool} (h : unl n listed = 0) (j : Nat) (hj : j < n) : lst listed j = true := by
  unfold unl at h
  have := List.length_eq_zero_iff.1 h
  cases hl : lst listed j with
  | true => rfl
  | false =>
    have hm : j ∈ (List.range n).filter fun j => !lst listed j := by simp [hj, hl]
    rw [this] at hm; simp at hm
theorem conf_tmp {i j t : Nat} {x y : Oper} {fps : List (List Nat × List Nat)} (hx : ops[i]? = some x) (hy : ops[j]? = some y) (h : (x.dst = some t ∧ (t ∈ y.looksAt ops.toArray ∨ y.dst = some t)) ∨ (y.dst = some t ∧ t ∈ x.looksAt ops.toArray)) :
    conf ops fps i j = true := by
  unfold conf
  rw [hx, hy]
  simp only [Bool.or_eq_true, Bool.not_eq_true']
  left; left
  cases ha : Oper.apart ops.toArray x y with
  | false => rfl
  | true =>
    obtain ⟨h1, h2, h3⟩ := Oper.apart_spec ha
    rcases h with ⟨hd, h | h⟩ | ⟨hd, h⟩
    · exact absurd h (h1 t hd)
    · exact absurd h (h2 t hd)
    · exact absurd h (h3 t hd)
theorem conf_obj {i j q n : Nat} {x y : Oper} (hx : ops[i]? = some x) (hy : ops[j]? = some y) (hi : i < n) (hj : j < n)
    (h : (q ∈ keys (recs i).us ∧ (q ∈ (recs j).fp ∨ q ∈ keys (recs j).us)) ∨ (q ∈ keys (recs j).us ∧ q ∈ (recs i).fp)) :
    conf ops ((List.range n).map (fun k => ((recs k).fp, keys (recs k).us))) i j = true := by
  unfold conf
  rw [hx, hy]
  have hg : ∀ k, k < n → ((List.range n).map (fun k => ((recs k).fp, keys (recs k).us))).getD k ([], []) = ((recs k).fp, keys (recs k).us) := fun k hk => by
    rw [List.getD_eq_getElem?_getD, List.getElem?_map, List.getElem?_range hk]; rfl
  simp only [hg i hi, hg j hj, Bool.or_eq_true, List.any_eq_true, List.contains_eq_mem, decide_eq_true_eq]
  rcases h with ⟨h1, h⟩ | ⟨h1, h2⟩
  · exact .inl (.inr ⟨q, h1, h⟩)
  · exact .inr ⟨q, h1, h2⟩
theorem ready_lst (listed : Array Bool) (j : Nat) (hs : listed.size = ops.length) : (j ∈ Region.ready .any ops.toArray listed ↔ j < ops.length ∧ lst listed j = false ∧ ∃ o, ops[j]? = some o ∧ ∀ k ∈ afterOn o, lst listed k = true) := by
    rw [mem_ready]
    constructor
    · rintro ⟨h1, o, h2, h3⟩
      have h2' : ops[j]? = some o := by simpa using h2
      have hj := (List.getElem?_eq_some_iff.1 h2').1
      refine ⟨hj, ?_, o, h2', fun k hk => ?_⟩
      · unfold lst; rw [Array.getD_eq_getD_getElem?, Array.getElem?_eq_getElem (by omega)] at h1 ⊢; exact h1
      · obtain ⟨e, he, hb, rfl⟩ := mem_afterOn.1 hk
        exact h3 e he hb
    · rintro ⟨hj, h1, o, h2, h3⟩
      refine ⟨?_, o, by simpa using h2, fun e he hb => h3 e.on (mem_afterOn.2 ⟨e, he, hb, rfl⟩)⟩
      unfold lst at h1; rw [Array.getD_eq_getD_getElem?, Array.getElem?_eq_getElem (by omega)] at h1 ⊢; exact h1
theorem drwK_core {ro : Option Nat} {n : Nat} {Q : Exit → Act → World → Prop} {w0 : World} {F0 : Nat → Prop} {μ0 : Num} {a0 : Act} (hok : okOps N ops = true) {m : Nat} (hm : m ≤ ops.length)
    (hlow : ∀ j o, ops[j]? = some o → ∀ k ∈ afterOn o, k < j)
    (hanc : ∀ i j, i < j → j < m → conf ops ((List.range m).map (fun k => ((recs k).fp, keys (recs k).us))) i j = true → ∀ (o : Oper), ops[j]? = some o → ∀ D : Nat → Prop, Closed ops D → (∀ k ∈ afterOn o, D k) → D i)
    (hT : ∀ k o, k < m → ops[k]? = some o → TrOk P ops nx recs e0 h0 k o)
    (done : ∀ (fuel : Nat) (listed : Array Bool) (F : Nat → Prop) (μ : Num) (a : Act) (w : World), ops.length - m ≤ fuel → (∀ j, j < m → lst listed j = true) → Step F0 μ0 w0 F μ w → InvD P N ops nx e0 h0 recs m listed F μ a w → a.defers = a0.defers → wpAnyIn (fc ro) n P .any ops.toArray Q fuel listed a w)
    (beyond : ∀ (fuel : Nat) (listed : Array Bool) (F : Nat → Prop) (μ : Num) (a : Act) (w : World) (j : Nat) (o : Oper), m ≤ j → j < ops.length → lst listed j = false → ops[j]? = some o → (∀ k ∈ afterOn o, lst listed k = true) → (∃ j, j < m ∧ lst listed j = false) →
      Step F0 μ0 w0 F μ w → InvD P N ops nx e0 h0 recs m listed F μ a w → a.defers = a0.defers → wpOpIn (fc ro) n P ops.toArray Q j (wpAnyIn (fc ro) n P .any ops.toArray Q fuel (listed.setIfInBounds j true)) a w) :
    ∀ (fuel : Nat) (listed : Array Bool) (F : Nat → Prop) (μ : Num) (a : Act) (w : World), unl m listed + (ops.length - m) ≤ fuel → Step F0 μ0 w0 F μ w → InvD P N ops nx e0 h0 recs m listed F μ a w → a.defers = a0.defers →
      wpAnyIn (fc ro) n P .any ops.toArray Q fuel listed a w := by
  intro fuel
  induction fuel with
  | zero =>
    intro listed F μ a w hu hst hI hdf
    exact done 0 listed F μ a w (by omega) (unl_zero (by omega)) hst hI hdf
  | succ fuel ih =>
    intro listed F μ a w hu hst hI hdf
    rcases Nat.eq_zero_or_pos (unl m listed) with hz | hpos
    · exact done (fuel + 1) listed F μ a w (by omega) (unl_zero hz) hst hI hdf
    have hex : ∃ j, j < m ∧ lst listed j = false := by
      rcases Classical.em (∃ j, j < m ∧ lst listed j = false) with h | h
      · exact h
      · have : unl m listed = 0 := by
          unfold unl
          rw [List.length_eq_zero_iff, List.filter_eq_nil_iff]
          intro j hj
          have hj := List.mem_range.1 hj
          cases hl : lst listed j with
          | true => simp
          | false => exact absurd ⟨j, hj, hl⟩ h
        omega
    refine ⟨fun hnil => ?_, fun j hj => ?_⟩
    · exfalso
      obtain ⟨j0, hj0, hl0⟩ := hex
      have all : ∀ j, j < m → lst listed j = true := fun j => by
        induction j using Nat.strongRecOn with
        | _ j ihj =>
          intro hj
          cases hl : lst listed j with
          | true => rfl
          | false =>
            have hoj : ops[j]? = some (ops[j]'(by omega)) := List.getElem?_eq_getElem _
            have : j ∈ Region.ready .any ops.toArray listed := (ready_lst listed j hI.sz).2 ⟨by omega, hl, _, hoj, fun k hk => ihj k (hlow j _ hoj k hk) (by have := hlow j _ hoj k hk; omega)⟩
            rw [hnil] at this; simp at this
      rw [all j0 hj0] at hl0; cases hl0
    · obtain ⟨hjl', hun, o, ho, haf⟩ := (ready_lst listed j hI.sz).1 hj
      rcases Nat.lt_or_ge j m with hjl | hge
      rotate_left
      · exact beyond fuel listed F μ a w j o hge hjl' hun ho haf hex hst hI hdf
      have hjs : j < listed.size := by rw [hI.sz]; exact hjl'
      have hgo : ∀ k, k < m → ∃ x, ops[k]? = some x := fun k hk => ⟨_, List.getElem?_eq_getElem (by omega)⟩
      have fA : ∀ i, i < j → conf ops ((List.range m).map (fun k => ((recs k).fp, keys (recs k).us))) i j = true → lst listed i = true := fun i hij hc => hanc i j hij hjl hc o ho _ hI.dc haf
      have fB : ∀ k, j < k → k < m → conf ops ((List.range m).map (fun k => ((recs k).fp, keys (recs k).us))) j k = true → lst listed k = false := fun k hjk hk hc => by
        obtain ⟨x, hx⟩ := hgo k hk
        cases hl : lst listed k with
        | false => rfl
        | true =>
          have := hanc j k hjk hk hc x hx _ hI.dc (hI.dc k x hx hl)
          rw [hun] at this; cases this
      have dst_of : ∀ {k t}, dstOf ops k = some t → ∃ x, ops[k]? = some x ∧ x.dst = some t := fun {k t} h => by
        unfold dstOf at h
        obtain ⟨x, h1, h2⟩ := Option.bind_eq_some_iff.1 h
        exact ⟨x, h1, h2⟩
      have hE : ∀ t ∈ o.looksAt ops.toArray, envF ops recs e0 (lst listed) m t = envF ops recs e0 (fun _ => true) j t := fun t ht => by
        refine envF_eq (Nat.le_of_lt hjl) (fun i hij hd => ?_) (fun k hjk hk hd => ?_)
        · obtain ⟨x, h1, h2⟩ := dst_of hd
          exact fA i hij (conf_tmp h1 ho (.inl ⟨h2, .inl ht⟩))
        · rcases Nat.lt_or_ge j k with h | h
          · obtain ⟨x, h1, h2⟩ := dst_of hd
            exact fB k h hk (conf_tmp ho h1 (.inr ⟨h2, ht⟩))
          · have : k = j := by omega
            subst this; exact hun
      have hH : ∀ q, q ∈ (recs j).fp ∨ q ∈ keys (recs j).us → hpF recs h0 (lst listed) m q = hpF recs h0 (fun _ => true) j q := fun q hq => by
        refine hpF_eq (Nat.le_of_lt hjl) (fun i hij hd => ?_) (fun k hjk hk hd => ?_)
        · obtain ⟨x, h1⟩ := hgo i (by omega)
          exact fA i hij (conf_obj h1 ho (by omega) hjl (.inl ⟨hd, hq⟩))
        · rcases Nat.lt_or_ge j k with h | h
          · obtain ⟨x, h1⟩ := hgo k hk
            refine fB k h hk (conf_obj (q := q) ho h1 hjl hk ?_)
            rcases hq with hq | hq
            · exact .inr ⟨hd, hq⟩
            · exact .inl ⟨hq, .inr hd⟩
          · have : k = j := by omega
            subst this; exact hun
      have hdst : ∀ d, o.dst = some d → d < N := okOps_spec hok o (List.mem_of_getElem? ho)
      have hdf' : ∀ v, (a.put o.dst v).defers = a0.defers := fun v => by rw [← hdf]; cases o.dst <;> rfl
      obtain ⟨en, e1, e2⟩ := hI.env
      obtain ⟨hp, s1, s2⟩ := hI.sim
      have go : ∀ (v : Value) (w' : World) (F' : Nat → Prop) (μ' : Num), Step F μ w F' μ' w' → SimH F' μ' ((recs j).us ++ hp) w' → RV F' μ' w' v (recs j).v →
          (∀ q, q < nx + 64 * j ∨ nx + 64 * j + 64 ≤ q → μ' q = μ q) → wpAnyIn (fc ro) n P .any ops.toArray Q fuel (listed.setIfInBounds j true) (a.put o.dst v) w' := by
        intro v w' F' μ' k1 k2 k3 k4
        refine ih _ F' μ' _ w' ?_ (hst.trans k1) ?_ (hdf' v)
        · have := unl_lt hjl hjs hun; omega
        · refine ⟨by simp [hI.sz], fun k x hx hk m' hm' => ?_, fun k hk => ?_, ⟨_, k2, fun q => ?_⟩, ⟨en.put o.dst (recs j).v, put_env (fun t => (e1 t).step k1) (fun d hd => by rw [hI.size]; exact hdst d hd) k3, fun t => ?_⟩,
            by cases o.dst <;> simp [Act.put, hI.size], fun q hq => ?_, fun k hk hl q h1 h2 => ?_⟩
          · have hk : lst (listed.setIfInBounds j true) k = true := hk
            show lst (listed.setIfInBounds j true) m' = true
            rw [lst_set hjs] at hk ⊢
            by_cases e : m' = j
            · rw [if_pos e]
            · rw [if_neg e]
              by_cases e' : k = j
              · subst e'; rw [ho] at hx; injection hx with hx; subst hx; exact haf m' hm'
              · rw [if_neg e'] at hk; exact hI.dc k x hx hk m' hm'
          · rw [lst_set hjs, if_neg (by omega)]; exact hI.lo k hk
          · rw [get_append, s2 q, hpF_set hjl (lst_set hjs) fun k hjk hk h1 h2 => ?_]
            obtain ⟨x, hx⟩ := hgo k hk
            exact fB k hjk hk (conf_obj ho hx hjl hk (.inl ⟨h1, .inr h2⟩))
          · rw [envF_set hjl (lst_set hjs) fun k hjk hk h1 h2 => ?_, ← e2]
            · have hdj : dstOf ops j = o.dst := by simp [dstOf, ho]
              rw [hdj]
              cases o.dst with
              | none => simp [Env.put]
              | some d => simp only [Env.put, Env.get, Option.some.injEq]
            · obtain ⟨x, hx, hxd⟩ := dst_of h2
              obtain ⟨y, hy, hyd⟩ := dst_of h1
              rw [ho] at hy; injection hy with hy; subst hy
              exact fB k hjk hk (conf_tmp ho hx (.inl ⟨hyd, .inr hxd⟩))
          · rw [k4 q (by omega)]; exact hI.fresh q hq
          · rw [lst_set hjs] at hl
            by_cases e : k = j
            · rw [if_pos e] at hl; cases hl
            · rw [if_neg e] at hl
              rw [k4 q (by omega)]; exact hI.win k hk hl q h1 h2
      have yv : ∀ {g : Nat} {want : Bool} {t : Nat}, o.guard = some (g, want) → dstOf ops g = some t → ∃ v, yielded ops.toArray a.tmps g = (match v with | .bool b => some b | _ => none) ∧ RV F μ w v (envF ops recs e0 (fun _ => true) j t) := by
        intro g want t hg hd
        obtain ⟨x, hx, hxd⟩ := dst_of hd
        have hlt : t < a.tmps.size := by rw [hI.size]; exact okOps_spec hok x (List.mem_of_getElem? hx) t hxd
        refine ⟨a.tmps[t]?.getD undef, ?_, ?_⟩
        · unfold yielded
          have : (ops.toArray[g]?).bind (·.dst) = some t := by simpa [dstOf] using hd
          rw [this]
          simp only [Option.bind_some]
          rw [Array.getElem?_eq_getElem hlt, Option.getD_some]
          cases a.tmps[t] <;> rfl
        · rw [← hE t (guard_look hg hd), ← e2]; exact e1 t
      unfold wpOpIn
      have ho' : ops.toArray[j]? = some o := by simpa using ho
      simp only [ho']
      rcases hT j o hjl ho with ⟨hex, hg, hst'⟩ | ⟨hex, hv, hus, hfp, g, want, t, hg, hd, hval⟩
      · have hw : Region.wanted o (yielded ops.toArray a.tmps) = true := by
          unfold Region.wanted
          rcases hg with hg | ⟨g, want, t, hg, hd, hval⟩
          · rw [hg]
          · rw [hg]
            obtain ⟨v, y1, y2⟩ := yv hg hd
            rw [hval] at y2
            have := pbool_inv y2
            subst this
            simp [y1]
        rw [hw]
        simp only [if_true]
        have hst'' := hst' en hp (fun t ht => by rw [e2, hE t ht]) (fun q hq => by rw [s2, hH q hq])
        refine stK_sound s1 (fun q h1 h2 => hI.win j hjl hun q h1 h2) (eval_rv e1) hst'' fun av us v w' F' μ' k1 k2 k3 k4 k5 => ?_
        obtain ⟨rfl, rfl⟩ := k1
        exact go v w' F' μ' k2 k3 k4 k5
      · have hw : Region.wanted o (yielded ops.toArray a.tmps) = false := by
          unfold Region.wanted
          rw [hg]
          obtain ⟨v, y1, y2⟩ := yv hg hd
          rcases hval with hval | hval
          · rw [hval] at y2
            have := pbool_inv y2
            subst this
            simp [y1]
          · rw [hval] at y2
            have := tup_nil_inv y2
            subst this
            simp [y1]
        rw [hw]
        simp only [Bool.false_eq_true, if_false]
        refine ⟨about_any o a w, go undef w F μ (Step.refl F μ w) (by rw [hus]; exact s1) (by rw [hv]; exact undef_rv) (fun _ _ => rfl)⟩
theorem drwK_any {ro : Option Nat} {n : Nat} {Q : Exit → Act → World → Prop} {w0 : World} {F0 : Nat → Prop} {μ0 : Num} {a0 : Act} (hok : okOps N ops = true) {m : Nat} (hm : m ≤ ops.length)
    (hR : okC ops ((List.range m).map (fun k => ((recs k).fp, keys (recs k).us))) = true) (hT : ∀ k o, k < m → ops[k]? = some o → TrOk P ops nx recs e0 h0 k o)
    (hend : ∀ F' μ' a' w' (hp : Heap) (en : Env), Step F0 μ0 w0 F' μ' w' → SimH F' μ' hp w' → (∀ q, hp.get q = hpF recs h0 (fun _ => true) m q) → (∀ t, RV F' μ' w' (a'.tmps[t]?.getD undef) (en.get t)) →
      (∀ t, en.get t = envF ops recs e0 (fun _ => true) m t) → a'.tmps.size = N → (∀ o, nx + 64 * m ≤ o → μ' o = none) → a'.defers = a0.defers → wpListIn (fc ro) n P ops.toArray Q (ops.drop m) a' w') :
    ∀ (fuel : Nat) (listed : Array Bool) (F : Nat → Prop) (μ : Num) (a : Act) (w : World), unl m listed + (ops.length - m) ≤ fuel → Step F0 μ0 w0 F μ w → InvD P N ops nx e0 h0 recs m listed F μ a w → a.defers = a0.defers →
      wpAnyIn (fc ro) n P .any ops.toArray Q fuel listed a w := by
  obtain ⟨hlow, hanc'⟩ := okC_spec hR
  have hanc : ∀ i j, i < j → j < m → conf ops ((List.range m).map (fun k => ((recs k).fp, keys (recs k).us))) i j = true → ∀ (o : Oper), ops[j]? = some o → ∀ D : Nat → Prop, Closed ops D → (∀ k ∈ afterOn o, D k) → D i := fun i j h1 h2 h3 => hanc' i j h1 (by omega) (.inr h3)
  have htail : ∀ i j, i < j → j < ops.length → m ≤ j → ∀ (o : Oper), ops[j]? = some o → ∀ D : Nat → Prop, Closed ops D → (∀ k ∈ afterOn o, D k) → D i := fun i j h1 h2 h3 => hanc' i j h1 h2 (.inl (by simpa using h3))
  have tail : ∀ (fuel k : Nat) (listed : Array Bool) (a : Act) (w : World), ops.length - k ≤ fuel → m ≤ k → k ≤ ops.length → listed.size = ops.length → (∀ i, lst listed i = decide (i < k)) → wpListIn (fc ro) n P ops.toArray Q (ops.drop k) a w →
      wpAnyIn (fc ro) n P .any ops.toArray Q fuel listed a w := by
    intro fuel
    induction fuel with
    | zero =>
      intro k listed a w hf hmk hk hs hl hw
      have e : k = ops.length := by omega
      subst e
      rw [List.drop_length] at hw
      refine ⟨?_, hw⟩
      rw [List.eq_nil_iff_forall_not_mem]
      intro j hj
      obtain ⟨h1, h2, _⟩ := (ready_lst listed j hs).1 hj
      rw [hl j, decide_eq_true h1] at h2; cases h2
    | succ fuel ih =>
      intro k listed a w hf hmk hk hs hl hw
      rcases Nat.lt_or_ge k ops.length with hlt | hge
      · have hok : ops[k]? = some ops[k] := List.getElem?_eq_getElem hlt
        refine ⟨fun hnil => ?_, fun j hj => ?_⟩
        · have : k ∈ Region.ready .any ops.toArray listed := (ready_lst listed k hs).2 ⟨hlt, by rw [hl k]; simp, _, hok, fun i hi => by rw [hl i]; exact decide_eq_true (hlow k _ hok i hi)⟩
          rw [hnil] at this; simp at this
        · obtain ⟨h1, h2, o, ho, h3⟩ := (ready_lst listed j hs).1 hj
          have hjk : j = k := by
            rw [hl j] at h2
            have h2 := of_decide_eq_false h2
            rcases Nat.lt_or_ge k j with h | h
            · have hcl : Closed ops (fun i => lst listed i = true) := fun j' o' ho' hj' i hi => by
                have hj' : lst listed j' = true := hj'
                show lst listed i = true
                rw [hl] at hj' ⊢
                have := hlow j' o' ho' i hi
                exact decide_eq_true (by have := of_decide_eq_true hj'; omega)
              have := htail k j h h1 (by omega) o ho _ hcl h3
              have this : lst listed k = true := this
              rw [hl k] at this
              have := of_decide_eq_true this
              omega
            · omega
          subst hjk
          have hd : ops.drop j = o :: ops.drop (j + 1) := by
            rw [List.drop_eq_getElem_cons hlt]; congr 1
            rw [hok] at ho; injection ho
          rw [hd] at hw
          have ho' : ops.toArray[j]? = some o := by simpa using ho
          have nxt : ∀ a w, wpListIn (fc ro) n P ops.toArray Q (ops.drop (j + 1)) a w → wpAnyIn (fc ro) n P .any ops.toArray Q fuel (listed.setIfInBounds j true) a w := fun a w h => by
            refine ih (j + 1) _ a w (by omega) (by omega) (by omega) (by simp [hs]) (fun i => ?_) h
            rw [lst_set (by omega), hl i]
            split
            · rename_i e; subst e; exact (decide_eq_true (by omega)).symm
            · rename_i e
              by_cases h' : i < j
              · rw [decide_eq_true h', decide_eq_true (by omega)]
              · rw [decide_eq_false h', decide_eq_false (by omega)]
          refine wpOpIn_mono nxt ?_
          unfold wpOpIn
          simp only [ho']
          exact hw
      · have e : k = ops.length := by omega
        subst e
        rw [List.drop_length] at hw
        refine ⟨fun _ => hw, fun j hj => ?_⟩
        obtain ⟨h1, h2, _⟩ := (ready_lst listed j hs).1 hj
        rw [hl j, decide_eq_true h1] at h2; cases h2
  have done : ∀ (fuel : Nat) (listed : Array Bool) (F : Nat → Prop) (μ : Num) (a : Act) (w : World), ops.length - m ≤ fuel → (∀ j, j < m → lst listed j = true) → Step F0 μ0 w0 F μ w → InvD P N ops nx e0 h0 recs m listed F μ a w → a.defers = a0.defers → wpAnyIn (fc ro) n P .any ops.toArray Q fuel listed a w := by
    intro fuel listed F μ a w hfu hall hst hI hdf
    obtain ⟨hp, s1, s2⟩ := hI.sim
    obtain ⟨en, e1, e2⟩ := hI.env
    refine tail fuel m listed a w hfu (Nat.le_refl _) hm hI.sz (fun i => ?_) (hend F μ a w hp en hst s1 (fun q => (s2 q).trans (hpF_congr (fun _ _ => rfl) fun k hk => hall k hk)) e1 (fun t => (e2 t).trans (envF_congr (fun _ _ => rfl) fun k hk => hall k hk)) hI.size hI.fresh hdf)
    by_cases h : i < m
    · rw [hall i h, decide_eq_true h]
    · rw [hI.lo i (by omega), decide_eq_false h]
  refine drwK_core hok hm hlow hanc hT done fun fuel listed F μ a w j o hge hjl hun ho haf hex hst hI hdf => ?_
  exfalso
  obtain ⟨j0, hj0, hl0⟩ := hex
  have := htail j0 j (by omega) hjl hge o ho _ hI.dc haf
  have this : lst listed j0 = true := this
  rw [this] at hl0; cases hl0
theorem okX_spec {fps : List (List Nat × List Nat)} (h : okX ops fps = true) :
    (∀ j o, ops[j]? = some o → ∀ k ∈ afterOn o, k < j) ∧ ∀ i j, i < j → j < ops.length → ((j < fps.length ∧ conf ops fps i j = true) ∨ (fps.length ≤ j ∧ i + 1 = fps.length)) → ∀ (o : Oper), ops[j]? = some o → ∀ D : Nat → Prop, Closed ops D → (∀ k ∈ afterOn o, D k) → D i := by
  unfold okX at h
  simp only [List.all_eq_true, List.mem_range, Bool.and_eq_true] at h
  refine ⟨fun j o ho k hk => ?_, fun i j hij hj hc o ho D hD hk => ?_⟩
  · have hj := (List.getElem?_eq_some_iff.1 ho).1
    have := (h j hj).1
    rw [ho] at this
    simpa using List.all_eq_true.1 this k hk
  · have := (h j hj).2 i hij
    have e1 : (decide (j < fps.length) && !conf ops fps i j) = false := by
      rcases hc with ⟨_, hc⟩ | ⟨hc, _⟩
      · rw [hc]; simp
      · rw [decide_eq_false (by omega)]; rfl
    have e2 : (decide (fps.length ≤ j) && !decide (i + 1 = fps.length)) = false := by
      rcases hc with ⟨hc, _⟩ | ⟨_, hc⟩
      · rw [decide_eq_false (by omega)]; rfl
      · rw [decide_eq_true hc]; simp
    rw [e1, e2] at this
    simp only [Bool.or_false] at this
    have hlen : j < (ancs ops []).length := by
      rcases Nat.lt_or_ge j (ancs ops []).length with h' | h'
      · exact h'
      · rw [List.getD_eq_getElem?_getD, List.getElem?_eq_none h'] at this; simp at this
    have hg : (ancs ops [])[j]? = some ((ancs ops []).getD j []) := by rw [List.getD_eq_getElem?_getD, List.getElem?_eq_getElem hlen]; rfl
    exact ancs_spec ops [] 0 (by simp) rfl (by simp) j _ o hg ho D hD hk i (by simpa using this)
theorem conf_app {l : List (List Nat × List Nat)} {x : List Nat × List Nat} {i j : Nat} (hi : i < l.length) (hj : j < l.length) : conf ops (l ++ [x]) i j = conf ops l i j := by
  have g : ∀ k, k < l.length → (l ++ [x]).getD k ([], []) = l.getD k ([], []) := fun k hk => by
    rw [List.getD_eq_getElem?_getD, List.getD_eq_getElem?_getD, List.getElem?_append_left hk]
  unfold conf
  rw [g i hi, g j hj]
theorem conf_last {l : List (List Nat × List Nat)} {ks : List Nat} {i q : Nat} {x y : Oper} (hi : i < l.length) (hx : ops[i]? = some x) (hy : ops[l.length]? = some y) (h1 : q ∈ (l.getD i ([], [])).2) (h2 : q ∈ ks) : conf ops (l ++ [([], ks)]) i l.length = true := by
  have g : (l ++ [(([] : List Nat), ks)]).getD i ([], []) = l.getD i ([], []) := by
    rw [List.getD_eq_getElem?_getD, List.getD_eq_getElem?_getD, List.getElem?_append_left hi]
  have g2 : (l ++ [(([] : List Nat), ks)]).getD l.length ([], []) = ([], ks) := by
    rw [List.getD_eq_getElem?_getD, List.getElem?_append_right (Nat.le_refl _)]; simp
  unfold conf
  rw [hx, hy, g, g2]
  simp only [Bool.or_eq_true, List.any_eq_true]
  refine .inl (.inr ⟨q, h1, .inr ?_⟩)
  simpa [List.contains_eq_mem] using h2
theorem drwX_any {ro : Option Nat} {n : Nat} {Q : Exit → Act → World → Prop} {w0 : World} {F0 : Nat → Prop} {μ0 : Num} {a0 : Act} (hok : okOps N ops = true) {m : Nat} {om : Oper} {p : PV} {us : Heap} (hom : ops[m]? = some om)
    (hgd : om.guard = none ∨ ∃ j want t, om.guard = some (j, want) ∧ dstOf ops j = some t ∧ envF ops recs e0 (fun _ => true) m t = .p (.bool want))
    (hX : okX ops ((List.range m).map (fun k => ((recs k).fp, keys (recs k).us)) ++ [([], keys us)]) = true) (hT : ∀ k o, k < m → ops[k]? = some o → TrOk P ops nx recs e0 h0 k o)
    (hpk : ∀ (env'' : Env) (σ'' : Heap), (∀ t ∈ om.looksAt ops.toArray, env''.get t = envF ops recs e0 (fun _ => true) m t) → (∀ q, q ∈ keys us → Heap.get σ'' q = hpF recs h0 (fun _ => true) m q) →
          panK P om.op (evalO env'') σ'' (nx + 64 * m) (fun p' us' => p' = p ∧ us' = us))
    (hend : ∀ F' μ' a' w' v, Step F0 μ0 w0 F' μ' w' → SimH F' μ' [] w' → a'.tmps.size = N → (∀ o, nx + 64 * ops.length ≤ o → μ' o = none) → a'.defers = a0.defers → RP F' w' v p → Q (.panic [{ v, recovered := false }]) a' w') :
    ∀ (fuel : Nat) (listed : Array Bool) (F : Nat → Prop) (μ : Num) (a : Act) (w : World), unl m listed + (ops.length - m) ≤ fuel → Step F0 μ0 w0 F μ w → InvD P N ops nx e0 h0 recs m listed F μ a w → a.defers = a0.defers →
      wpAnyIn (fc ro) n P .any ops.toArray Q fuel listed a w := by
  obtain ⟨hlow, hanc'⟩ := okX_spec hX
  have hml : m < ops.length := (List.getElem?_eq_some_iff.1 hom).1
  have hlen : ((List.range m).map (fun k => ((recs k).fp, keys (recs k).us))).length = m := by simp
  have hanc : ∀ i j, i < j → j < m → conf ops ((List.range m).map (fun k => ((recs k).fp, keys (recs k).us))) i j = true → ∀ (o : Oper), ops[j]? = some o → ∀ D : Nat → Prop, Closed ops D → (∀ k ∈ afterOn o, D k) → D i := fun i j h1 h2 h3 =>
    hanc' i j h1 (by omega) (.inl ⟨by simp; omega, by rw [conf_app (by simp; omega) (by simp; omega)]; exact h3⟩)
  have hafter : ∀ j, m < j → j < ops.length → ∀ (o : Oper), ops[j]? = some o → ∀ D : Nat → Prop, Closed ops D → (∀ k ∈ afterOn o, D k) → D m := fun j h1 h2 => hanc' m j h1 h2 (.inr ⟨by simp; omega, by simp⟩)
  have hbef : ∀ i, i < m → conf ops ((List.range m).map (fun k => ((recs k).fp, keys (recs k).us)) ++ [([], keys us)]) i m = true → ∀ D : Nat → Prop, Closed ops D → (∀ k ∈ afterOn om, D k) → D i := fun i h1 h3 => hanc' i m h1 hml (.inl ⟨by simp, h3⟩) om hom
  have pan : ∀ (K : Act → World → Prop) (listed : Array Bool) (F : Nat → Prop) (μ : Num) (a : Act) (w : World), lst listed m = false → (∀ k ∈ afterOn om, lst listed k = true) → Step F0 μ0 w0 F μ w → InvD P N ops nx e0 h0 recs m listed F μ a w → a.defers = a0.defers →
      wpOpIn (fc ro) n P ops.toArray Q m K a w := by
    intro K listed F μ a w hun haf hst hI hdf
    have fA : ∀ i, i < m → conf ops ((List.range m).map (fun k => ((recs k).fp, keys (recs k).us)) ++ [([], keys us)]) i m = true → lst listed i = true := fun i hij hc => hbef i hij hc _ hI.dc haf
    have dst_of : ∀ {k t}, dstOf ops k = some t → ∃ x, ops[k]? = some x ∧ x.dst = some t := fun {k t} h => by
      unfold dstOf at h
      obtain ⟨x, h1, h2⟩ := Option.bind_eq_some_iff.1 h
      exact ⟨x, h1, h2⟩
    have hE : ∀ t ∈ om.looksAt ops.toArray, envF ops recs e0 (lst listed) m t = envF ops recs e0 (fun _ => true) m t := fun t ht => by
      refine envF_eq (Nat.le_refl m) (fun i hij hd => ?_) (fun k hjk hk hd => by omega)
      obtain ⟨x, h1, h2⟩ := dst_of hd
      exact fA i hij (conf_tmp h1 hom (.inl ⟨h2, .inl ht⟩))
    have hH : ∀ q, q ∈ keys us → hpF recs h0 (lst listed) m q = hpF recs h0 (fun _ => true) m q := fun q hq => by
      refine hpF_eq (Nat.le_refl m) (fun i hij hd => ?_) (fun k hjk hk hd => by omega)
      refine fA i hij ?_
      have h1 : ops[i]? = some (ops[i]'(by omega)) := List.getElem?_eq_getElem _
      have := conf_last (l := (List.range m).map (fun k => ((recs k).fp, keys (recs k).us))) (ks := keys us) (i := i) (q := q) (by simp; omega) h1 (by rw [hlen]; exact hom) (by rw [List.getD_eq_getElem?_getD, List.getElem?_map, List.getElem?_range hij]; exact hd) hq
      rw [hlen] at this
      exact this
    obtain ⟨en, e1, e2⟩ := hI.env
    obtain ⟨hp, s1, s2⟩ := hI.sim
    have yv : ∀ {g : Nat} {want : Bool} {t : Nat}, om.guard = some (g, want) → dstOf ops g = some t → ∃ v, yielded ops.toArray a.tmps g = (match v with | .bool b => some b | _ => none) ∧ RV F μ w v (envF ops recs e0 (fun _ => true) m t) := by
      intro g want t hg hd
      obtain ⟨x, hx, hxd⟩ := dst_of hd
      have hlt : t < a.tmps.size := by rw [hI.size]; exact okOps_spec hok x (List.mem_of_getElem? hx) t hxd
      refine ⟨a.tmps[t]?.getD undef, ?_, ?_⟩
      · unfold yielded
        have : (ops.toArray[g]?).bind (·.dst) = some t := by simpa [dstOf] using hd
        rw [this]
        simp only [Option.bind_some]
        rw [Array.getElem?_eq_getElem hlt, Option.getD_some]
        cases a.tmps[t] <;> rfl
      · rw [← hE t (guard_look hg hd), ← e2]; exact e1 t
    unfold wpOpIn
    have ho' : ops.toArray[m]? = some om := by simpa using hom
    simp only [ho']
    have hw : Region.wanted om (yielded ops.toArray a.tmps) = true := by
      unfold Region.wanted
      rcases hgd with hg | ⟨g, want, t, hg, hd, hval⟩
      · rw [hg]
      · rw [hg]
        obtain ⟨v, y1, y2⟩ := yv hg hd
        rw [hval] at y2
        have := pbool_inv y2
        subst this
        simp [y1]
    rw [hw]
    simp only [if_true]
    have hpk' := hpk en hp (fun t ht => by rw [e2, hE t ht]) (fun q hq => by rw [s2, hH q hq])
    refine panK_sound s1 (fun q h1 h2 => hI.fresh q h1) (eval_rv e1) hpk' fun p' us' v w' k1 k2 k3 k4 => ?_
    obtain ⟨rfl, rfl⟩ := k1
    refine hend F μ a w' v (hst.trans k2) ⟨k3.fb, k3.mb, fun o ho => absurd rfl ho, fun o b _ => trivial, fun o b ho => absurd rfl ho, fun i j b ho => absurd rfl ho, fun c x hc => ⟨(k3.hd c x hc).1, fun o ho => absurd rfl ho⟩, k3.hu⟩ hI.size (fun q hq => hI.fresh q ?_) hdf k4
    have : 64 * m ≤ 64 * ops.length := Nat.mul_le_mul_left _ (Nat.le_of_lt hml)
    omega
  refine drwK_core hok (Nat.le_of_lt hml) hlow hanc hT (fun fuel listed F μ a w hfu hall hst hI hdf => ?_) fun fuel listed F μ a w j o hge hjl hun ho haf hex hst hI hdf => ?_
  · obtain ⟨fuel, rfl⟩ : ∃ f, fuel = f + 1 := ⟨fuel - 1, by omega⟩
    have hlo := hI.lo m (Nat.le_refl m)
    have hafm : ∀ k ∈ afterOn om, lst listed k = true := fun k hk => hall k (hlow m om hom k hk)
    refine ⟨fun hnil => ?_, fun j hj => ?_⟩
    · exfalso
      have : m ∈ Region.ready .any ops.toArray listed := (ready_lst listed m hI.sz).2 ⟨hml, hlo, om, hom, hafm⟩
      rw [hnil] at this; simp at this
    · obtain ⟨h1, h2, o, ho, h3⟩ := (ready_lst listed j hI.sz).1 hj
      have hjm : j = m := by
        rcases Nat.lt_trichotomy j m with h | h | h
        · rw [hall j h] at h2; cases h2
        · exact h
        · have := hafter j h h1 o ho _ hI.dc h3
          have this : lst listed m = true := this
          rw [hlo] at this; cases this
      subst hjm
      exact pan _ listed F μ a w hlo hafm hst hI hdf
  · have hlo := hI.lo m (Nat.le_refl m)
    have hjm : j = m := by
      rcases Nat.lt_or_ge m j with h | h
      · have := hafter j h hjl o ho _ hI.dc haf
        have this : lst listed m = true := this
        rw [hlo] at this; cases this
      · omega
    subst hjm
    rw [hom] at ho; injection ho with ho; subst ho
    exact pan _ listed F μ a w hlo haf hst hI hdf
theorem drwK_sound {C : Cx P} {d0 : D0} {n id : Nat} {Q : Exit → Act → World → Prop} {K : St → Prop} {KP : PV → St → Prop} {s : St} {F : Nat → Prop} {μ : Num} {a : Act} {w : World} (hm : P.follows .mixedOrders = true) (hok : okOps C.N ops = true)
    (hs : Sim C d0 F μ s a w) (h : drwK C.G ops s.nx s.yk ops 0 s.env s.hp [] K KP)
    (hk : ∀ s' F' μ' a' w', K s' → Rl C.G F μ w F' μ' w' → Kp C.kp μ μ' → Sim C d0 F' μ' s' a' w' → Q .normal a' w')
    (hp0 : ∀ s' F' μ' a' w' p ch, KP p s' → Rl C.G F μ w F' μ' w' → Kp C.kp μ μ' → Sim C d0 F' μ' s' a' w' → OnePanic F' w' ch p → Q (.panic ch) a' w') : (Code.region id ops.toArray true).wpIn (fc d0.ro) n P Q a w := by
  obtain ⟨m, recs, env', hp', hml, hE, hH, hT, hcut⟩ := drwK_trace (e0 := s.env.get) (h0 := Heap.get s.hp) ops 0 s.env s.hp (fun _ => default) [] (by simp) (by simp) (fun t => rfl) (fun q => rfl) (fun k o hk => by omega) (by simp) h
  refine wpIn_region_any hm ?_
  obtain ⟨d1, d2⟩ := drawn_step hs.h (w.drawn + 1)
  have hlst : ∀ k, lst (Array.replicate ops.toArray.size false) k = false := fun k => by
    unfold lst
    rw [Array.getD_eq_getD_getElem?]
    by_cases e : k < ops.toArray.size
    · simp at e; simp [e]
    · simp at e; simp [e]
  have hfu : unl m (Array.replicate ops.toArray.size false) + (ops.length - m) ≤ ops.toArray.size := by
    unfold unl
    have := List.length_filter_le (fun j => !lst (Array.replicate ops.toArray.size false) j) (List.range m)
    simp only [List.length_range] at this
    simp only [List.size_toArray] at *
    omega
  have hinv : InvD P C.N ops s.nx s.env.get (Heap.get s.hp) recs m (Array.replicate ops.toArray.size false) F μ a { w with drawn := w.drawn + 1 } := by
    have e0' : ∀ n t, envF ops recs s.env.get (lst (Array.replicate ops.toArray.size false)) n t = s.env.get t := fun n t => by
      induction n with
      | zero => rfl
      | succ n ih => simp only [envF, hlst, ih]; simp
    have h0' : ∀ n t, hpF recs (Heap.get s.hp) (lst (Array.replicate ops.toArray.size false)) n t = s.hp.get t := fun n t => by
      induction n with
      | zero => rfl
      | succ n ih => simp only [hpF, hlst, ih]; simp
    refine ⟨by simp, fun k x hx hk => absurd hk (by show ¬ lst (Array.replicate ops.toArray.size false) k = true; rw [hlst]; simp), fun k _ => hlst k, ⟨s.hp, d2, fun q => (h0' _ q).symm⟩, ⟨s.env, fun t => (hs.env t).step d1, fun t => (e0' _ t).symm⟩, hs.size, fun o ho => hs.fresh o (by omega), fun j _ _ o h1 _ => hs.fresh o (by omega)⟩
  rcases hcut with ⟨hR, hK⟩ | ⟨o, p, us, hom, hgd, hX, hKP, hpk⟩
  · refine drwK_any (F0 := F) (μ0 := μ) (w0 := w) (a0 := a) (e0 := s.env.get) (h0 := Heap.get s.hp) (nx := s.nx) hok hml hR hT (fun F' μ' a' w' hp en k1 k2 k3 k4 k5 k6 k7 k8 => ?_) _ _ F μ a _ hfu d1 hinv rfl
    refine seqK_sound (C := C) (ops := ops.toArray) hok _ ⟨env', hp', s.nx + 64 * m, s.yk⟩ F' μ' a' w' (fun o ho => List.mem_of_mem_drop ho) ⟨k2.congr fun i => by rw [hH, k3], k7, k6, fun t => by rw [hE, ← k5]; exact k4 t, hs.mks.base k1.base k8, hs.rd.base k1.base, hs.itro, C.G.cl hs.j k1.base⟩ hK (fun s' F2 μ2 a2 w2 e1 e2 e3 e4 => hk s' F2 μ2 a2 w2 e1 ((Rl.of k1.base).trans e2) ((Kp.step k1).trans e3) e4) (fun s' F2 μ2 a2 w2 p ch e1 e2 e3 e4 e5 => hp0 s' F2 μ2 a2 w2 p ch e1 ((Rl.of k1.base).trans e2) ((Kp.step k1).trans e3) e4 e5)
  · refine drwX_any (F0 := F) (μ0 := μ) (w0 := w) (a0 := a) (e0 := s.env.get) (h0 := Heap.get s.hp) (nx := s.nx) hok hom hgd hX hT hpk (fun F' μ' a' w' v k1 k2 k3 k4 k5 k6 => ?_) _ _ F μ a _ hfu d1 hinv rfl
    exact hp0 ⟨[], [], s.nx + 64 * ops.length, s.yk⟩ F' μ' a' w' p _ hKP (Rl.of k1.base) (Kp.step k1) ⟨k2, k4, k3, fun t => .any _, hs.mks.base k1.base k5, hs.rd.base k1.base, hs.itro, C.G.cl hs.j k1.base⟩ ⟨v, rfl, k6⟩
end
end Go.Sg
