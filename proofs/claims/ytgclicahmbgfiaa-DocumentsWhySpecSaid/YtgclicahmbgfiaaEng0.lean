/- A part of the proof: the engine, that follows the model step by step with abstract values; no program in sight. -/
import Derived.RangeFuncLeaves
import Derived.RangeFuncRecord
import Derived.KernelRfl
import Derived.OrdersIn
import Derived.Still
import Derived.Laws.Sem
import Derived.Laws.Cells
import Derived.Laws.BytesArg
import Derived.Laws.CopyRow
import Derived.Laws.Append
import Derived.Laws.IdiomStrings
set_option linter.unusedSimpArgs false
set_option linter.unusedVariables false
set_option linter.unnecessarySimpa false
namespace Go.Sg
open Go
inductive FK where
  | int (k : IntKind)
  | bool
  | str
  deriving DecidableEq, Inhabited
inductive PV where
  | int (k : IntKind) (n : Int)
  | bool (b : Bool)
  | str (s : ByteArray)
  | agg (cs : List PV)
  | sl (sz : Nat) (clip : Bool) (l : List PV)
  | fn (f : Fn) (first cap : List PV)
  | nilf
  | nilp
  | ro (cs : List PV)
  | iface (t : TypeId) (v : PV)
  | nili
  | tup (vs : List PV)
  | mp (ks : List FK × Bool) (m : List (PV × PV))
  deriving Inhabited
def PV.cells : PV → List PV
  | .agg cs => cs
  | v => [v]
def PV.one : PV → Bool
  | .agg _ => false
  | .tup _ => false
  | _ => true
def okE (sz : Nat) (p : PV) : Prop := p.cells.length = sz ∧ ∀ c ∈ p.cells, c.one = true
def FK.ok : FK → PV → Bool
  | .int k, .int k' _ => decide (k = k')
  | .bool, .bool _ => true
  | .str, .str _ => true
  | _, _ => false
def okKs : List FK → List PV → Bool
  | [], [] => true
  | k :: r, p :: s => k.ok p && okKs r s
  | _, _ => false
abbrev KT := List FK × Bool
def okK : KT → PV → Bool
  | (ks, true), .agg cs => okKs ks cs
  | (_, true), _ => false
  | (ks, false), p => okKs ks [p]
def Borns (es : Array MapEntry) (clock : Nat) : Prop := (∀ (i : Nat) e, es[i]? = some e → e.born < clock) ∧ ∀ (i j : Nat) e e', es[i]? = some e → es[j]? = some e' → e.born = e'.born → i = j
inductive RP (F : Nat → Prop) (w : World) : Value → PV → Prop
  | int (k : IntKind) (n : Int) : RP F w (.int k n) (.int k n)
  | bool (b : Bool) : RP F w (.bool b) (.bool b)
  | str (s : ByteArray) : RP F w (.string s) (.str s)
  | nilf : RP F w .nilFunc .nilf
  | nilp : RP F w (.pointer none) .nilp
  | nili : RP F w .nilIface .nili
  | ro (b off : Nat) (cs : List PV) (c : Nat → Value) : (cs = [] ∨ F b) → (∀ (j : Nat) q, cs[j]? = some q → w.cell? ⟨b, off + j, none⟩ = some (c j)) → (∀ (j : Nat) q, cs[j]? = some q → RP F w (c j) q) →
      RP F w (.pointer (some ⟨b, off, none⟩)) (.ro cs)
  | iface (t : TypeId) (v : Value) (q : PV) : RP F w v q → RP F w (.iface t v) (.iface t q)
  | agg (cs : Array Value) (l : List PV) : cs.size = l.length → (∀ (i : Nat) p, l[i]? = some p → RP F w (cs[i]?.getD undef) p) → RP F w (.agg cs) (.agg l)
  | tup (cs : Array Value) (l : List PV) : cs.size = l.length → (∀ (i : Nat) p, l[i]? = some p → RP F w (cs[i]?.getD undef) p) → RP F w (.tuple cs) (.tup l)
  | fn (f : Fn) (as bs : Array Value) (ls ms : List PV) : as.size = ls.length → bs.size = ms.length →
      (∀ (i : Nat) p, ls[i]? = some p → RP F w (as[i]?.getD undef) p) → (∀ (i : Nat) p, ms[i]? = some p → RP F w (bs[i]?.getD undef) p) → RP F w (.func f as bs) (.fn f ls ms)
  | mp (b : Nat) (ks : List FK × Bool) (m : List (PV × PV)) (es : Array MapEntry) (clock : Nat) : F b → w.heap[b]? = some (.map es clock) → (es.size = m.length ∧ Borns es clock) → (∀ x ∈ m, okK ks x.1 = true) →
      (∀ (i : Nat) k v e, m[i]? = some (k, v) → es[i]? = some e → RP F w e.key k) → (∀ (i : Nat) k v e, m[i]? = some (k, v) → es[i]? = some e → RP F w e.val v) → RP F w (.map (some b)) (.mp ks m)
  | esl (a : Option Addr) (cap sz : Nat) (clip : Bool) : cap ≤ maxLen → (a = none → cap = 0) → (clip = true → cap = 0) → RP F w (.slice a 0 cap) (.sl sz clip [])
  | sl (b off len cap sz : Nat) (clip : Bool) (l : List PV) (c : Nat → Nat → Value) : F b → len = l.length → len ≤ cap → cap ≤ maxLen → (clip = true → cap = len) →
      (∀ (i : Nat) p, l[i]? = some p → okE sz p) →
      (∀ (i : Nat) p (j : Nat) q, l[i]? = some p → p.cells[j]? = some q → w.cell? ⟨b, off + i * sz + j, none⟩ = some (c i j)) →
      (∀ (i : Nat) p (j : Nat) q, l[i]? = some p → p.cells[j]? = some q → RP F w (c i j) q) → RP F w (.slice (some ⟨b, off, none⟩) len cap) (.sl sz clip l)
theorem cell_of_block {w w' : World} {a : Addr} (h : w'.heap[a.block]? = w.heap[a.block]?) : w'.cell? a = w.cell? a := by simp [World.cell?, h]
theorem RP.mono {F F' : Nat → Prop} {w w' : World} {v : Value} {p : PV} (h : RP F w v p) (hF : ∀ b, F b → F' b) (hw : ∀ b, F b → w'.heap[b]? = w.heap[b]?) : RP F' w' v p := by
  induction h with
  | int k n => exact .int k n
  | bool b => exact .bool b
  | str s => exact .str s
  | nilf => exact .nilf
  | nilp => exact .nilp
  | nili => exact .nili
  | ro b off cs c h1 h2 _ ih =>
    refine .ro b off cs c (h1.imp id (hF b)) (fun j q hq => ?_) ih
    have hFb : F b := by rcases h1 with h | h; (subst h; simp at hq); exact h
    exact (cell_of_block (hw b hFb)).trans (h2 j q hq)
  | iface t v q _ ih => exact .iface t v q ih
  | agg cs l h1 _ ih => exact .agg cs l h1 ih
  | tup cs l h1 _ ih => exact .tup cs l h1 ih
  | fn f as bs ls ms h1 h2 _ _ i1 i2 => exact .fn f as bs ls ms h1 h2 i1 i2
  | mp b ks m es clock hb h1 h2 h3 _ _ i1 i2 => exact .mp b ks m es clock (hF b hb) ((hw b hb).trans h1) h2 h3 i1 i2
  | esl a cap sz clip h1 h2 h3 => exact .esl a cap sz clip h1 h2 h3
  | sl b off len cap sz clip l c hb h1 h2 h3 h4 h5 h6 _ ih =>
    exact .sl b off len cap sz clip l c (hF b hb) h1 h2 h3 h4 h5 (fun i p j q a b' => (cell_of_block (hw b hb)).trans (h6 i p j q a b')) ih
theorem RP.ro_inv {F : Nat → Prop} {w : World} {v : Value} {cs : List PV} (h : RP F w v (.ro cs)) : ∃ (b off : Nat) (c : Nat → Value), v = .pointer (some ⟨b, off, none⟩) ∧ (cs = [] ∨ F b) ∧
    ∀ (j : Nat) q, cs[j]? = some q → w.cell? ⟨b, off + j, none⟩ = some (c j) ∧ RP F w (c j) q := by
  cases h with
  | ro b off cs c h1 h2 h3 => exact ⟨b, off, c, rfl, h1, fun j q hq => ⟨h2 j q hq, h3 j q hq⟩⟩
theorem RP.ro' {F : Nat → Prop} {w : World} (b off : Nat) (cs : List PV) (c : Nat → Value) (h1 : cs = [] ∨ F b) (h2 : ∀ (j : Nat) q, cs[j]? = some q → w.cell? ⟨b, off + j, none⟩ = some (c j) ∧ RP F w (c j) q) :
    RP F w (.pointer (some ⟨b, off, none⟩)) (.ro cs) := .ro b off cs c h1 (fun j q hq => (h2 j q hq).1) (fun j q hq => (h2 j q hq).2)
def PV.le (p q : PV) : Prop := ∀ F w v, RP F w v p → RP F w v q
theorem PV.le_refl (p : PV) : PV.le p p := fun _ _ _ h => h
theorem PV.le_trans {p q r : PV} (h : PV.le p q) (k : PV.le q r) : PV.le p r := fun F w v x => k F w v (h F w v x)
theorem PV.le_nil (s s' : Nat) (c : Bool) : PV.le (.sl s true []) (.sl s' c []) := fun F w v h => by
  cases h with
  | esl a cap sz clip h1 h2 h3 => exact .esl a cap _ _ h1 h2 (fun _ => h3 rfl)
  | sl b off len cap sz clip l c hb h1 h2 h3 h4 h5 h6 h7 =>
    simp at h1; subst h1
    exact .esl _ cap _ _ h3 (by simp) (fun _ => h4 rfl)
theorem PV.le_nilF (s s' : Nat) (c : Bool) : PV.le (.sl s c []) (.sl s' false []) := fun F w v h => by
  cases h with
  | esl a cap sz clip h1 h2 h3 => exact .esl a cap _ _ h1 h2 (by simp)
  | sl b off len cap sz clip l c hb h1 h2 h3 h4 h5 h6 h7 =>
    simp at h1; subst h1
    exact .esl _ cap _ _ h3 (by simp) (by simp)
theorem PV.le_clip (s : Nat) (c : Bool) (l : List PV) : PV.le (.sl s c l) (.sl s false l) := fun F w v h => by
  cases h with
  | esl a cap sz clip h1 h2 h3 => exact .esl a cap _ _ h1 h2 (by simp)
  | sl b off len cap sz clip l c hb h1 h2 h3 h4 h5 h6 h7 => exact .sl b off len cap s false l c hb h1 h2 h3 (by simp) h5 h6 h7
def PV.leL (a b : List PV) : Prop := a.length = b.length ∧ ∀ (i : Nat) p q, a[i]? = some p → b[i]? = some q → PV.le p q
theorem PV.leL_nil : PV.leL [] [] := ⟨rfl, fun i p q h => by simp at h⟩
theorem PV.leL_cons {p q : PV} {a b : List PV} (h : PV.le p q) (k : PV.leL a b) : PV.leL (p :: a) (q :: b) :=
  ⟨by simp [k.1], fun i x y hx hy => by
    cases i with
    | zero => simp at hx hy; subst hx; subst hy; exact h
    | succ i => simp at hx hy; exact k.2 i x y hx hy⟩
theorem PV.le_agg {a b : List PV} (h : PV.leL a b) : PV.le (.agg a) (.agg b) := fun F w v x => by
  cases x with
  | agg cs l h1 h2 =>
    refine .agg cs b (h1.trans h.1) fun i p hp => ?_
    have hi : i < a.length := by rw [h.1]; exact (List.getElem?_eq_some_iff.1 hp).1
    exact h.2 i a[i] p (List.getElem?_eq_getElem hi) hp F w _ (h2 i _ (List.getElem?_eq_getElem hi))
theorem PV.le_tup {a b : List PV} (h : PV.leL a b) : PV.le (.tup a) (.tup b) := fun F w v x => by
  cases x with
  | tup cs l h1 h2 =>
    refine .tup cs b (h1.trans h.1) fun i p hp => ?_
    have hi : i < a.length := by rw [h.1]; exact (List.getElem?_eq_some_iff.1 hp).1
    exact h.2 i a[i] p (List.getElem?_eq_getElem hi) hp F w _ (h2 i _ (List.getElem?_eq_getElem hi))
inductive AV where
  | any
  | p (v : PV)
  | ptr (o off : Nat)
  | msl (o sz off len : Nat)
  | rsl (o sz i len : Nat)
  | csl (o sz i len cap : Nat)
  | eptr (o sz i j : Nat)
  | mp (o : Nat)
  | ch (o : Nat)
  | agg (cs : List AV)
  | tup (vs : List AV)
  | fn (f : Fn) (first cap : List AV)
  deriving Inhabited
structure Num where
  f : Nat → Option Nat
  hid : Nat → Nat → Prop
instance : CoeFun Num (fun _ => Nat → Option Nat) := ⟨Num.f⟩
def Num.has (μ : Num) (b : Nat) : Prop := (∃ o, μ o = some b) ∨ ∃ m, μ.hid b m
def Num.no : Num := ⟨fun _ => none, fun _ _ => False⟩
theorem Num.no_has {b : Nat} (h : Num.no.has b) : False := by
  rcases h with ⟨o, h⟩ | ⟨m, h⟩ <;> cases h
inductive RV (F : Nat → Prop) (μ : Num) (w : World) : Value → AV → Prop
  | any (v : Value) : RV F μ w v .any
  | p {v : Value} {q : PV} : RP F w v q → RV F μ w v (.p q)
  | ptr (o off b : Nat) : μ o = some b → RV F μ w (.pointer (some ⟨b, off, none⟩)) (.ptr o off)
  | msl (o sz off off' len cap b : Nat) (t : TypeId) (n : Nat) : μ o = some b → (cap = 0 ∨ off' = off) → w.shape? b = some (t, n) → off + cap * sz ≤ n → len ≤ cap → cap ≤ maxLen →
      RV F μ w (.slice (some ⟨b, off', none⟩) len cap) (.msl o sz off len)
  | rsl (o sz i len : Nat) (v : Value) : RV F μ w v (.msl o sz (i * sz) len) → RV F μ w v (.rsl o sz i len)
  | csl (o sz i len cap : Nat) (base : Option Addr) : RV F μ w (.slice base len cap) (.rsl o sz i len) → RV F μ w (.slice base len cap) (.csl o sz i len cap)
  | eptr (o sz i j : Nat) (v : Value) : RV F μ w v (.ptr o (i * sz + j)) → RV F μ w v (.eptr o sz i j)
  | mp (o b : Nat) : μ o = some b → RV F μ w (.map (some b)) (.mp o)
  | ch (o b : Nat) : μ o = some b → RV F μ w (.chan (some b)) (.ch o)
  | agg (cs : Array Value) (l : List AV) : cs.size = l.length → (∀ (i : Nat) p, l[i]? = some p → RV F μ w (cs[i]?.getD undef) p) → RV F μ w (.agg cs) (.agg l)
  | tup (cs : Array Value) (l : List AV) : cs.size = l.length → (∀ (i : Nat) p, l[i]? = some p → RV F μ w (cs[i]?.getD undef) p) → RV F μ w (.tuple cs) (.tup l)
  | fn (f : Fn) (as bs : Array Value) (ls ms : List AV) : as.size = ls.length → bs.size = ms.length →
      (∀ (i : Nat) p, ls[i]? = some p → RV F μ w (as[i]?.getD undef) p) → (∀ (i : Nat) p, ms[i]? = some p → RV F μ w (bs[i]?.getD undef) p) → RV F μ w (.func f as bs) (.fn f ls ms)
structure Step (F : Nat → Prop) (μ : Num) (w : World) (F' : Nat → Prop) (μ' : Num) (w' : World) : Prop where
  os : w'.os = w.os
  tape : w'.tape = w.tape
  output : w'.output = w.output
  size : w.heap.size ≤ w'.heap.size
  fr : ∀ b, F b → w'.heap[b]? = w.heap[b]?
  old : ∀ b, b < w.heap.size → ¬ μ.has b → w'.heap[b]? = w.heap[b]?
  shape : ∀ b x, w.shape? b = some x → w'.shape? b = some x
  sub : ∀ b, F b → F' b
  fnew : ∀ b, F' b → F b ∨ μ.has b ∨ w.heap.size ≤ b
  pre : ∀ o b, μ o = some b → μ' o = some b
  mnew : ∀ b, μ'.has b → μ.has b ∨ w.heap.size ≤ b
theorem Step.refl (F : Nat → Prop) (μ : Num) (w : World) : Step F μ w F μ w :=
  ⟨rfl, rfl, rfl, Nat.le_refl _, fun _ _ => rfl, fun _ _ _ => rfl, fun _ _ h => h, fun _ h => h, fun _ h => .inl h, fun _ _ h => h, fun _ h => .inl h⟩
theorem Step.trans {F F1 F2 : Nat → Prop} {μ μ1 μ2 : Num} {w w1 w2 : World} (h : Step F μ w F1 μ1 w1) (k : Step F1 μ1 w1 F2 μ2 w2) : Step F μ w F2 μ2 w2 where
  os := k.os.trans h.os
  tape := k.tape.trans h.tape
  output := k.output.trans h.output
  size := Nat.le_trans h.size k.size
  fr := fun b hb => (k.fr b (h.sub b hb)).trans (h.fr b hb)
  old := fun b hb hn => (k.old b (Nat.lt_of_lt_of_le hb h.size) (fun hm => by rcases h.mnew b hm with h1 | h1; (exact hn h1); omega)).trans (h.old b hb hn)
  shape := fun b x hx => k.shape b x (h.shape b x hx)
  sub := fun b hb => k.sub b (h.sub b hb)
  fnew := fun b hb => by
    rcases k.fnew b hb with h1 | h1 | h1
    · exact h.fnew b h1
    · exact .inr (h.mnew b h1)
    · exact .inr (.inr (Nat.le_trans h.size h1))
  pre := fun o b hb => k.pre o b (h.pre o b hb)
  mnew := fun b hb => by
    rcases k.mnew b hb with h1 | h1
    · exact h.mnew b h1
    · exact .inr (Nat.le_trans h.size h1)
theorem RV.step {F F' : Nat → Prop} {μ μ' : Num} {w w' : World} {v : Value} {a : AV} (h : RV F μ w v a) (s : Step F μ w F' μ' w') : RV F' μ' w' v a := by
  induction h with
  | any v => exact .any v
  | p h => exact .p (h.mono s.sub s.fr)
  | ptr o off b h => exact .ptr o off b (s.pre _ _ h)
  | msl o sz off off' len cap b t n h1 h0 h2 h3 h4 h5 => exact .msl o sz off off' len cap b t n (s.pre _ _ h1) h0 (s.shape b _ h2) h3 h4 h5
  | rsl o sz i len v _ ih => exact .rsl o sz i len _ ih
  | csl o sz i len cap base _ ih => exact .csl o sz i len cap base ih
  | eptr o sz i j v _ ih => exact .eptr o sz i j _ ih
  | mp o b h => exact .mp o b (s.pre _ _ h)
  | ch o b h => exact .ch o b (s.pre _ _ h)
  | agg cs l h1 _ ih => exact .agg cs l h1 ih
  | tup cs l h1 _ ih => exact .tup cs l h1 ih
  | fn f as bs ls ms h1 h2 _ _ i1 i2 => exact .fn f as bs ls ms h1 h2 i1 i2
inductive MV where
  | h (l : List PV)
  | v (a : AV)
  deriving Inhabited
inductive AObj where
  | dead
  | cells (cs : List AV)
  | row (sz : Nat) (l : List PV)
  | map (ks : List FK × Bool) (m : List (PV × PV))
  | chan (cap : Nat) (buf : List PV)
  | iter (rem : List (PV × PV)) (cur : Option (PV × PV))
  | mapS (ks : List FK × Bool) (sz : Nat) (m : List (PV × MV))
  deriving Inhabited
def IterOk (F : Nat → Prop) (w : World) (b : Nat) (rem : List (PV × PV)) (cur : Option (PV × PV)) : Prop :=
  ∃ (m : Nat) (es : Array MapEntry) (clock : Nat) (seen : Array Nat), w.heap[b]? = some (.mapIter (some m) clock seen clock) ∧ F m ∧ w.heap[m]? = some (.map es clock) ∧ Borns es clock ∧
    ((es.filter fun e => !seen.contains e.born).size = rem.length ∧ ∀ (i : Nat) k v e, rem[i]? = some (k, v) → (es.filter fun e => !seen.contains e.born)[i]? = some e → RP F w e.key k ∧ RP F w e.val v) ∧
    ∀ k v, cur = some (k, v) → ∃ (seen0 : Array Nat) (e : MapEntry), seen = seen0.push e.born ∧ e ∈ es.toList ∧ RP F w e.key k ∧ RP F w e.val v
theorem Borns.nodup {es : Array MapEntry} {clock : Nat} (h : Borns es clock) : (es.toList.map (·.born)).Nodup := by
  rw [List.nodup_iff_pairwise_ne, List.pairwise_map, List.pairwise_iff_getElem]
  intro i j hi hj hij e
  have := h.2 i j es.toList[i] es.toList[j] (by simp at hi ⊢) (by simp at hj ⊢) e
  omega
theorem IterOk.mono {F F' : Nat → Prop} {w w' : World} {b : Nat} {rem : List (PV × PV)} {cur : Option (PV × PV)} (h : IterOk F w b rem cur) (hF : ∀ b, F b → F' b) (hw : ∀ b, F b → w'.heap[b]? = w.heap[b]?) (hb : w'.heap[b]? = w.heap[b]?) : IterOk F' w' b rem cur := by
  obtain ⟨m, es, clock, seen, h1, h2, h3, h4, ⟨h5, h6⟩, h7⟩ := h
  refine ⟨m, es, clock, seen, hb.trans h1, hF m h2, (hw m h2).trans h3, h4, ⟨h5, fun i k v e a c => ?_⟩, fun k v e => ?_⟩
  · obtain ⟨p, q⟩ := h6 i k v e a c
    exact ⟨p.mono hF hw, q.mono hF hw⟩
  · obtain ⟨s, e, a, c, p, q⟩ := h7 k v e
    exact ⟨s, e, a, c, p.mono hF hw, q.mono hF hw⟩
def rowC (l : List PV) : List AV := (l.flatMap PV.cells).map .p
abbrev Heap := List (Nat × AObj)
def Heap.get : Heap → Nat → AObj
  | [], _ => .dead
  | (j, v) :: r, i => if j = i then v else Heap.get r i
def HRow (F : Nat → Prop) (w : World) (c sz : Nat) (v : Value) (l : List PV) : Prop :=
  (∀ p ∈ l, okE sz p) ∧ ∃ (off cap : Nat) (cur : Array Value) (t : TypeId), (v = .slice (some ⟨c, off, none⟩) l.length cap ∧ (cap = 0 ∨ off = 0) ∧ cap * sz ≤ cur.size ∧ l.length ≤ cap ∧ cap ≤ maxLen) ∧
    w.heap[c]? = some (.cells cur t (0, 0)) ∧ (rowC l).length ≤ cur.size ∧ ∀ (i : Nat) p, (l.flatMap PV.cells)[i]? = some p → RP F w (cur[i]?.getD undef) p
theorem HRow.mono {F F' : Nat → Prop} {w w' : World} {c sz : Nat} {v : Value} {l : List PV} (h : HRow F w c sz v l) (hF : ∀ b, F b → F' b) (hw : ∀ b, F b → w'.heap[b]? = w.heap[b]?) (hc : w'.heap[c]? = w.heap[c]?) : HRow F' w' c sz v l := by
  obtain ⟨h0, off, cap, cur, t, h1, h2, h3, h4⟩ := h
  exact ⟨h0, off, cap, cur, t, h1, hc.trans h2, h3, fun i p hp => (h4 i p hp).mono hF hw⟩
def MVok (F : Nat → Prop) (μ : Num) (w : World) (b sz c : Nat) (v : Value) : MV → Prop
  | .h l => μ.hid c b ∧ HRow F w c sz v l
  | .v a => RV F μ w v a
def RO (F : Nat → Prop) (μ : Num) (w : World) (b : Nat) : AObj → Prop
  | .dead => True
  | .cells cs => ∃ cur t, w.heap[b]? = some (.cells cur t (0, 0)) ∧ cs.length ≤ cur.size ∧ ∀ (i : Nat) c, cs[i]? = some c → RV F μ w (cur[i]?.getD undef) c
  | .row sz l => (∀ p ∈ l, okE sz p) ∧ ∃ cur t, w.heap[b]? = some (.cells cur t (0, 0)) ∧ (rowC l).length ≤ cur.size ∧ ∀ (i : Nat) c, (rowC l)[i]? = some c → RV F μ w (cur[i]?.getD undef) c
  | .map ks m => (∀ x ∈ m, okK ks x.1 = true) ∧ ∃ es clock, w.heap[b]? = some (.map es clock) ∧ es.size = m.length ∧ Borns es clock ∧
      (∀ (i : Nat) k v, m[i]? = some (k, v) → ∃ e : MapEntry, es[i]? = some e ∧ RP F w e.key k ∧ RP F w e.val v)
  | .chan cap buf => ∃ bs sent recvd, w.heap[b]? = some (.chan cap bs false sent recvd false) ∧ bs.size = buf.length ∧ ∀ (i : Nat) c, buf[i]? = some c → RP F w (bs[i]?.getD undef) c
  | .iter rem cur => IterOk F w b rem cur
  | .mapS ks sz m => (∀ x ∈ m, okK ks x.1 = true) ∧ ∃ es clock, w.heap[b]? = some (.map es clock) ∧ es.size = m.length ∧ Borns es clock ∧ ∃ c : Nat → Nat,
      (∀ (i : Nat) k x, m[i]? = some (k, x) → ∃ e : MapEntry, es[i]? = some e ∧ RP F w e.key k ∧ MVok F μ w b sz (c i) e.val x) ∧
      ∀ (i j : Nat) k k' l l', m[i]? = some (k, .h l) → m[j]? = some (k', .h l') → c i = c j → i = j
theorem RO.step {F F' : Nat → Prop} {μ μ' : Num} {w w' : World} {b : Nat} {o : AObj} (h : RO F μ w b o) (s : Step F μ w F' μ' w') (hb : w'.heap[b]? = w.heap[b]?)
    (hh : ∀ c, μ.hid c b → μ'.hid c b ∧ w'.heap[c]? = w.heap[c]?) : RO F' μ' w' b o := by
  cases o with
  | dead => trivial
  | cells cs =>
    obtain ⟨cur, t, h1, h2, h3⟩ := h
    exact ⟨cur, t, hb.trans h1, h2, fun i c hc => (h3 i c hc).step s⟩
  | row sz l =>
    obtain ⟨h0, cur, t, h1, h2, h3⟩ := h
    exact ⟨h0, cur, t, hb.trans h1, h2, fun i c hc => (h3 i c hc).step s⟩
  | map ks m =>
    obtain ⟨h0, es, clock, h1, h2, h3, h4⟩ := h
    exact ⟨h0, es, clock, hb.trans h1, h2, h3, fun i k v hm => let ⟨e, a, b, c⟩ := h4 i k v hm; ⟨e, a, b.mono s.sub s.fr, c.mono s.sub s.fr⟩⟩
  | chan cap buf =>
    obtain ⟨bs, x, y, h1, h2, h3⟩ := h
    exact ⟨bs, x, y, hb.trans h1, h2, fun i c hc => (h3 i c hc).mono s.sub s.fr⟩
  | iter rem cur => exact IterOk.mono h s.sub s.fr hb
  | mapS ks sz m =>
    obtain ⟨h0, es, clock, h1, h2, h3, c, h4, h5⟩ := h
    refine ⟨h0, es, clock, hb.trans h1, h2, h3, c, fun i k x hx => ?_, h5⟩
    obtain ⟨e, a, d, g⟩ := h4 i k x hx
    refine ⟨e, a, d.mono s.sub s.fr, ?_⟩
    cases x with
    | h l =>
      obtain ⟨g1, g2⟩ := hh _ g.1
      exact ⟨g1, g.2.mono s.sub s.fr g2⟩
    | v av => exact RV.step g s
structure SimH (F : Nat → Prop) (μ : Num) (σ : Heap) (w : World) : Prop where
  fb : ∀ b, F b → b < w.heap.size
  mb : ∀ b, μ.has b → b < w.heap.size
  has : ∀ o, σ.get o ≠ .dead → ∃ b, μ o = some b
  obj : ∀ o b, μ o = some b → RO F μ w b (σ.get o)
  live : ∀ o b, σ.get o ≠ .dead → μ o = some b → ¬ F b
  inj : ∀ i j b, σ.get i ≠ .dead → σ.get j ≠ .dead → μ i = some b → μ j = some b → i = j
  hd : ∀ c m, μ.hid c m → ¬ F c ∧ ∀ o, σ.get o ≠ .dead → μ o ≠ some c
  hu : ∀ c m m', μ.hid c m → μ.hid c m' → m = m'
theorem SimH.nil {F : Nat → Prop} {w : World} (h : ∀ b, F b → b < w.heap.size) : SimH F Num.no [] w := by
  refine ⟨h, ?_, ?_, ?_, ?_, ?_, ?_, fun _ _ _ h => h.elim⟩
  · intro b hb; exact (Num.no_has hb).elim
  · intro o ho; exact absurd rfl ho
  · intro o b hb; cases hb
  · intro o b ho; exact absurd rfl ho
  · intro i j b ho; exact absurd rfl ho
  · intro c m h; exact h.elim
theorem SimH.cells {F : Nat → Prop} {μ : Num} {σ : Heap} {w : World} (h : SimH F μ σ w) {o b : Nat} {cs : List AV} (ho : σ.get o = .cells cs) (hb : μ o = some b) :
    ∃ cur t, w.heap[b]? = some (.cells cur t (0, 0)) ∧ cs.length ≤ cur.size ∧ ∀ (i : Nat) c, cs[i]? = some c → RV F μ w (cur[i]?.getD undef) c := by
  have := h.obj o b hb
  rw [ho] at this; exact this
theorem SimH.block {F : Nat → Prop} {μ : Num} {σ : Heap} {w : World} (h : SimH F μ σ w) {o : Nat} {x : AObj} (ho : σ.get o = x) (hx : x ≠ .dead) : ∃ b, μ o = some b := h.has o (by rw [ho]; exact hx)
theorem SimH.keep {F F' : Nat → Prop} {μ : Num} {σ : Heap} {w w' : World} (h : SimH F μ σ w) (s : Step F μ w F' μ w')
    (hb : ∀ b, b < w.heap.size → w'.heap[b]? = w.heap[b]?) (hF : ∀ b, F' b → F b ∨ (w.heap.size ≤ b ∧ b < w'.heap.size)) : SimH F' μ σ w' where
  fb := fun b hf => by rcases hF b hf with h1 | h1; (exact Nat.lt_of_lt_of_le (h.fb b h1) s.size); exact h1.2
  mb := fun b hm => Nat.lt_of_lt_of_le (h.mb b hm) s.size
  has := h.has
  obj := fun o b hm => (h.obj o b hm).step s (hb b (h.mb b (.inl ⟨o, hm⟩))) fun c hc => ⟨hc, hb c (h.mb c (.inr ⟨b, hc⟩))⟩
  live := fun o b hd hm hf => by
    rcases hF b hf with h1 | h1
    · exact h.live o b hd hm h1
    · have := h.mb b (.inl ⟨o, hm⟩); omega
  inj := h.inj
  hd := fun c m hc => ⟨fun hf => by
    rcases hF c hf with h1 | h1
    · exact (h.hd c m hc).1 h1
    · have := h.mb c (.inr ⟨m, hc⟩); omega, (h.hd c m hc).2⟩
  hu := h.hu
def Num.put (μ : Num) (o b : Nat) : Num := ⟨fun i => if i = o then some b else μ i, μ.hid⟩
theorem Num.put_self (μ : Num) (o b : Nat) : μ.put o b o = some b := by simp [Num.put]
theorem Num.put_has {μ : Num} {o b k : Nat} (h : (μ.put o b).has k) : μ.has k ∨ k = b := by
  rcases h with ⟨i, hi⟩ | ⟨m, hm⟩
  · have hi : (if i = o then some b else μ i) = some k := hi
    split at hi
    · injection hi with hi; exact .inr hi.symm
    · exact .inl (.inl ⟨i, hi⟩)
  · exact .inl (.inr ⟨m, hm⟩)
theorem Num.put_pre {μ : Num} {o b : Nat} (h : μ o = none) : ∀ i k, μ i = some k → μ.put o b i = some k := fun i k hk => by
  show (if i = o then some b else μ i) = some k
  split
  · rename_i e; subst e; rw [h] at hk; cases hk
  · exact hk
theorem Heap.get_cons (j : Nat) (v : AObj) (r : Heap) (i : Nat) : Heap.get ((j, v) :: r) i = if j = i then v else Heap.get r i := rfl
theorem SimH.push {F : Nat → Prop} {μ : Num} {σ : Heap} {w : World} (h : SimH F μ σ w) {n : Nat} (hn : μ n = none) (x : Obj) (o : AObj)
    (ho : ∀ (w' : World), Step F μ w F (μ.put n w.heap.size) w' → w'.heap[w.heap.size]? = some x → RO F (μ.put n w.heap.size) w' w.heap.size o) :
    SimH F (μ.put n w.heap.size) ((n, o) :: σ) { w with heap := w.heap.push x } ∧ Step F μ w F (μ.put n w.heap.size) { w with heap := w.heap.push x } := by
  have hold : ∀ b, b < w.heap.size → (w.heap.push x)[b]? = w.heap[b]? := fun b hb => by rw [Array.getElem?_push, if_neg (by omega)]
  have hs : Step F μ w F (μ.put n w.heap.size) { w with heap := w.heap.push x } :=
    ⟨rfl, rfl, rfl, by simp, fun b hb => hold b (h.fb b hb), fun b hb _ => hold b hb, fun b y hy => by
      have hb : b < w.heap.size := by
        unfold World.shape? at hy
        rcases Nat.lt_or_ge b w.heap.size with h' | h'
        · exact h'
        · simp [Array.getElem?_eq_none h'] at hy
      unfold World.shape? at *
      simp only [hold b hb]; exact hy, fun _ h => h, fun _ h => .inl h, Num.put_pre hn, fun b hb => by rcases Num.put_has hb with h1 | h1; (exact .inl h1); exact .inr (by omega)⟩
  have get : ∀ i b, μ.put n w.heap.size i = some b → (i = n ∧ b = w.heap.size ∧ Heap.get ((n, o) :: σ) i = o) ∨ (i ≠ n ∧ μ i = some b ∧ Heap.get ((n, o) :: σ) i = σ.get i) := fun i b hi => by
    have hi : (if i = n then some w.heap.size else μ i) = some b := hi
    rw [Heap.get_cons]
    by_cases e : i = n
    · rw [if_pos e] at hi; injection hi with hi; exact .inl ⟨e, hi.symm, if_pos e.symm⟩
    · rw [if_neg e] at hi; exact .inr ⟨e, hi, if_neg (fun k => e k.symm)⟩
  refine ⟨⟨fun b hb => Nat.lt_of_lt_of_le (h.fb b hb) hs.size, fun b hb => by
      simp; rcases Num.put_has hb with h1 | h1; (exact Nat.lt_succ_of_lt (h.mb b h1)); omega, ?_, ?_, ?_, ?_, ?_, h.hu⟩, hs⟩
  · intro i hi
    by_cases e : i = n
    · subst e; exact ⟨_, Num.put_self _ _ _⟩
    · rw [Heap.get_cons, if_neg (fun k => e k.symm)] at hi
      obtain ⟨b, hb⟩ := h.has i hi
      exact ⟨b, Num.put_pre hn _ _ hb⟩
  · intro i b hm
    rcases get i b hm with ⟨_, rfl, e⟩ | ⟨_, hm', e⟩
    · rw [e]; exact ho _ hs (by simp)
    · rw [e]; exact (h.obj i b hm').step hs (hold b (h.mb b (.inl ⟨i, hm'⟩))) fun c hc => ⟨hc, hold c (h.mb c (.inr ⟨b, hc⟩))⟩
  · intro i b hd hm hf
    rcases get i b hm with ⟨_, rfl, e⟩ | ⟨_, hm', e⟩
    · have := h.fb _ hf; omega
    · rw [e] at hd; exact h.live i b hd hm' hf
  · intro i j b h3 h4 h5 h6
    rcases get i b h5 with ⟨e1, e2, _⟩ | ⟨_, k1, e⟩
    · rcases get j b h6 with ⟨e3, _, _⟩ | ⟨_, k2, _⟩
      · omega
      · have := h.mb b (.inl ⟨j, k2⟩); omega
    · rcases get j b h6 with ⟨_, e3, _⟩ | ⟨_, k2, e'⟩
      · have := h.mb b (.inl ⟨i, k1⟩); omega
      · rw [e] at h3; rw [e'] at h4; exact h.inj i j b h3 h4 k1 k2
  · intro c m hc
    have hc' : μ.hid c m := hc
    refine ⟨(h.hd c m hc').1, fun i hi hm => ?_⟩
    rcases get i c hm with ⟨_, e, _⟩ | ⟨_, k1, e⟩
    · have := h.mb c (.inr ⟨m, hc'⟩); omega
    · rw [e] at hi; exact (h.hd c m hc').2 i hi k1
end Go.Sg
namespace Go.Sg
open Go
abbrev Env := List (Nat × AV)
def Env.get : Env → Nat → AV
  | [], _ => .any
  | (j, v) :: r, i => if j = i then v else Env.get r i
def zeroPV : Value → Option PV
  | .int k n => some (.int k n)
  | .bool b => some (.bool b)
  | .string s => some (.str s)
  | .slice none 0 0 => some (.sl 0 true [])
  | .pointer none => some .nilp
  | .nilFunc => some .nilf
  | .nilIface => some .nili
  | _ => none
def zeroPVs : List Value → Option (List PV)
  | [] => some []
  | v :: r => match zeroPV v, zeroPVs r with | some p, some q => some (p :: q) | _, _ => none
def constAV : Value → AV
  | .agg cs => match zeroPVs cs.toList with | some l => .p (.agg l) | none => .any
  | .tuple cs => if cs.size = 0 then .p (.tup []) else .any
  | v => match zeroPV v with | some p => .p p | none => .any
theorem zeroPV_spec {F : Nat → Prop} {w : World} {v : Value} {p : PV} (h : zeroPV v = some p) : RP F w v p := by
  unfold zeroPV at h
  split at h <;> first | (cases h; done) | (injection h with h; subst h)
  · exact .int _ _
  · exact .bool _
  · exact .str _
  · exact .esl none 0 0 true (by unfold maxLen; omega) (fun _ => rfl) (fun _ => rfl)
  · exact .nilp
  · exact .nilf
  · exact .nili
theorem zeroPVs_spec {F : Nat → Prop} {w : World} : ∀ {l : List Value} {q : List PV}, zeroPVs l = some q → l.length = q.length ∧ ∀ (i : Nat) p, q[i]? = some p → RP F w (l[i]?.getD undef) p
  | [], q, h => by simp [zeroPVs] at h; subst h; simp
  | v :: r, q, h => by
    simp only [zeroPVs] at h
    split at h
    · rename_i p q' h1 h2
      injection h with h; subst h
      obtain ⟨h3, h4⟩ := zeroPVs_spec (F := F) (w := w) h2
      refine ⟨by simp [h3], fun i x hx => ?_⟩
      cases i with
      | zero => simp at hx; subst hx; simpa using zeroPV_spec h1
      | succ i => simp at hx; simpa using h4 i x hx
    · cases h
theorem constAV_spec {F : Nat → Prop} {μ : Num} {w : World} (v : Value) : RV F μ w v (constAV v) := by
  have rest : RV F μ w v (match zeroPV v with | some p => .p p | none => .any) := by
    split
    · rename_i p hp; exact .p (zeroPV_spec hp)
    · exact .any _
  cases v <;> first | exact rest | skip
  · rename_i cs
    show RV F μ w _ (match zeroPVs cs.toList with | some l => .p (.agg l) | none => .any)
    split
    · rename_i l hl
      obtain ⟨h1, h2⟩ := zeroPVs_spec (F := F) (w := w) hl
      exact .p (.agg cs l (by simpa using h1) (by simpa using h2))
    · exact .any _
  · rename_i cs
    show RV F μ w _ (if cs.size = 0 then .p (.tup []) else .any)
    split
    · rename_i h0; exact .p (.tup _ _ h0 (by simp))
    · exact .any _
def pureL : List AV → Option (List PV)
  | [] => some []
  | .p v :: r => match pureL r with | some q => some (v :: q) | none => none
  | _ => none
def mkAgg (l : List AV) : AV := match pureL l with | some q => .p (.agg q) | none => .agg l
def mkTup (l : List AV) : AV := match pureL l with | some q => .p (.tup q) | none => .tup l
def mkFn (f : Fn) (a b : List AV) : AV := match pureL a, pureL b with | some x, some y => .p (.fn f x y) | _, _ => .fn f a b
theorem pureL_spec : ∀ {l : List AV} {q : List PV}, pureL l = some q → l = q.map AV.p
  | [], q, h => by simp [pureL] at h; subst h; rfl
  | a :: r, q, h => by
    cases a <;> simp only [pureL] at h <;> try (cases h; done)
    rename_i v
    split at h
    · rename_i q' hq
      injection h with h; subst h
      simp [pureL_spec hq]
    · cases h
section
variable {F : Nat → Prop} {μ : Num} {w : World}
theorem RV.pure_inv {v : Value} {p : PV} (h : RV F μ w v (.p p)) : RP F w v p := by cases h; assumption
theorem pureL_rv {l : List AV} {q : List PV} (h : pureL l = some q) {f : Nat → Value} (hr : ∀ (i : Nat) p, l[i]? = some p → RV F μ w (f i) p) : l.length = q.length ∧ ∀ (i : Nat) p, q[i]? = some p → RP F w (f i) p := by
  have := pureL_spec h
  subst this
  refine ⟨by simp, fun i p hp => (hr i (.p p) (by simp [hp])).pure_inv⟩
theorem mkAgg_spec {cs : Array Value} {l : List AV} (h : cs.size = l.length) (hr : ∀ (i : Nat) p, l[i]? = some p → RV F μ w (cs[i]?.getD undef) p) : RV F μ w (.agg cs) (mkAgg l) := by
  unfold mkAgg
  split
  · rename_i q hq
    obtain ⟨h1, h2⟩ := pureL_rv hq hr
    exact .p (.agg cs q (h.trans h1) h2)
  · exact .agg cs l h hr
theorem mkTup_spec {cs : Array Value} {l : List AV} (h : cs.size = l.length) (hr : ∀ (i : Nat) p, l[i]? = some p → RV F μ w (cs[i]?.getD undef) p) : RV F μ w (.tuple cs) (mkTup l) := by
  unfold mkTup
  split
  · rename_i q hq
    obtain ⟨h1, h2⟩ := pureL_rv hq hr
    exact .p (.tup cs q (h.trans h1) h2)
  · exact .tup cs l h hr
theorem mkFn_spec {f : Fn} {as bs : Array Value} {la lb : List AV} (ha : as.size = la.length) (hb : bs.size = lb.length)
    (h1 : ∀ (i : Nat) p, la[i]? = some p → RV F μ w (as[i]?.getD undef) p) (h2 : ∀ (i : Nat) p, lb[i]? = some p → RV F μ w (bs[i]?.getD undef) p) : RV F μ w (.func f as bs) (mkFn f la lb) := by
  unfold mkFn
  split
  · rename_i x y hx hy
    obtain ⟨a1, a2⟩ := pureL_rv hx h1
    obtain ⟨b1, b2⟩ := pureL_rv hy h2
    exact .p (.fn f as bs x y (ha.trans a1) (hb.trans b1) a2 b2)
  · exact .fn f as bs la lb ha hb h1 h2
def AV.cells : AV → List AV
  | .p v => v.cells.map .p
  | .agg cs => cs
  | v => [v]
theorem RP.cells {v : Value} {p : PV} (h : RP F w v p) : v.cells.size = p.cells.length ∧ ∀ (i : Nat) q, p.cells[i]? = some q → RP F w (v.cells[i]?.getD undef) q := by
  have one : ∀ {v : Value} {p : PV}, v.cells = #[v] → p.cells = [p] → RP F w v p → v.cells.size = p.cells.length ∧ ∀ (i : Nat) q, p.cells[i]? = some q → RP F w (v.cells[i]?.getD undef) q := by
    intro v p hv hp h
    rw [hv, hp]
    refine ⟨rfl, fun i q hq => ?_⟩
    cases i with
    | zero => simp at hq; subst hq; simpa using h
    | succ i => simp at hq
  cases h with
  | agg cs l h1 h2 => exact ⟨h1, h2⟩
  | int k n => exact one rfl rfl (.int k n)
  | bool b => exact one rfl rfl (.bool b)
  | str s => exact one rfl rfl (.str s)
  | nilf => exact one rfl rfl .nilf
  | nilp => exact one rfl rfl .nilp
  | ro b off cs c h1 h2 h3 => exact one rfl rfl (.ro b off cs c h1 h2 h3)
  | nili => exact one rfl rfl .nili
  | iface t v q h => exact one rfl rfl (.iface t v q h)
  | tup cs l h1 h2 => exact one rfl rfl (.tup cs l h1 h2)
  | fn f as bs ls ms h1 h2 h3 h4 => exact one rfl rfl (.fn f as bs ls ms h1 h2 h3 h4)
  | mp b ks m es clock h0 h1 h2 h3 h4 h5 => exact one rfl rfl (.mp b ks m es clock h0 h1 h2 h3 h4 h5)
  | esl a cap sz clip h1 h2 h3 => exact one rfl rfl (.esl a cap sz clip h1 h2 h3)
  | sl b off len cap sz clip l c hb h1 h2 h3 h4 h5 h6 h7 => exact one rfl rfl (.sl b off len cap sz clip l c hb h1 h2 h3 h4 h5 h6 h7)
theorem RV.cells {v : Value} {a : AV} (ha : a ≠ .any) (h : RV F μ w v a) : v.cells.size = a.cells.length ∧ ∀ (i : Nat) c, a.cells[i]? = some c → RV F μ w (v.cells[i]?.getD undef) c := by
  have one : ∀ {v : Value} {a : AV}, v.cells = #[v] → a.cells = [a] → RV F μ w v a → v.cells.size = a.cells.length ∧ ∀ (i : Nat) c, a.cells[i]? = some c → RV F μ w (v.cells[i]?.getD undef) c := by
    intro v p hv hp h
    rw [hv, hp]
    refine ⟨rfl, fun i q hq => ?_⟩
    cases i with
    | zero => simp at hq; subst hq; simpa using h
    | succ i => simp at hq
  cases h with
  | any v => exact absurd rfl ha
  | p h =>
    obtain ⟨h1, h2⟩ := h.cells
    refine ⟨by simpa [AV.cells] using h1, fun i c hc => ?_⟩
    simp only [AV.cells, List.getElem?_map, Option.map_eq_some_iff] at hc
    obtain ⟨q, hq, rfl⟩ := hc
    exact .p (h2 i q hq)
  | agg cs l h1 h2 => exact ⟨h1, h2⟩
  | ptr o off b h => exact one rfl rfl (.ptr o off b h)
  | msl o sz off off' len cap b t n h1 h0 h2 h3 h4 h5 => exact one rfl rfl (.msl o sz off off' len cap b t n h1 h0 h2 h3 h4 h5)
  | rsl o sz i len v h => cases h with | msl o sz off off' len cap b t n h1 h0 h2 h3 h4 h5 => exact one rfl rfl (.rsl _ _ _ _ _ (.msl o sz _ off' len cap b t n h1 h0 h2 h3 h4 h5))
  | csl o sz i len cap base h => exact one rfl rfl (.csl o sz i len cap base h)
  | eptr o sz i j v h => cases h with | ptr o off b h => exact one rfl rfl (.eptr _ _ _ _ _ (.ptr o _ b h))
  | mp o b h => exact one rfl rfl (.mp o b h)
  | ch o b h => exact one rfl rfl (.ch o b h)
  | tup cs l h1 h2 => exact one rfl rfl (.tup cs l h1 h2)
  | fn f as bs ls ms h1 h2 h3 h4 => exact one rfl rfl (.fn f as bs ls ms h1 h2 h3 h4)
end
def isAggD : TypeDesc → Bool
  | .struct _ | .array _ _ => true
  | _ => false
def tT (P : Program) (t : TypeId) : Option (Nat × Bool) :=
  match P.info? t, P.underlying t with | some i, some d => some (i.size, isAggD d) | _, _ => none
def tF (P : Program) (t : TypeId) (f : Nat) : Option (Nat × Nat × Bool) :=
  match P.underlying t with
  | some (.struct fs) => match fs[f]? with | some x => (match tT P x.type with | some (s, g) => some (x.offset, s, g) | none => none) | none => none
  | _ => none
def tE (P : Program) (t : TypeId) : Option (Nat × Bool) :=
  match P.underlying t with | some (.slice e) => tT P e | _ => none
def tA (P : Program) (t : TypeId) : Option (Nat × Nat × Bool) :=
  match P.underlying t with | some (.array n e) => (match tT P e with | some (s, g) => some (n, s, g) | none => none) | _ => none
def tZ (P : Program) (t : TypeId) : Option (List PV) :=
  match P.info? t with | some i => (match i.zero with | some v => zeroPVs v.cells.toList | none => none) | none => none
theorem tT_spec {P : Program} {t : TypeId} {s : Nat} {g : Bool} (h : tT P t = some (s, g)) : (∃ i, P.info? t = some i ∧ i.size = s) ∧ ∃ d, P.underlying t = some d ∧ isAggD d = g := by
  unfold tT at h
  split at h
  · rename_i i d h1 h2; simp at h; exact ⟨⟨i, h1, h.1⟩, d, h2, h.2⟩
  · cases h
theorem run_isAgg {P : Program} {t : TypeId} {s : Nat} {g : Bool} (h : tT P t = some (s, g)) (w : World) : (isAgg t).run P w = .ok g w := by
  obtain ⟨_, d, h1, h2⟩ := tT_spec h
  subst h2
  simp [isAgg, underlying, h1]
  cases d <;> simp [isAggD]
theorem run_sizeOf {P : Program} {t : TypeId} {s : Nat} {g : Bool} (h : tT P t = some (s, g)) (w : World) : (sizeOf t).run P w = .ok s w := by
  obtain ⟨⟨i, h1, h2⟩, _⟩ := tT_spec h
  subst h2
  simp [sizeOf, typeInfo, h1]
theorem tF_spec {P : Program} {t : TypeId} {f off s : Nat} {g : Bool} (h : tF P t f = some (off, s, g)) :
    ∃ fs x, P.underlying t = some (.struct fs) ∧ fs[f]? = some x ∧ x.offset = off ∧ tT P x.type = some (s, g) := by
  unfold tF at h
  split at h
  · rename_i fs h1
    split at h
    · rename_i x hx
      split at h
      · rename_i s' g' hs
        simp at h
        obtain ⟨rfl, rfl, rfl⟩ := h
        exact ⟨fs, x, h1, hx, rfl, hs⟩
      · cases h
    · cases h
  · cases h
theorem tE_spec {P : Program} {t : TypeId} {s : Nat} {g : Bool} (h : tE P t = some (s, g)) : ∃ e, P.underlying t = some (.slice e) ∧ tT P e = some (s, g) := by
  unfold tE at h
  split at h
  · rename_i e h1; exact ⟨e, h1, h⟩
  · cases h
theorem tA_spec {P : Program} {t : TypeId} {n s : Nat} {g : Bool} (h : tA P t = some (n, s, g)) : ∃ e, P.underlying t = some (.array n e) ∧ tT P e = some (s, g) := by
  unfold tA at h
  split at h
  · rename_i m e h1
    split at h
    · rename_i s' g' h2; simp at h; obtain ⟨rfl, rfl, rfl⟩ := h; exact ⟨e, h1, h2⟩
    · cases h
  · cases h
theorem tZ_spec {P : Program} {t : TypeId} {l : List PV} (h : tZ P t = some l) : ∃ i v, P.info? t = some i ∧ i.zero = some v ∧ zeroPVs v.cells.toList = some l := by
  unfold tZ at h
  split at h
  · rename_i i h1
    split at h
    · rename_i v hv; exact ⟨i, v, h1, hv, h⟩
    · cases h
  · cases h
theorem run_zeroValue {P : Program} {t : TypeId} {l : List PV} (h : tZ P t = some l) (w : World) : ∃ v, (∀ w', (zeroValue t).run P w' = .ok v w') ∧ v.cells.size = l.length ∧ ∀ F (i : Nat) p, l[i]? = some p → RP F w (v.cells[i]?.getD undef) p := by
  obtain ⟨i, v, h1, h2, h3⟩ := tZ_spec h
  refine ⟨v, fun w' => by simp [zeroValue, typeInfo, h1, h2], ?_, fun F j p hp => ?_⟩
  · have := (zeroPVs_spec (F := fun _ => False) (w := w) h3).1; simpa using this
  · have := (zeroPVs_spec (F := F) (w := w) h3).2 j p hp; simpa using this
def partP (g : Bool) (sz : Nat) (cs : List PV) (off : Nat) (K : AV → Prop) : Prop :=
  match g with
  | true => off + sz ≤ cs.length ∧ K (.p (.agg ((cs.drop off).take sz)))
  | false => match cs[off]? with | some v => K (.p v) | none => False
def partA (g : Bool) (sz : Nat) (cs : List AV) (off : Nat) (K : AV → Prop) : Prop :=
  match g with
  | true => off + sz ≤ cs.length ∧ K (mkAgg ((cs.drop off).take sz))
  | false => match cs[off]? with | some v => K v | none => False
section
variable {P : Program} {F : Nat → Prop} {μ : Num} {w : World} {K : AV → Prop}
theorem partP_spec {t : TypeId} {g : Bool} {sz off : Nat} {l : List PV} {cs : Array Value} (ht : tT P t = some (sz, g)) (hs : cs.size = l.length)
    (hr : ∀ (i : Nat) p, l[i]? = some p → RP F w (cs[i]?.getD undef) p) (h : partP g sz l off K) : ∃ av v, K av ∧ RV F μ w v av ∧ ∀ w', (part t cs off).run P w' = .ok v w' := by
  cases g with
  | true =>
    obtain ⟨h1, h2⟩ := h
    refine ⟨_, .agg (cs.extract off (off + sz)), h2, .p (.agg _ _ (by simp; omega) fun i p hp => ?_), fun w' => by simp [part, run_isAgg ht, run_sizeOf ht]⟩
    have hi : i < sz := by have := (List.getElem?_eq_some_iff.1 hp).1; simp at this; omega
    rw [List.getElem?_take_of_lt hi, List.getElem?_drop] at hp
    have := hr _ _ hp
    simpa [Array.getElem?_extract, show i < min (off + sz) cs.size - off by omega, show off + i < cs.size by omega] using this
  | false =>
    simp only [partP] at h
    split at h
    · rename_i v hv
      have hlt : off < cs.size := by rw [hs]; exact (List.getElem?_eq_some_iff.1 hv).1
      refine ⟨_, cs[off], h, .p (by have := hr _ _ hv; simpa [hlt] using this), fun w' => by simp [part, run_isAgg ht, hlt]⟩
    · exact h.elim
theorem partA_spec {t : TypeId} {g : Bool} {sz off : Nat} {l : List AV} {cs : Array Value} (ht : tT P t = some (sz, g)) (hs : cs.size = l.length)
    (hr : ∀ (i : Nat) p, l[i]? = some p → RV F μ w (cs[i]?.getD undef) p) (h : partA g sz l off K) : ∃ av v, K av ∧ RV F μ w v av ∧ ∀ w', (part t cs off).run P w' = .ok v w' := by
  cases g with
  | true =>
    obtain ⟨h1, h2⟩ := h
    refine ⟨_, .agg (cs.extract off (off + sz)), h2, mkAgg_spec (by simp; omega) fun i p hp => ?_, fun w' => by simp [part, run_isAgg ht, run_sizeOf ht]⟩
    have hi : i < sz := by have := (List.getElem?_eq_some_iff.1 hp).1; simp at this; omega
    rw [List.getElem?_take_of_lt hi, List.getElem?_drop] at hp
    have := hr _ _ hp
    simpa [Array.getElem?_extract, show i < min (off + sz) cs.size - off by omega, show off + i < cs.size by omega] using this
  | false =>
    simp only [partA] at h
    split at h
    · rename_i v hv
      have hlt : off < cs.size := by rw [hs]; exact (List.getElem?_eq_some_iff.1 hv).1
      refine ⟨_, cs[off], h, by have := hr _ _ hv; simpa [hlt] using this, fun w' => by simp [part, run_isAgg ht, hlt]⟩
    · exact h.elim
end
end Go.Sg
namespace Go.Sg
open Go
def Fits (k : IntKind) (n : Int) : Prop := k.wrap n = n
theorem fits_i64 {n : Int} (h1 : -9223372036854775808 ≤ n) (h2 : n ≤ 9223372036854775807) : Fits .i64 n := by
  unfold Fits IntKind.wrap IntKind.signed IntKind.bits
  simp only [Bool.true_and, decide_eq_true_eq, Nat.reduceSub]
  split <;> omega
theorem fits_u64 {n : Int} (h1 : 0 ≤ n) (h2 : n ≤ 18446744073709551615) : Fits .u64 n := by
  unfold Fits IntKind.wrap IntKind.signed IntKind.bits
  simp only [Bool.false_and, Bool.false_eq_true, if_false]
  omega
def bitsI (op : BinOp) (k : IntKind) (x y : Int) : Int :=
  match op with
  | .and => k.wrap (BitVec.ofInt k.bits x &&& BitVec.ofInt k.bits y).toNat
  | .or => k.wrap (BitVec.ofInt k.bits x ||| BitVec.ofInt k.bits y).toNat
  | .xor => k.wrap (BitVec.ofInt k.bits x ^^^ BitVec.ofInt k.bits y).toNat
  | _ => k.wrap (BitVec.ofInt k.bits x &&& ~~~(BitVec.ofInt k.bits y)).toNat
def pickK (c a b : AV) (K : AV → Prop) : Prop :=
  match c with
  | .p (.bool t) => K (bif t then a else b)
  | _ => False
def fieldK (P : Program) (t f : Nat) (x : AV) (K : AV → Prop) : Prop :=
  match tF P t f with
  | some (off, s, g) => (match x with | .p (.agg cs) => partP g s cs off K | .agg cs => partA g s cs off K | _ => False)
  | none => False
def loadK (P : Program) (t : TypeId) (a : AV) (σ : Heap) (K : AV → Prop) : Prop :=
  match tT P t with
  | some (s, g) => (match a with
    | .p (.ro cs) => partP g s cs 0 K
    | .ptr o off => (match σ.get o with | .cells cs => partA g s cs off K | _ => False)
    | _ => False)
  | none => False
def nilK (a : AV) (K : AV → Prop) : Prop :=
  match a with
  | .ptr .. => K a
  | .p (.ro _) => K a
  | .fn (.func _) _ _ => K a
  | .p (.fn (.func _) _ _) => K a
  | .p (.fn (.yield _) _ _) => K a
  | _ => False
def faK (P : Program) (t f : Nat) (x : AV) (K : AV → Prop) : Prop :=
  match tF P t f with
  | some (off, s, _) => (match x with
    | .ptr o b => 0 < s ∧ K (.ptr o (b + off))
    | .p (.ro cs) => 0 < s ∧ K (.p (.ro (cs.drop off)))
    | _ => False)
  | none => False
def iaK (P : Program) (t : TypeId) (x i : AV) (K : AV → Prop) : Prop :=
  match tE P t with
  | some (s, _) => (match x, i with
    | .p (.sl sz _ l), .p (.int _ n) => (sz = s ∧ 0 ≤ n ∧ n < l.length) ∧ ∀ p, l[n.toNat]? = some p → K (.p (.ro p.cells))
    | .msl o sz off len, .p (.int _ n) => (sz = s ∧ 0 ≤ n ∧ n < len) ∧ K (.ptr o (off + n.toNat * s))
    | _, _ => False)
  | none => (match tA P t with
    | some (m, s, _) => (match x, i with
      | .ptr o off, .p (.int _ n) => (0 ≤ n ∧ n < m) ∧ K (.ptr o (off + n.toNat * s))
      | .p (.ro cs), .p (.int _ n) => (0 ≤ n ∧ n < m) ∧ K (.p (.ro (cs.drop (n.toNat * s))))
      | _, _ => False)
    | none => False)
def tStr (P : Program) (t : TypeId) : Bool := match P.underlying t with | some .string => true | _ => false
def ixK (P : Program) (t : TypeId) (x i : AV) (K : AV → Prop) : Prop :=
  match tA P t with
  | some (m, s, g) => (match x, i with
    | .p (.agg cs), .p (.int _ n) => (0 ≤ n ∧ n < m) ∧ partP g s cs (n.toNat * s) K
    | .agg cs, .p (.int _ n) => (0 ≤ n ∧ n < m) ∧ partA g s cs (n.toNat * s) K
    | _, _ => False)
  | none => (match x, i with
    | .p (.str b), .p (.int _ n) => tStr P t = true ∧ (0 ≤ n ∧ n < b.size) ∧ K (.p (.int .u8 (b.data.toList.getD n.toNat 0).toNat))
    | _, _ => False)
def intK (op : BinOp) (k k' : IntKind) (a b : Int) (K : AV → Prop) : Prop :=
  match op with
  | .add => k = k' ∧ Fits k (a + b) ∧ K (.p (.int k (a + b)))
  | .sub => k = k' ∧ Fits k (a - b) ∧ K (.p (.int k (a - b)))
  | .mul => k = k' ∧ Fits k (a * b) ∧ K (.p (.int k (a * b)))
  | .quo => k = k' ∧ (b ≠ 0 ∧ Fits k (a.tdiv b)) ∧ K (.p (.int k (a.tdiv b)))
  | .rem => k = k' ∧ b ≠ 0 ∧ K (.p (.int k (a.tmod b)))
  | .and => k = k' ∧ K (.p (.int k (bitsI .and k a b)))
  | .or => k = k' ∧ K (.p (.int k (bitsI .or k a b)))
  | .xor => k = k' ∧ K (.p (.int k (bitsI .xor k a b)))
  | .andNot => k = k' ∧ K (.p (.int k (bitsI .andNot k a b)))
  | .shl => 0 ≤ b ∧ K (.p (.int k (k.wrap (a * 2 ^ min b.toNat k.bits))))
  | .shr => 0 ≤ b ∧ K (.p (.int k (a.fdiv (2 ^ min b.toNat k.bits))))
  | .eql => k = k' ∧ K (.p (.bool (decide (a = b))))
  | .neq => k = k' ∧ K (.p (.bool (decide (a ≠ b))))
  | .lss => k = k' ∧ K (.p (.bool (decide (a < b))))
  | .leq => k = k' ∧ K (.p (.bool (decide (a ≤ b))))
  | .gtr => k = k' ∧ K (.p (.bool (decide (b < a))))
  | .geq => k = k' ∧ K (.p (.bool (decide (b ≤ a))))
def strK (op : BinOp) (a b : ByteArray) (K : AV → Prop) : Prop :=
  match op with
  | .eql => K (.p (.bool (decide (a = b))))
  | .neq => K (.p (.bool (decide (a ≠ b))))
  | .add => a.size + b.size ≤ 9223372036854775807 ∧ K (.p (.str (a ++ b)))
  | _ => False
def tBool (P : Program) (t : TypeId) : Bool := match P.underlying t with | some .bool => true | _ => false
def boolK (P : Program) (op : BinOp) (t : TypeId) (a b : Bool) (K : AV → Prop) : Prop :=
  match op with
  | .eql => tBool P t = true ∧ K (.p (.bool (a == b)))
  | .neq => tBool P t = true ∧ K (.p (.bool (a != b)))
  | _ => False
def binK (P : Program) (op : BinOp) (t : TypeId) (x y : AV) (K : AV → Prop) : Prop :=
  match x, y with
  | .p (.int k a), .p (.int k' b) => intK op k k' a b K
  | .p (.str a), .p (.str b) => strK op a b K
  | .p (.bool a), .p (.bool b) => boolK P op t a b K
  | _, _ => False
def unK (op : UnOp) (x : AV) (K : AV → Prop) : Prop :=
  match op, x with
  | .not, .p (.bool b) => K (.p (.bool !b))
  | .neg, .p (.int k n) => Fits k (0 - n) ∧ K (.p (.int k (0 - n)))
  | .xor, .p (.int k n) => K (.p (.int k (bitsI .xor k (if k.signed then -1 else k.max) n)))
  | _, _ => False
def exK (x : AV) (i : Nat) (K : AV → Prop) : Prop :=
  match x with
  | .p (.tup vs) => (match vs[i]? with | some v => K (.p v) | none => False)
  | .tup vs => (match vs[i]? with | some v => K v | none => False)
  | _ => False
inductive CK where
  | int (k : IntKind) | str | bytes | none
  deriving DecidableEq, Inhabited
def tC (P : Program) (t : TypeId) : CK :=
  match P.underlying t with
  | some (.int k) => .int k
  | some .string => .str
  | some (.slice e) => (match P.underlying e with | some (.int .u8) => .bytes | _ => .none)
  | _ => .none
def u8s : List PV → Option (List Int)
  | [] => some []
  | .int .u8 n :: r => match u8s r with | some q => some (n :: q) | none => none
  | _ => none
def u8A : List AV → Option (List Int)
  | [] => some []
  | .p (.int .u8 n) :: r => match u8A r with | some q => some (n :: q) | none => none
  | _ => none
def tK (P : Program) (t : TypeId) : Bool := (P.underlying t).isSome
def convK (P : Program) (s d : TypeId) (x : AV) (σ : Heap) (K : AV → Prop) : Prop :=
  match tC P d with
  | .int k => (match x with | .p (.int _ n) => tK P s = true ∧ K (.p (.int k (k.wrap n))) | _ => False)
  | .str => (match x with
    | .p (.str b) => tC P s = .str ∧ K (.p (.str b))
    | .p (.sl sz _ l) => tC P s = .bytes ∧ sz ≤ 1 ∧ ∃ q, u8s l = some q ∧ K (.p (.str (strOfNums q)))
    | .msl o sz off len => tC P s = .bytes ∧ sz = 1 ∧ (match σ.get o with | .cells cs => off + len ≤ cs.length ∧ ∃ q, u8A ((cs.drop off).take len) = some q ∧ K (.p (.str (strOfNums q))) | _ => False)
    | _ => False)
  | _ => False
def optI (d : Int) : Option AV → Option Int
  | none => some d
  | some (.p (.int _ n)) => some n
  | _ => none
def slK (P : Program) (t : TypeId) (x : AV) (lo hi mx : Option AV) (σ : Heap) (K : AV → Prop) : Prop :=
  match x with
  | .p (.sl sz c l) => (match tE P t, optI 0 lo, optI l.length hi with
    | some (s, _), some a, some b => (match mx with
      | none => ((sz = s ∨ l = []) ∧ 0 ≤ a ∧ a ≤ b ∧ b ≤ l.length) ∧ K (.p (.sl sz (c && hi.isNone) ((l.take b.toNat).drop a.toNat)))
      | some m => ((sz = s ∨ l = []) ∧ 0 ≤ a ∧ a ≤ b ∧ b ≤ l.length) ∧ hi.isSome ∧ optI 0 (some m) = some b ∧ K (.p (.sl sz true ((l.take b.toNat).drop a.toNat))))
    | _, _, _ => False)
  | .msl o sz off len => (match tE P t, optI 0 lo, optI len hi with
    | some (s, _), some a, some b => (match mx with
      | none => (sz = s ∧ 0 ≤ a ∧ a ≤ b ∧ b ≤ len) ∧ K (.msl o sz (off + a.toNat * s) (b.toNat - a.toNat))
      | some m => (sz = s ∧ 0 ≤ a ∧ a ≤ b ∧ b ≤ len) ∧ hi.isSome ∧ optI 0 (some m) = some b ∧ K (.msl o sz (off + a.toNat * s) (b.toNat - a.toNat)))
    | _, _, _ => False)
  | .ptr o off => (match tA P t, σ.get o, mx with
    | some (n, s, _), .cells cs, none => (match optI 0 lo, optI n hi with
      | some a, some b => (0 ≤ a ∧ a ≤ b ∧ b ≤ n) ∧ (off + n * s ≤ cs.length ∧ n ≤ 1000000000) ∧ K (.msl o s (off + a.toNat * s) (b.toNat - a.toNat))
      | _, _ => False)
    | _, _, _ => False)
  | .p (.str b) => (match optI 0 lo, optI b.size hi with
    | some a, some e => mx.isNone ∧ tStr P t = true ∧ (0 ≤ a ∧ a ≤ e ∧ e ≤ b.size) ∧ K (.p (.str (b.extract a.toNat e.toNat)))
    | _, _ => False)
  | _ => False
def tIf (P : Program) (t : TypeId) : Bool := match P.underlying t with | some (.interface _) => true | none => true | _ => false
def ifK (P : Program) (t : TypeId) (x : AV) (K : AV → Prop) : Prop :=
  match x with
  | .p v => tIf P t = false ∧ K (.p (.iface t v))
  | _ => False
def taK (P : Program) (t : TypeId) (x : AV) (K : AV → Prop) : Prop :=
  match x with
  | .p (.iface t' v) => tIf P t = false ∧ t' = t ∧ K (.p v)
  | _ => False
def lenK (x : AV) (P : Program) (t : TypeId) (K : AV → Prop) : Prop :=
  match x with
  | .p (.sl _ _ l) => (tE P t).isSome ∧ K (.p (.int .i64 l.length))
  | .msl _ _ _ n => (tE P t).isSome ∧ K (.p (.int .i64 n))
  | .p (.str b) => tStr P t = true ∧ K (.p (.int .i64 b.size))
  | _ => False
def minmaxK (mx : Bool) : AV → List AV → (AV → Prop) → Prop
  | x, [], K => (match x with | .p (.int _ _) => K x | _ => False)
  | .p (.int k a), .p (.int _ b) :: r, K => minmaxK mx (.p (.int k (if mx then (if b > a then b else a) else (if b < a then b else a)))) r K
  | _, _, _ => False
def tFs (P : Program) : List Field → Option (List (Nat × Nat))
  | [] => some []
  | x :: r => match tT P x.type, tFs P r with | some (s, _), some l => some ((x.offset, s) :: l) | _, _ => none
def tPs (P : Program) (t : TypeId) : Option (List (Nat × Nat) × Nat) :=
  match P.underlying t with
  | some (.struct fs) => (match tFs P fs.toList with | some l => some (l, 0) | none => none)
  | some (.array _ e) => (match tT P e with | some (s, _) => (if s = 0 then none else some ([], s)) | none => none)
  | _ => none
def placeOf (l : List (Nat × Nat)) (s i : Nat) : Option (Nat × Nat) := if s = 0 then l[i]? else some (i * s, s)
def AV.isAny : AV → Bool
  | .any => true
  | _ => false
def setAtL (cs : List AV) (off : Nat) : List AV → List AV
  | [] => cs
  | v :: r => setAtL (cs.set off v) (off + 1) r
def fillA (pl : Nat → Option (Nat × Nat)) (cells : List AV) : List (Nat × AV) → Option (List AV)
  | [] => some cells
  | (i, v) :: r => match pl i with
    | some (off, s) => if v.isAny = false ∧ v.cells.length = s ∧ off + s ≤ cells.length then fillA pl (setAtL cells off v.cells) r else none
    | none => none
def tZA (P : Program) (t : TypeId) : Option (List AV) :=
  match tZ P t with
  | some z => some (z.map .p)
  | none => (match P.info? t with
    | some i => (match i.zero with | some v => some (List.replicate v.cells.size .any) | none => none)
    | none => none)
def buildK (P : Program) (t : TypeId) (parts : List (Nat × AV)) (K : AV → Prop) : Prop :=
  match tZA P t, tPs P t with
  | some z, some (l, s) => (match fillA (placeOf l s) z parts with | some cs => K (mkAgg cs) | none => False)
  | _, _ => False
def qK (P : Program) (op : Op) (ev : Operand → AV) (σ : Heap) (K : AV → Prop) : Prop :=
  match op with
  | .move x => K (ev x)
  | .assign x => K (ev x)
  | .pick c a b => pickK (ev c) (ev a) (ev b) K
  | .field t x f => fieldK P t f (ev x) K
  | .load t a => loadK P t (ev a) σ K
  | .nilCheck x => nilK (ev x) K
  | .fieldAddr t x f => faK P t f (ev x) K
  | .indexAddr t x i => iaK P t (ev x) (ev i) K
  | .index t x i => ixK P t (ev x) (ev i) K
  | .binOp op t x y _ => binK P op t (ev x) (ev y) K
  | .unOp op _ x => unK op (ev x) K
  | .extract x i => exK (ev x) i K
  | .convert s d x => convK P s d (ev x) σ K
  | .makeFunc f a b => K (mkFn f (a.toList.map ev) (b.toList.map ev))
  | .slice t x lo hi mx => slK P t (ev x) (lo.map ev) (hi.map ev) (mx.map ev) σ K
  | .makeInterface t x => ifK P t (ev x) K
  | .typeAssert x _ t c => (match c with | false => taK P t (ev x) K | true => False)
  | .build t parts => buildK P t (parts.toList.map fun y => (y.1, ev y.2)) K
  | .call c => (match c.callee with
    | .builtin .len => (match c.args.toList, c.argTypes[0]? with | [x], some t => lenK (ev x) P t K | _, _ => False)
    | .builtin .max => (match c.args.toList with | x :: r => minmaxK true (ev x) (r.map ev) K | [] => False)
    | .builtin .min => (match c.args.toList with | x :: r => minmaxK false (ev x) (r.map ev) K | [] => False)
    | _ => False)
  | _ => False
def Same (w w' : World) : Prop := ∀ b, b < w.heap.size → w'.heap[b]? = w.heap[b]?
theorem Same.cell {w w' : World} (h : Same w w') {a : Addr} {v : Value} (hc : w.cell? a = some v) : w'.cell? a = some v := by
  have hb : a.block < w.heap.size := by
    unfold World.cell? at hc
    rcases Nat.lt_or_ge a.block w.heap.size with h' | h'
    · exact h'
    · simp [Array.getElem?_eq_none h'] at hc
  exact (cell_of_block (h _ hb)).trans hc
def Qt (P : Program) (F : Nat → Prop) (μ : Num) (w : World) (K : AV → Prop) (s : Sem Value) : Prop :=
  ∃ av v, K av ∧ RV F μ w v av ∧ ∀ w', Same w w' → s.run P w' = .ok v w'
section
variable {P : Program} {F : Nat → Prop} {μ : Num} {σ : Heap} {w : World} {K : AV → Prop}
theorem Qt.of {s : Sem Value} (av : AV) (v : Value) (h : K av) (hr : RV F μ w v av) (hs : ∀ w', s.run P w' = .ok v w') : Qt P F μ w K s := ⟨av, v, h, hr, fun w' _ => hs w'⟩
theorem fieldK_sound {t f : Nat} {x : AV} {v : Value} (hx : RV F μ w v x) (h : fieldK P t f x K) : Qt P F μ w K (Instr.field t v f) := by
  unfold fieldK at h
  split at h
  · rename_i off s g ht
    obtain ⟨fs, y, h1, h2, h3, h4⟩ := tF_spec ht
    split at h
    · cases hx; rename_i hx; cases hx; rename_i cs hs hr
      obtain ⟨av, u, k1, k2, k3⟩ := partP_spec (F := F) (μ := μ) (w := w) h4 hs hr h
      exact .of av u k1 k2 fun w' => by simp [Instr.field, underlying, h1, h2, asAgg, h3, k3]
    · cases hx; rename_i cs hs hr
      obtain ⟨av, u, k1, k2, k3⟩ := partA_spec (F := F) (μ := μ) (w := w) h4 hs hr h
      exact .of av u k1 k2 fun w' => by simp [Instr.field, underlying, h1, h2, asAgg, h3, k3]
    · exact h.elim
  · exact h.elim
theorem add_none (b off n : Nat) : Addr.add ⟨b, off, none⟩ n = ⟨b, off + n, none⟩ := by
  unfold Addr.add; split <;> simp_all
theorem cell_row {w : World} {b j : Nat} {cs : Array Value} {t : TypeId} {fz : Nat × Nat} (h : w.heap[b]? = some (.cells cs t fz)) : w.cell? ⟨b, j, none⟩ = cs[j]? := by simp [World.cell?, h]
def loadV (g : Bool) (s : Nat) (c : Nat → Value) : Value := match g with | true => .agg ((Array.range s).map c) | false => c 0
theorem run_loadVar_known {t : TypeId} {s : Nat} {g : Bool} (ht : tT P t = some (s, g)) {b off : Nat} {f : Nat → Value} {n : Nat} (w' : World) (hn : g = true → s ≤ n) (hn' : g = false → 0 < n)
    (hc : ∀ j, j < n → w'.cell? ⟨b, off + j, none⟩ = some (f j)) : (loadVar t ⟨b, off, none⟩).run P w' = .ok (loadV g s f) w' := by
  cases g with
  | false =>
    have := hc 0 (hn' rfl)
    simp only [Nat.add_zero] at this
    simp [loadVar, run_isAgg ht, this, loadV]
  | true =>
    have h1 := run_loadCells (P := P) (w := w') ⟨b, off, none⟩ s f (fun j hj => by rw [add_none]; exact hc j (Nat.lt_of_lt_of_le hj (hn rfl)))
    simp only [loadVar, Sem.run_bind, run_isAgg ht, run_sizeOf ht, Result.andThen_ok, if_true, Sem.run_pure, h1]
    congr 2
    apply Array.ext
    · simp
    · intro i hi hi'; simp
theorem loadK_sound {t : TypeId} {a : AV} {v : Value} (hσ : SimH F μ σ w) (ha : RV F μ w v a) (h : loadK P t a σ K) : Qt P F μ w K (Instr.loadAt t v) := by
  unfold loadK at h
  split at h
  · rename_i s g ht
    split at h
    · rename_i cs
      obtain ⟨b, off, c, rfl, hF, hc⟩ := ha.pure_inv.ro_inv
      have hcell : ∀ (j : Nat) q, cs[j]? = some q → RP F w (c j) q := fun j q hq => (hc j q hq).2
      obtain ⟨hlen, hlen', hK⟩ : (g = true → s ≤ cs.length) ∧ (g = false → 0 < cs.length) ∧ ∃ av, K av ∧ RV F μ w (loadV g s c) av := by
        cases g with
        | true =>
          obtain ⟨h1, h2⟩ := h
          refine ⟨fun _ => by omega, by simp, _, h2, .p (.agg _ _ (by simp; omega) fun i p hp => ?_)⟩
          have hi : i < s := by have := (List.getElem?_eq_some_iff.1 hp).1; simp at this; omega
          rw [List.getElem?_take_of_lt hi, List.drop_zero] at hp
          simpa [hi] using hcell i p hp
        | false =>
          simp only [partP] at h
          split at h
          · rename_i q hq; exact ⟨by simp, fun _ => (List.getElem?_eq_some_iff.1 hq).1, _, h, .p (hcell 0 q hq)⟩
          · exact h.elim
      obtain ⟨av, k1, k2⟩ := hK
      refine ⟨av, _, k1, k2, fun w' hw => ?_⟩
      simp only [Instr.loadAt, Instr.sureAddr, Sem.run_bind, Sem.run_pure, Result.andThen_ok]
      exact run_loadVar_known ht w' hlen hlen' fun j hj => hw.cell (hc j _ (List.getElem?_eq_getElem hj)).1
    · rename_i o off
      cases ha; rename_i b hb
      split at h
      · rename_i cs ho
        obtain ⟨cur, ty, h1, h2, h3⟩ := hσ.cells ho hb
        have hcell : ∀ (j : Nat) q, cs[j]? = some q → RV F μ w (cur[j]?.getD undef) q := h3
        let c : Nat → Value := fun j => cur[off + j]?.getD undef
        obtain ⟨hlen, hlen', hK⟩ : (g = true → s ≤ cs.length - off) ∧ (g = false → 0 < cs.length - off) ∧ ∃ av, K av ∧ RV F μ w (loadV g s c) av := by
          cases g with
          | true =>
            obtain ⟨h1, h2⟩ := h
            refine ⟨fun _ => by omega, by simp, _, h2, mkAgg_spec (by simp; omega) fun i p hp => ?_⟩
            have hi : i < s := by have := (List.getElem?_eq_some_iff.1 hp).1; simp at this; omega
            rw [List.getElem?_take_of_lt hi, List.getElem?_drop] at hp
            simpa [hi, c] using hcell _ p hp
          | false =>
            simp only [partA] at h
            split at h
            · rename_i q hq; exact ⟨by simp, fun _ => by have := (List.getElem?_eq_some_iff.1 hq).1; omega, _, h, by simpa [c, loadV] using hcell off q hq⟩
            · exact h.elim
        obtain ⟨av, k1, k2⟩ := hK
        refine ⟨av, _, k1, k2, fun w' hw => ?_⟩
        simp only [Instr.loadAt, Instr.sureAddr, Sem.run_bind, Sem.run_pure, Result.andThen_ok]
        refine run_loadVar_known ht w' hlen hlen' fun j hj => hw.cell ?_
        rw [cell_row h1]
        have : off + j < cur.size := by omega
        simp [c, this]
      · exact h.elim
    · exact h.elim
  · exact h.elim
theorem faK_sound {t f : Nat} {x : AV} {v : Value} (hx : RV F μ w v x) (h : faK P t f x K) : Qt P F μ w K (Instr.fieldAt t v f) := by
  unfold faK at h
  split at h
  · rename_i off s g ht
    obtain ⟨fs, y, h1, h2, h3, h4⟩ := tF_spec ht
    split at h
    · cases hx; rename_i o b' b hb
      refine .of _ (.pointer (some ⟨b, b' + off, none⟩)) h.2 (.ptr _ _ _ hb) fun w' => ?_
      have hs : s ≠ 0 := by omega
      simp [Instr.fieldAt, underlying, h1, h2, Instr.sureAddr, fieldPlace, run_sizeOf h4, hs, h3, add_none]
    · rename_i cs
      obtain ⟨b, off', c, rfl, hF, hc⟩ := hx.pure_inv.ro_inv
      refine .of _ (.pointer (some ⟨b, off' + off, none⟩)) h.2 (.p (.ro' b _ _ (fun j => c (off + j)) ?_ fun j q hq => ?_)) fun w' => ?_
      · rcases hF with h' | h'
        · subst h'; simp
        · exact .inr h'
      · rw [List.getElem?_drop] at hq
        have := hc _ _ hq
        rw [Nat.add_assoc]; exact this
      · have hs : s ≠ 0 := by omega
        simp [Instr.fieldAt, underlying, h1, h2, Instr.sureAddr, fieldPlace, run_sizeOf h4, hs, h3, add_none]
    · exact h.elim
  · exact h.elim
theorem iaK_sound {t : TypeId} {x i : AV} {v u : Value} (hx : RV F μ w v x) (hi : RV F μ w u i) (h : iaK P t x i K) : Qt P F μ w K (Instr.indexAt t v u) := by
  unfold iaK at h
  split at h
  · rename_i s g ht
    obtain ⟨e, h1, h2⟩ := tE_spec ht
    split at h
    · rename_i sz c l k n
      obtain ⟨⟨rfl, h0, hlt⟩, hK⟩ := h
      cases hi; rename_i hi; cases hi
      cases hx; rename_i hx
      cases hx with
      | esl a cap sz clip e1 e2 e3 => simp at hlt; omega
      | sl b off len cap sz clip l cv hb hl h3 h4 h5 h6 h7 h8 =>
        have hn : n.toNat < l.length := by omega
        have hg : l[n.toNat]? = some (l.getD n.toNat default) := by simp [List.getD, List.getElem?_eq_getElem hn]
        refine .of _ (.pointer (some ⟨b, off + n.toNat * sz, none⟩)) (hK _ hg) (.p (.ro' _ _ _ (cv n.toNat) (.inr hb) fun j q hq => ?_)) fun w' => ?_
        · exact ⟨h7 _ _ j q hg hq, h8 _ _ j q hg hq⟩
        · have hc : 0 ≤ n ∧ n < (len : Int) := ⟨h0, by omega⟩
          simp [Instr.indexAt, asIntOf, underlying, h1, hc, run_sizeOf h2, add_none]
    · rename_i o sz off len k n
      obtain ⟨⟨rfl, h0, hlt⟩, hK⟩ := h
      cases hi; rename_i hi; cases hi
      cases hx with
      | msl o sz off off' len cap b t' n' hb hcap hsh hbd hlc hcm =>
      refine .of _ (.pointer (some ⟨b, off + n.toNat * sz, none⟩)) hK (.ptr _ _ _ hb) fun w' => ?_
      have hc : 0 ≤ n ∧ n < (len : Int) := ⟨h0, hlt⟩
      have : off' = off := by rcases hcap with h' | h' <;> omega
      subst this
      simp [Instr.indexAt, asIntOf, underlying, h1, hc, run_sizeOf h2, add_none]
    · exact h.elim
  · split at h
    · rename_i m s g ht
      obtain ⟨e, h1, h2⟩ := tA_spec ht
      split at h
      · rename_i o off k n
        obtain ⟨⟨h0, hlt⟩, hK⟩ := h
        cases hi; rename_i hi; cases hi
        cases hx; rename_i b hb
        refine .of _ (.pointer (some ⟨b, off + n.toNat * s, none⟩)) hK (.ptr _ _ _ hb) fun w' => ?_
        have hc : 0 ≤ n ∧ n < (m : Int) := ⟨h0, hlt⟩
        simp [Instr.indexAt, asIntOf, underlying, h1, hc, run_sizeOf h2, add_none, Instr.sureAddr]
      · rename_i cs k n
        obtain ⟨⟨h0, hlt⟩, hK⟩ := h
        cases hi; rename_i hi; cases hi
        obtain ⟨b, off, c, rfl, hF, hc⟩ := hx.pure_inv.ro_inv
        refine .of _ (.pointer (some ⟨b, off + n.toNat * s, none⟩)) hK (.p (.ro' b _ _ (fun j => c (n.toNat * s + j)) ?_ fun j q hq => ?_)) fun w' => ?_
        · rcases hF with h' | h'
          · subst h'; simp
          · exact .inr h'
        · rw [List.getElem?_drop] at hq
          have := hc _ _ hq
          rw [Nat.add_assoc]; exact this
        · have hc : 0 ≤ n ∧ n < (m : Int) := ⟨h0, hlt⟩
          simp [Instr.indexAt, asIntOf, underlying, h1, hc, run_sizeOf h2, add_none, Instr.sureAddr]
      · exact h.elim
    · exact h.elim
theorem ixK_sound {t : TypeId} {x i : AV} {v u : Value} (hx : RV F μ w v x) (hi : RV F μ w u i) (h : ixK P t x i K) : Qt P F μ w K (Instr.index t v u) := by
  unfold ixK at h
  split at h
  · rename_i m s g ht
    obtain ⟨e, h1, h2⟩ := tA_spec ht
    split at h
    · rename_i cs k n
      obtain ⟨⟨h0, hlt⟩, hK⟩ := h
      cases hi; rename_i hi; cases hi
      cases hx; rename_i hx; cases hx; rename_i vs hs hr
      obtain ⟨av, y, k1, k2, k3⟩ := partP_spec (F := F) (μ := μ) (w := w) h2 hs hr hK
      refine .of av y k1 k2 fun w' => ?_
      have hc : 0 ≤ n ∧ n < (m : Int) := ⟨h0, hlt⟩
      simp [Instr.index, asIntOf, underlying, h1, hc, run_sizeOf h2, k3]
    · rename_i cs k n
      obtain ⟨⟨h0, hlt⟩, hK⟩ := h
      cases hi; rename_i hi; cases hi
      cases hx; rename_i vs hs hr
      obtain ⟨av, y, k1, k2, k3⟩ := partA_spec (F := F) (μ := μ) (w := w) h2 hs hr hK
      refine .of av y k1 k2 fun w' => ?_
      have hc : 0 ≤ n ∧ n < (m : Int) := ⟨h0, hlt⟩
      simp [Instr.index, asIntOf, underlying, h1, hc, run_sizeOf h2, k3]
    · exact h.elim
  · split at h
    · rename_i b k n
      obtain ⟨hs, ⟨h0, hlt⟩, hK⟩ := h
      cases hi; rename_i hi; cases hi
      cases hx; rename_i hx; cases hx
      have h1 : P.underlying t = some .string := by unfold tStr at hs; split at hs <;> simp_all
      refine .of _ _ hK (.p (.int _ _)) fun w' => ?_
      have hn : n.toNat < b.data.size := by have : b.size = b.data.size := rfl; omega
      have hg : (if 0 ≤ n then b[n.toNat]? else none) = some (b.data.toList.getD n.toNat 0) := by
        rw [if_pos h0]
        have : b[n.toNat]? = some (b[n.toNat]'hn) := getElem?_pos b n.toNat hn
        rw [this]
        show some b.data[n.toNat] = _
        rw [List.getD_eq_getElem?_getD, Array.getElem?_toList, Array.getElem?_eq_getElem hn]; rfl
      simp only [Instr.index, asIntOf, underlying, Sem.run_bind, run_program, Result.andThen_ok, Sem.run_pure, h1, hg]
    · exact h.elim
end
end Go.Sg
namespace Go.Sg
open Go
section
variable {P : Program} {F : Nat → Prop} {μ : Num} {σ : Heap} {w : World} {K : AV → Prop}
theorem pickK_sound {c a b : AV} {vc va vb : Value} (hc : RV F μ w vc c) (ha : RV F μ w va a) (hb : RV F μ w vb b) (h : pickK c a b K) :
    Qt P F μ w K (do pure (if ← asBool vc then va else vb)) := by
  unfold pickK at h
  split at h
  · rename_i t
    cases hc; rename_i hc; cases hc
    refine .of _ (if t then va else vb) h (by cases t; exact hb; exact ha) fun w' => by simp [asBool]
  · exact h.elim
theorem pint_inv {v : Value} {k : IntKind} {n : Int} (h : RV F μ w v (.p (.int k n))) : v = .int k n := by cases h; rename_i h; cases h; rfl
theorem pbool_inv {v : Value} {b : Bool} (h : RV F μ w v (.p (.bool b))) : v = .bool b := by cases h; rename_i h; cases h; rfl
theorem pstr_inv {v : Value} {b : ByteArray} (h : RV F μ w v (.p (.str b))) : v = .string b := by cases h; rename_i h; cases h; rfl
theorem intK_sound {op : BinOp} {k k' : IntKind} {a b : Int} {t : TypeId} (h : intK op k k' a b K) : Qt P F μ w K (binOp op t (.int k a) (.int k' b)) := by
  cases op <;> simp only [intK] at h
  case add => obtain ⟨rfl, h1, h2⟩ := h; exact .of _ _ h2 (.p (.int _ _)) fun w' => by simp [binOp, Op.intArith, show k.wrap (a + b) = a + b from h1]
  case sub => obtain ⟨rfl, h1, h2⟩ := h; exact .of _ _ h2 (.p (.int _ _)) fun w' => by simp [binOp, Op.intArith, show k.wrap (a - b) = a - b from h1]
  case mul => obtain ⟨rfl, h1, h2⟩ := h; exact .of _ _ h2 (.p (.int _ _)) fun w' => by simp [binOp, Op.intArith, show k.wrap (a * b) = a * b from h1]
  case quo => obtain ⟨rfl, ⟨h0, h1⟩, h2⟩ := h; exact .of _ _ h2 (.p (.int _ _)) fun w' => by simp [binOp, Op.intDiv, h0, show k.wrap (a.tdiv b) = a.tdiv b from h1]
  case rem => obtain ⟨rfl, h0, h2⟩ := h; exact .of _ _ h2 (.p (.int _ _)) fun w' => by simp [binOp, Op.intDiv, h0]
  case and => obtain ⟨rfl, h2⟩ := h; exact .of _ _ h2 (.p (.int _ _)) fun w' => by simp [binOp, Op.intBits, bitsI]
  case or => obtain ⟨rfl, h2⟩ := h; exact .of _ _ h2 (.p (.int _ _)) fun w' => by simp [binOp, Op.intBits, bitsI]
  case xor => obtain ⟨rfl, h2⟩ := h; exact .of _ _ h2 (.p (.int _ _)) fun w' => by simp [binOp, Op.intBits, bitsI]
  case andNot => obtain ⟨rfl, h2⟩ := h; exact .of _ _ h2 (.p (.int _ _)) fun w' => by simp [binOp, Op.intBits, bitsI]
  case shl => obtain ⟨h1, h2⟩ := h; exact .of _ _ h2 (.p (.int _ _)) fun w' => by simp [binOp, Op.shift, show ¬ b < 0 by omega]
  case shr => obtain ⟨h1, h2⟩ := h; exact .of _ _ h2 (.p (.int _ _)) fun w' => by simp [binOp, Op.shift, show ¬ b < 0 by omega]
  case eql => obtain ⟨rfl, h2⟩ := h; exact .of _ _ h2 (.p (.bool _)) fun w' => by simp [binOp, Op.intCmp]; rfl
  case neq => obtain ⟨rfl, h2⟩ := h; exact .of _ _ h2 (.p (.bool _)) fun w' => by simp [binOp, Op.intCmp]; rfl
  case lss => obtain ⟨rfl, h2⟩ := h; exact .of _ _ h2 (.p (.bool _)) fun w' => by simp [binOp, Op.intCmp]
  case leq => obtain ⟨rfl, h2⟩ := h; exact .of _ _ h2 (.p (.bool _)) fun w' => by simp [binOp, Op.intCmp]
  case gtr => obtain ⟨rfl, h2⟩ := h; exact .of _ _ h2 (.p (.bool _)) fun w' => by simp [binOp, Op.intCmp]
  case geq => obtain ⟨rfl, h2⟩ := h; exact .of _ _ h2 (.p (.bool _)) fun w' => by simp [binOp, Op.intCmp]
theorem toList_data (a : ByteArray) : a.toList = a.data.toList := by
  have : ∀ (n i : Nat) (r : List UInt8), n = a.size - i → ByteArray.toList.loop a i r = r.reverse ++ (a.data.toList.drop i) := by
    intro n
    induction n with
    | zero =>
      intro i r h
      unfold ByteArray.toList.loop
      rw [if_neg (by omega), List.drop_eq_nil_of_le (by have : a.data.toList.length = a.size := rfl; omega)]; simp
    | succ n ih =>
      intro i r h
      unfold ByteArray.toList.loop
      have hi : i < a.size := by omega
      rw [if_pos hi, ih (i + 1) _ (by omega)]
      have hi' : i < a.data.toList.length := hi
      rw [List.drop_eq_getElem_cons hi']
      have : a.get! i = a.data.toList[i] := by
        have hd : i < a.data.size := hi
        simp only [ByteArray.get!, Array.getElem_toList]
        exact getElem!_pos a.data i hd
      simp [this]
  unfold ByteArray.toList
  rw [this _ 0 [] rfl]; simp
theorem toList_inj {a b : ByteArray} : (a.toList == b.toList) = decide (a = b) := by
  rw [toList_data, toList_data]
  rw [Bool.eq_iff_iff]
  simp only [beq_iff_eq, decide_eq_true_eq]
  constructor
  · intro h
    cases a; cases b
    simp only [ByteArray.mk.injEq]
    exact Array.toList_inj.1 h
  · intro h; rw [h]
theorem strK_sound {op : BinOp} {a b : ByteArray} {t : TypeId} (h : strK op a b K) : Qt P F μ w K (binOp op t (.string a) (.string b)) := by
  cases op <;> simp only [strK] at h
  case add =>
    obtain ⟨h1, h2⟩ := h
    refine .of _ _ h2 (.p (.str _)) fun w' => ?_
    have : ¬ ((a.size + b.size : Nat) : Int) > IntKind.i64.max := by simp [IntKind.max, IntKind.signed, IntKind.bits]; omega
    simp only [binOp, Op.stringOp, this, if_false, Sem.run_pure]
  case eql => exact .of _ _ h (.p (.bool _)) fun w' => by simp only [binOp, Op.stringOp, Sem.run_pure, toList_inj]
  case neq => exact .of _ _ h (.p (.bool _)) fun w' => by simp only [binOp, Op.stringOp, Sem.run_pure, toList_inj]; simp
  all_goals exact h.elim
theorem run_equal_bool {t : TypeId} (hu : P.underlying t = some .bool) (a b : Bool) (w' : World) : (Op.equal t (.bool a) (.bool b)).run P w' = .ok (a == b) w' := by
  have : ∀ d, (Op.equalIn (d + 1) t (.bool a) (.bool b)).run P w' = .ok (a == b) w' := fun d => by simp only [Op.equalIn, underlying, Sem.run_bind, run_program, Result.andThen_ok, hu, Sem.run_pure]
  exact this 9999
theorem boolK_sound {op : BinOp} {a b : Bool} {t : TypeId} (h : boolK P op t a b K) : Qt P F μ w K (binOp op t (.bool a) (.bool b)) := by
  have key : tBool P t = true → P.underlying t = some .bool := fun hs => by unfold tBool at hs; split at hs <;> simp_all
  cases op <;> simp only [boolK] at h
  case eql => exact .of _ _ h.2 (.p (.bool _)) fun w' => by simp only [binOp, Sem.run_bind, run_equal_bool (key h.1), Result.andThen_ok, Sem.run_pure]
  case neq => exact .of _ _ h.2 (.p (.bool _)) fun w' => by simp only [binOp, Sem.run_bind, run_equal_bool (key h.1), Result.andThen_ok, Sem.run_pure]; rfl
  all_goals exact h.elim
theorem binK_sound {op : BinOp} {t : TypeId} {x y : AV} {v u : Value} (ox oy : Operand) (hx : RV F μ w v x) (hy : RV F μ w u y) (h : binK P op t x y K) :
    Qt P F μ w K (do eqGuard op t ox oy v u; binOp op t v u) := by
  have quiet : ∀ {v u : Value}, (match v, u with | .nilIface, .nilIface => False | .agg _, .agg _ => False | _, _ => True) → Qt P F μ w K (binOp op t v u) → Qt P F μ w K (do eqGuard op t ox oy v u; binOp op t v u) := by
    intro v u hvu ⟨av, x, h1, h2, h3⟩
    refine ⟨av, x, h1, h2, fun w' hw' => ?_⟩
    have : (eqGuard op t ox oy v u).run P w' = .ok () w' := by
      unfold eqGuard
      cases op <;> simp only [Bool.not_true, Bool.not_false, Bool.false_eq_true, if_true, if_false] <;> first | rfl | (cases v <;> cases u <;> first | rfl | exact hvu.elim)
    simp [Sem.run_bind, this, h3 w' hw']
  unfold binK at h
  split at h
  · obtain rfl := pint_inv hx; obtain rfl := pint_inv hy; exact quiet trivial (intK_sound h)
  · obtain rfl := pstr_inv hx; obtain rfl := pstr_inv hy; exact quiet trivial (strK_sound h)
  · obtain rfl := pbool_inv hx; obtain rfl := pbool_inv hy; exact quiet trivial (boolK_sound h)
  · exact h.elim
theorem unK_sound {op : UnOp} {x : AV} {v : Value} (hx : RV F μ w v x) (h : unK op x K) : Qt P F μ w K (Op.unary op v) := by
  unfold unK at h
  split at h
  · obtain rfl := pbool_inv hx; exact .of _ _ h (.p (.bool _)) fun w' => rfl
  · obtain rfl := pint_inv hx
    rename_i k n
    exact .of _ _ h.2 (.p (.int _ _)) fun w' => by simp [Op.unary, Op.intArith]; have := h.1; unfold Fits at this; simpa using this
  · obtain rfl := pint_inv hx; exact .of _ _ h (.p (.int _ _)) fun w' => rfl
  · exact h.elim
theorem exK_sound {x : AV} {i : Nat} {v : Value} (hx : RV F μ w v x) (h : exK x i K) : Qt P F μ w K (Instr.extract v i) := by
  unfold exK at h
  split at h
  · cases hx; rename_i hx; cases hx; rename_i cs hs hr
    split at h
    · rename_i q hq
      have hi : i < cs.size := by rw [hs]; exact (List.getElem?_eq_some_iff.1 hq).1
      exact .of _ cs[i] h (.p (by simpa [hi] using hr _ _ hq)) fun w' => by simp [Instr.extract, hi]
    · exact h.elim
  · cases hx; rename_i cs hs hr
    split at h
    · rename_i q hq
      have hi : i < cs.size := by rw [hs]; exact (List.getElem?_eq_some_iff.1 hq).1
      exact .of _ cs[i] h (by simpa [hi] using hr _ _ hq) fun w' => by simp [Instr.extract, hi]
    · exact h.elim
  · exact h.elim
theorem ifK_sound {t : TypeId} {x : AV} {v : Value} (hx : RV F μ w v x) (h : ifK P t x K) : Qt P F μ w K (Instr.makeInterface t v) := by
  unfold ifK at h
  split at h
  · obtain ⟨h1, h2⟩ := h
    refine .of _ (.iface t v) h2 (.p (.iface _ _ _ hx.pure_inv)) fun w' => ?_
    unfold tIf at h1
    split at h1 <;> simp at h1
    rename_i hno hnone
    cases hu : P.underlying t with
    | none => exact absurd hu hnone
    | some d => cases d <;> first | (exact absurd hu (hno _)) | simp [Instr.makeInterface, underlying, hu]
  · exact h.elim
theorem taK_sound {t xt : TypeId} {x : AV} {v : Value} (hx : RV F μ w v x) (h : taK P t x K) : Qt P F μ w K (Instr.typeAssert v xt t false) := by
  unfold taK at h
  split at h
  · obtain ⟨h1, rfl, h2⟩ := h
    have hx := hx.pure_inv
    cases hx with
    | iface _ u _ hu =>
    refine .of _ u h2 (.p hu) fun w' => ?_
    unfold tIf at h1
    split at h1 <;> simp at h1
    rename_i hno hnone
    cases hd : P.underlying _ with
    | none => exact absurd hd hnone
    | some d => cases d <;> first | (exact absurd hd (hno _)) | simp [Instr.typeAssert, underlying, hd]
  · exact h.elim
theorem lenK_sound {x : AV} {t ty : TypeId} {v : Value} (hx : RV F μ w v x) (h : lenK x P t K) : Qt P F μ w K (Builtin.len_ #[t] ty #[v]) := by
  unfold lenK at h
  split at h
  · obtain ⟨h1, h2⟩ := h
    obtain ⟨⟨s, g⟩, hE⟩ := Option.isSome_iff_exists.1 h1
    obtain ⟨e, hu, _⟩ := tE_spec hE
    cases hx; rename_i hx
    cases hx with
    | esl a cap sz clip e1 e2 e3 => exact .of _ _ h2 (.p (.int _ _)) fun w' => by simp [Builtin.len_, underlying, hu, goInt]
    | sl b off len cap sz clip l cv hb hl h3 h4 h5 h6 h7 h8 => exact .of _ _ h2 (.p (.int _ _)) fun w' => by simp [Builtin.len_, underlying, hu, goInt, hl]
  · obtain ⟨h1, h2⟩ := h
    obtain ⟨⟨s, g⟩, hE⟩ := Option.isSome_iff_exists.1 h1
    obtain ⟨e, hu, _⟩ := tE_spec hE
    cases hx with
    | msl o sz off off' len cap b t' n' hb hcap hsh hbd hlc hcm => exact .of _ _ h2 (.p (.int _ _)) fun w' => by simp [Builtin.len_, underlying, hu, goInt]
  · obtain ⟨h1, h2⟩ := h
    obtain rfl := pstr_inv hx
    have hu : P.underlying t = some .string := by unfold tStr at h1; split at h1 <;> simp_all
    exact .of _ _ h2 (.p (.int _ _)) fun w' => by simp [Builtin.len_, underlying, hu, goInt]
  · exact h.elim
theorem minmax_sound (mx : Bool) : ∀ (r : List AV) (x : AV) (v : Value) (vs : List Value), RV F μ w v x → vs.length = r.length → (∀ (i : Nat) p, r[i]? = some p → RV F μ w (vs[i]?.getD undef) p) →
    minmaxK mx x r K → Qt P F μ w K (vs.foldlM (if mx then Builtin.max2 else Builtin.min2) v)
  | [], x, v, vs, hx, hl, _, h => by
    have : vs = [] := by simpa using hl
    subst this
    cases x with
    | p q =>
      cases q with
      | int k n => obtain rfl := pint_inv hx; exact .of _ _ h (.p (.int _ _)) fun w' => rfl
      | _ => exact h.elim
    | _ => exact h.elim
  | y :: r, x, v, vs, hx, hl, hr, h => by
    match vs, hl with
    | u :: vs, hl =>
      have hu : RV F μ w u y := by simpa using hr 0 y rfl
      cases x with
      | p q =>
        cases q with
        | int k a =>
          cases y with
          | p q' =>
            cases q' with
            | int k' b =>
              obtain rfl := pint_inv hx; obtain rfl := pint_inv hu
              simp only [minmaxK] at h
              obtain ⟨av, z, h1, h2, h3⟩ := minmax_sound mx r _ _ vs (.p (.int _ _)) (by simpa using hl) (fun i p hp => by simpa using hr (i + 1) p (by simpa using hp)) h
              refine ⟨av, z, h1, h2, fun w' hw' => ?_⟩
              have h4 := h3 w' hw'
              cases mx <;> simp only [if_true, Bool.false_eq_true, if_false] at h4 ⊢ <;> simp [List.foldlM_cons, Builtin.max2, Builtin.min2, h4]
            | _ => simp [minmaxK] at h
          | _ => simp [minmaxK] at h
        | _ => simp [minmaxK] at h
      | _ => simp [minmaxK] at h
end
end Go.Sg
namespace Go.Sg
open Go
section
variable {P : Program} {F : Nat → Prop} {μ : Num} {σ : Heap} {w : World} {K : AV → Prop}
theorem tC_int {t : TypeId} {k : IntKind} (h : tC P t = .int k) : P.underlying t = some (.int k) := by
  unfold tC at h
  split at h <;> first | (injection h with h; subst h; assumption) | (cases h; done) | (split at h <;> cases h)
theorem tC_str {t : TypeId} (h : tC P t = .str) : P.underlying t = some .string := by
  unfold tC at h
  split at h <;> first | assumption | (cases h; done) | (split at h <;> cases h)
theorem tC_bytes {t : TypeId} (h : tC P t = .bytes) : ∃ e, P.underlying t = some (.slice e) ∧ P.underlying e = some (.int .u8) := by
  unfold tC at h
  split at h <;> first | (cases h; done) | skip
  rename_i e he
  split at h
  · rename_i h2; exact ⟨e, he, h2⟩
  · cases h
theorem u8s_spec : ∀ {l : List PV} {q : List Int}, u8s l = some q → l = q.map (PV.int .u8)
  | [], q, h => by simp [u8s] at h; subst h; rfl
  | p :: r, q, h => by
    cases p with
    | int k n =>
      cases k <;> simp only [u8s] at h <;> try (cases h; done)
      split at h
      · rename_i q' hq
        injection h with h; subst h
        simp [u8s_spec hq]
      · cases h
    | _ => simp [u8s] at h
theorem u8A_spec : ∀ {l : List AV} {q : List Int}, u8A l = some q → l = q.map fun n => AV.p (PV.int .u8 n)
  | [], q, h => by simp [u8A] at h; subst h; rfl
  | p :: r, q, h => by
    cases p with
    | p v =>
      cases v with
      | int k n =>
        cases k <;> simp only [u8A] at h <;> try (cases h; done)
        split at h
        · rename_i q' hq
          injection h with h; subst h
          simp [u8A_spec hq]
        · cases h
      | _ => simp [u8A] at h
    | _ => simp [u8A] at h
theorem u8s_map (q : List Int) : u8s (q.map (PV.int .u8)) = some q := by
  induction q with
  | nil => rfl
  | cons n q ih => simp [u8s, ih]
theorem u8A_map (q : List Int) : u8A (q.map fun n => AV.p (PV.int .u8 n)) = some q := by
  induction q with
  | nil => rfl
  | cons n q ih => simp [u8A, ih]
theorem convK_sound {s d : TypeId} {x : AV} {v : Value} (hσ : SimH F μ σ w) (hx : RV F μ w v x) (h : convK P s d x σ K) : Qt P F μ w K (convert s d v) := by
  unfold convK at h
  split at h
  · rename_i k hd
    have hd := tC_int hd
    split at h
    · rename_i k' n
      obtain rfl := pint_inv hx
      obtain ⟨h1, h⟩ := h
      obtain ⟨ds, hs⟩ := Option.isSome_iff_exists.1 h1
      exact .of _ _ h (.p (.int _ _)) fun w' => by simp [convert, underlying, hd, hs, Conv.intToInt]
    · exact h.elim
  · rename_i hd
    have hd := tC_str hd
    split at h
    · obtain ⟨h1, h2⟩ := h
      obtain rfl := pstr_inv hx
      have hs := tC_str h1
      exact .of _ _ h2 (.p (.str _)) fun w' => by simp [convert, underlying, hd, hs]
    · rename_i sz c l
      obtain ⟨h1, hsz, q, hq, h2⟩ := h
      obtain ⟨e, hs, he⟩ := tC_bytes h1
      have hl := u8s_spec hq
      cases hx; rename_i hx
      cases hx with
      | esl a cap sz clip e1 e2 e3 =>
        have : q = [] := by simpa using hl.symm
        subst this
        refine .of _ (.string (strOfNums [])) h2 (.p (.str _)) fun w' => ?_
        cases a with
        | none => rw [run_convert_bytes_nil w' s e hs he 0 cap d hd]; rfl
        | some a =>
          have := run_convert_bytes_arg w' s e hs he a.block a.off 0 cap [] rfl (by simp) d hd
          have h0 : ∀ a b : Addr, (convert s d (.slice (some a) 0 cap)).run P w' = (convert s d (.slice (some b) 0 cap)).run P w' := fun a b => by
            rw [run_convert_bytes_string w' s d e (some a) 0 cap hs he hd, run_convert_bytes_string w' s d e (some b) 0 cap hs he hd]
            rfl
          rw [h0 a ⟨a.block, a.off, none⟩, this]
      | sl b off len cap sz clip l cv hb hll h3 h4 h5 h6 h7 h8 =>
        subst hl
        refine ⟨_, _, h2, .p (.str _), fun w' hw' => run_convert_bytes_arg w' s e hs he b off len cap q (by simpa using hll.symm) (fun i hi => hw'.cell ?_) d hd⟩
        have hi' : i < q.length := by simpa [hll] using hi
        have hg : (q.map (PV.int .u8))[i]? = some (.int .u8 q[i]) := by simp [hi']
        have h9 := h7 i _ 0 _ hg rfl
        have h10 := h8 i _ 0 _ hg rfl
        have hsz1 : sz = 1 := (h6 i _ hg).1.symm
        subst hsz1
        simp only [Nat.mul_one, Nat.add_zero] at h9
        rw [h9]
        generalize cv i 0 = cc at h10
        cases h10
        simp [List.getD, hi']
    · rename_i o sz off len
      obtain ⟨h1, hsz, h⟩ := h
      subst hsz
      obtain ⟨e, hs, he⟩ := tC_bytes h1
      split at h
      · rename_i cs ho
        obtain ⟨hle, q, hq, h2⟩ := h
        have hl := u8A_spec hq
        have hql : q.length = len := by have := congrArg List.length hl; simp at this; omega
        cases hx with
        | msl o sz off off' len cap b t' n' hb hcap hsh hbd hlc hcm =>
        obtain ⟨cur, ty, g1, g2, g3⟩ := hσ.cells ho hb
        refine ⟨_, _, h2, .p (.str _), fun w' hw' => run_convert_bytes_arg w' s e hs he b off' len cap q hql (fun i hi => hw'.cell ?_) d hd⟩
        have hoff : off' = off := by rcases hcap with h' | h' <;> omega
        subst hoff
        have hg : cs[off' + i]? = some (.p (.int .u8 (q.getD i 0))) := by
          have := congrArg (fun l : List AV => l[i]?) hl
          simp only [List.getElem?_take_of_lt hi, List.getElem?_drop, List.getElem?_map] at this
          rw [this]
          simp [List.getD, show i < q.length by omega]
        have := pint_inv (g3 _ _ hg)
        rw [cell_row g1]
        have hlt : off' + i < cur.size := by omega
        simp [hlt] at this ⊢
        rw [this]
      · exact h.elim
    · exact h.elim
  · exact h.elim
theorem optI_spec {d a : Int} {x : Option AV} {v : Option Value} (hx : match x, v with | some x, some v => RV F μ w v x | none, none => True | _, _ => False) (h : optI d x = some a) :
    (x = none ∧ v = none ∧ a = d) ∨ ∃ k, v = some (.int k a) := by
  unfold optI at h
  split at h
  · injection h with h; subst h
    cases v with
    | none => exact .inl ⟨rfl, rfl, rfl⟩
    | some v => exact hx.elim
  · injection h with h; subst h
    cases v with
    | none => exact hx.elim
    | some v => rename_i k n; obtain rfl := pint_inv hx; exact .inr ⟨k, rfl⟩
  · cases h
theorem run_sliceBound {k : IntKind} {n : Int} {y : Nat} {code : BoundsCode} (h0 : 0 ≤ n) (h1 : n ≤ y) (w' : World) : (Instr.sliceBound (.int k n) y code).run P w' = .ok n.toNat w' := by
  have : 0 ≤ n ∧ n ≤ (y : Int) := ⟨h0, h1⟩
  simp [Instr.sliceBound, asIntOf, this]
theorem run_bounds {isS : Bool} {len cap : Nat} {lo hi : Option Value} {a b : Int} (hlo : (lo = none ∧ a = 0) ∨ ∃ k, lo = some (.int k a)) (hhi : (hi = none ∧ b = len) ∨ ∃ k, hi = some (.int k b))
    (h0 : 0 ≤ a) (h1 : a ≤ b) (h2 : b ≤ cap) (w' : World) : (Instr.sliceBounds isS len cap lo hi none).run P w' = .ok (a.toNat, b.toNat, cap) w' := by
  have sh : ∀ k code, (Instr.sliceBound (.int k b) cap code).run P w' = .ok b.toNat w' := fun k code => run_sliceBound (by omega) h2 w'
  have sl : ∀ k code, (Instr.sliceBound (.int k a) b.toNat code).run P w' = .ok a.toNat w' := fun k code => run_sliceBound h0 (by omega) w'
  rcases hlo with ⟨rfl, rfl⟩ | ⟨k, rfl⟩ <;> rcases hhi with ⟨rfl, rfl⟩ | ⟨k2, rfl⟩ <;> simp only [Instr.sliceBounds, Sem.run_bind, Sem.run_pure, Result.andThen_ok, sh, Int.toNat_natCast] at sl ⊢ <;> first | rfl | simp only [sl, Result.andThen_ok]
theorem run_bounds3 {isS : Bool} {len cap : Nat} {lo hi mx : Option Value} {a b : Int} {k k' : IntKind} (hlo : (lo = none ∧ a = 0) ∨ ∃ k, lo = some (.int k a)) (hhi : hi = some (.int k b)) (hmx : mx = some (.int k' b))
    (h0 : 0 ≤ a) (h1 : a ≤ b) (h2 : b ≤ cap) (w' : World) : (Instr.sliceBounds isS len cap lo hi mx).run P w' = .ok (a.toNat, b.toNat, b.toNat) w' := by
  subst hhi; subst hmx
  unfold Instr.sliceBounds
  simp only [Sem.run_bind, run_sliceBound (P := P) (show 0 ≤ b by omega) h2, run_sliceBound (P := P) (show 0 ≤ b by omega) (show b ≤ (b.toNat : Int) by omega), Result.andThen_ok]
  rcases hlo with ⟨rfl, rfl⟩ | ⟨k, rfl⟩
  · simp
  · simp only [Sem.run_bind, run_sliceBound (P := P) h0 (show a ≤ (b.toNat : Int) by omega), Result.andThen_ok, Sem.run_pure]
theorem rp_slice {v : Value} {sz : Nat} {c : Bool} {l : List PV} (h : RP F w v (.sl sz c l)) : ∃ a len cap, v = .slice a len cap ∧ len = l.length ∧ len ≤ cap ∧ cap ≤ maxLen ∧ (c = true → cap = len) ∧
    ∀ (s lo hi m : Nat), (sz = s ∨ l = []) → lo ≤ hi → hi ≤ len → hi ≤ m → m ≤ cap → RP F w (.slice (if m = lo then a else a.map (·.add (lo * s))) (hi - lo) (m - lo)) (.sl sz (decide (m = hi)) ((l.take hi).drop lo)) := by
  cases h with
  | esl a cap sz clip e1 e2 e3 =>
    refine ⟨a, 0, cap, rfl, rfl, Nat.zero_le _, e1, e3, fun s lo hi m _ h1 h2 h3 h4 => ?_⟩
    obtain rfl : lo = 0 := by omega
    obtain rfl : hi = 0 := by omega
    simp only [List.take_nil, List.drop_nil, Nat.sub_self]
    refine .esl _ _ _ _ (by omega) (fun h => ?_) (fun h => by simp at h; omega)
    have := e2 (by cases a with | none => rfl | some a => split at h <;> simp at h)
    omega
  | sl b off len cap sz clip l cv hb hl h3 h4 h5 h6 h7 h8 =>
    refine ⟨_, len, cap, rfl, hl, h3, h4, h5, fun s lo hi m hs h1 h2 hm h4' => ?_⟩
    by_cases he : lo = hi
    · subst he
      have : (l.take lo).drop lo = [] := List.drop_eq_nil_of_le (by simp; omega)
      rw [this, Nat.sub_self]
      exact .esl _ _ _ _ (by omega) (fun h => by split at h <;> simp at h) (fun h => by simp at h; omega)
    · have hsz : sz = s := by rcases hs with h' | h'; (exact h'); (subst h'; simp at hl; omega)
      subst hsz
      rw [if_neg (by omega)]
      simp only [Option.map_some, add_none]
      have hg : ∀ (i : Nat) p, ((l.take hi).drop lo)[i]? = some p → l[lo + i]? = some p := fun i p hp => by
        rw [List.getElem?_drop] at hp
        have hi' : lo + i < hi := by have := (List.getElem?_eq_some_iff.1 hp).1; simp at this; omega
        rwa [List.getElem?_take_of_lt hi'] at hp
      refine .sl b (off + lo * sz) (hi - lo) (m - lo) sz _ _ (fun i j => cv (lo + i) j) hb (by simp; omega) (by omega) (by omega) (fun h => by simp at h; omega)
        (fun i p hp => h6 _ p (hg i p hp)) (fun i p j q hp hq => ?_) (fun i p j q hp hq => h8 _ p j q (hg i p hp) hq)
      have := h7 _ p j q (hg i p hp) hq
      rw [← this, Nat.add_mul]; congr 2; omega
theorem slK_sound {t : TypeId} {x : AV} {v : Value} {lo hi mx : Option AV} {vlo vhi vmx : Option Value} (hσ : SimH F μ σ w) (hx : RV F μ w v x)
    (hlo : match lo, vlo with | some x, some v => RV F μ w v x | none, none => True | _, _ => False) (hhi : match hi, vhi with | some x, some v => RV F μ w v x | none, none => True | _, _ => False)
    (hmx : match mx, vmx with | some x, some v => RV F μ w v x | none, none => True | _, _ => False) (h : slK P t x lo hi mx σ K) : Qt P F μ w K (Instr.sliceAt t v vlo vhi vmx) := by
  have dropN : ∀ {d a : Int} {x : Option AV} {v : Option Value}, ((x = none ∧ v = none ∧ a = d) ∨ ∃ k, v = some (.int k a)) → (v = none ∧ a = d) ∨ ∃ k, v = some (.int k a) := fun h => h.imp (fun h => ⟨h.2.1, h.2.2⟩) id
  unfold slK at h
  split at h
  · rename_i sz c l
    split at h
    · rename_i s g a b hE ha hb
      obtain ⟨e, hu, hs⟩ := tE_spec hE
      cases hx; rename_i hx
      obtain ⟨ad, len, cap, rfl, hlen, hlc, hcm, hcl, hsl⟩ := rp_slice hx
      have h1 := dropN (optI_spec hlo ha)
      have h2 := dropN (optI_spec hhi hb)
      split at h
      · obtain ⟨⟨hz, h0, hab, hbl⟩, hK⟩ := h
        obtain rfl : vmx = none := by cases vmx; rfl; exact hmx.elim
        have hr : ∀ w', (Instr.sliceBounds true len cap vlo vhi none).run P w' = .ok (a.toNat, b.toNat, cap) w' := fun w' => run_bounds h1 (by simpa [hlen] using h2) h0 hab (by omega) w'
        refine .of _ _ hK (.p ?_) fun w' => by
          simp only [Instr.sliceAt, Instr.slice, underlying, Sem.run_bind, run_program, Result.andThen_ok, hu, Sem.run_pure, hr w', run_sizeOf hs]; rfl
        have hrp := hsl s a.toNat b.toNat cap hz (by omega) (by omega) (by omega) (Nat.le_refl _)
        have hle : PV.le (.sl sz (decide (cap = b.toNat)) ((l.take b.toNat).drop a.toNat)) (.sl sz (c && hi.isNone) ((l.take b.toNat).drop a.toNat)) := by
          cases hc : (c && hi.isNone) with
          | false => exact PV.le_clip _ _ _
          | true =>
            simp only [Bool.and_eq_true, Option.isNone_iff_eq_none] at hc
            obtain ⟨rfl, rfl⟩ := hc
            have : b = l.length := by simp [optI] at hb; exact hb.symm
            have hd : decide (cap = b.toNat) = true := by simp [this, hcl rfl, hlen]
            rw [hd]; exact PV.le_refl _
        exact hle F w _ hrp
      · rename_i m
        obtain ⟨⟨hz, h0, hab, hbl⟩, hsome, hm, hK⟩ := h
        obtain ⟨k', hvm⟩ : ∃ k', vmx = some (.int k' b) := by
          rcases optI_spec hmx hm with ⟨h', _⟩ | h'
          · cases h'
          · exact h'
        obtain ⟨k, hvh⟩ : ∃ k, vhi = some (.int k b) := by
          rcases optI_spec hhi hb with ⟨h', _⟩ | h'
          · rw [h'] at hsome; simp at hsome
          · exact h'
        have hr : ∀ w', (Instr.sliceBounds true len cap vlo vhi vmx).run P w' = .ok (a.toNat, b.toNat, b.toNat) w' := fun w' => run_bounds3 h1 hvh hvm h0 hab (by omega) w'
        refine .of _ _ hK (.p ?_) fun w' => by
          simp only [Instr.sliceAt, Instr.slice, underlying, Sem.run_bind, run_program, Result.andThen_ok, hu, Sem.run_pure, hr w', run_sizeOf hs]; rfl
        have hrp := hsl s a.toNat b.toNat b.toNat hz (by omega) (by omega) (by omega) (by omega)
        simpa using hrp
    · exact h.elim
  · rename_i o sz off n
    split at h
    · rename_i s g a b hE ha hb
      obtain ⟨e, hu, hs⟩ := tE_spec hE
      cases hx with
      | msl o sz off off' len cap bb t' n' hbb hcap hsh hbd hlc hcm =>
      have h1 := dropN (optI_spec hlo ha)
      have h2 := dropN (optI_spec hhi hb)
      have fin : ∀ (m : Nat), b.toNat ≤ m → m ≤ cap → a ≤ b → 0 ≤ a → b ≤ n → sz = s → RV F μ w (.slice (if m = a.toNat then some ⟨bb, off', none⟩ else (some (⟨bb, off', none⟩ : Addr)).map (·.add (a.toNat * s))) (b.toNat - a.toNat) (m - a.toNat)) (.msl o sz (off + a.toNat * s) (b.toNat - a.toNat)) := by
        intro m hm hmc hab h0 hbl hz
        subst hz
        have hmul : off + a.toNat * sz + (m - a.toNat) * sz ≤ n' := by
          have : (m - a.toNat) * sz + a.toNat * sz = m * sz := by rw [← Nat.add_mul]; congr 1; omega
          have : m * sz ≤ cap * sz := Nat.mul_le_mul_right _ hmc
          omega
        by_cases hmz : m = a.toNat
        · rw [if_pos hmz]
          exact .msl _ _ _ _ _ _ _ t' n' hbb (.inl (by omega)) hsh hmul (by omega) (by omega)
        · rw [if_neg hmz]
          simp only [Option.map_some, add_none]
          refine .msl _ _ _ _ _ _ _ t' n' hbb (.inr ?_) hsh hmul (by omega) (by omega)
          rcases hcap with h' | h'
          · omega
          · rw [h']
      split at h
      · obtain ⟨⟨hz, h0, hab, hbl⟩, hK⟩ := h
        obtain rfl : vmx = none := by cases vmx; rfl; exact hmx.elim
        have hr : ∀ w', (Instr.sliceBounds true n cap vlo vhi none).run P w' = .ok (a.toNat, b.toNat, cap) w' := fun w' => run_bounds h1 h2 h0 hab (by omega) w'
        exact .of _ _ hK (fin cap (by omega) (Nat.le_refl _) hab h0 hbl hz) fun w' => by
          simp only [Instr.sliceAt, Instr.slice, underlying, Sem.run_bind, run_program, Result.andThen_ok, hu, Sem.run_pure, hr w', run_sizeOf hs]
      · rename_i m
        obtain ⟨⟨hz, h0, hab, hbl⟩, hsome, hm, hK⟩ := h
        obtain ⟨k', hvm⟩ : ∃ k', vmx = some (.int k' b) := by
          rcases optI_spec hmx hm with ⟨h', _⟩ | h'
          · cases h'
          · exact h'
        obtain ⟨k, hvh⟩ : ∃ k, vhi = some (.int k b) := by
          rcases optI_spec hhi hb with ⟨h', _⟩ | h'
          · rw [h'] at hsome; simp at hsome
          · exact h'
        have hr : ∀ w', (Instr.sliceBounds true n cap vlo vhi vmx).run P w' = .ok (a.toNat, b.toNat, b.toNat) w' := fun w' => run_bounds3 h1 hvh hvm h0 hab (by omega) w'
        exact .of _ _ hK (fin b.toNat (Nat.le_refl _) (by omega) hab h0 hbl hz) fun w' => by
          simp only [Instr.sliceAt, Instr.slice, underlying, Sem.run_bind, run_program, Result.andThen_ok, hu, Sem.run_pure, hr w', run_sizeOf hs]
    · exact h.elim
  · rename_i o off
    split at h
    · rename_i n s g cs hA ho
      obtain ⟨e, hu, hs⟩ := tA_spec hA
      obtain rfl : vmx = none := by cases vmx; rfl; exact hmx.elim
      cases hx; rename_i b hb
      obtain ⟨cur, ty, g1, g2, g3⟩ := hσ.cells ho hb
      split at h
      · rename_i a e' ha he'
        obtain ⟨⟨h0, hab, hbl⟩, ⟨hsz, hn⟩, hK⟩ := h
        have h1 := dropN (optI_spec hlo ha)
        have h2 := dropN (optI_spec hhi he')
        have hr : ∀ w', (Instr.sliceBounds false n n vlo vhi none).run P w' = .ok (a.toNat, e'.toNat, n) w' := fun w' => run_bounds h1 h2 h0 hab hbl w'
        refine .of _ (.slice (some (if n = a.toNat then ⟨b, off, none⟩ else Addr.add ⟨b, off, none⟩ (a.toNat * s))) (e'.toNat - a.toNat) (n - a.toNat)) hK ?_ fun w' => by
          simp only [Instr.sliceAt, underlying, Sem.run_bind, run_program, Result.andThen_ok, hu, Sem.run_pure, Instr.sureAddr, hr w', run_sizeOf hs]
        have hmul : off + a.toNat * s + (n - a.toNat) * s ≤ cur.size := by
          have : (n - a.toNat) * s + a.toNat * s = n * s := by rw [← Nat.add_mul]; congr 1; omega
          omega
        have hshape : w.shape? b = some (ty, cur.size) := by simp [World.shape?, g1]
        have hml : n - a.toNat ≤ maxLen := by unfold maxLen; omega
        by_cases hmz : n = a.toNat
        · rw [if_pos hmz]
          exact .msl _ _ _ _ _ _ _ ty cur.size hb (.inl (by omega)) hshape hmul (by omega) hml
        · rw [if_neg hmz, add_none]
          exact .msl _ _ _ _ _ _ _ ty cur.size hb (.inr rfl) hshape hmul (by omega) hml
      · exact h.elim
    · exact h.elim
  · rename_i b
    split at h
    · rename_i a e ha he
      obtain ⟨hn, hst, ⟨h0, hab, hbl⟩, hK⟩ := h
      have hu : P.underlying t = some .string := by unfold tStr at hst; split at hst <;> simp_all
      obtain rfl : mx = none := by simpa using hn
      obtain rfl : vmx = none := by cases vmx; rfl; exact hmx.elim
      obtain rfl := pstr_inv hx
      have h1 := dropN (optI_spec hlo ha)
      have h2 := dropN (optI_spec hhi he)
      have hr : ∀ w', (Instr.sliceBounds false b.size b.size vlo vhi none).run P w' = .ok (a.toNat, e.toNat, b.size) w' := fun w' => run_bounds h1 h2 h0 hab hbl w'
      exact .of _ _ hK (.p (.str _)) fun w' => by
        simp only [Instr.sliceAt, Instr.slice, underlying, Sem.run_bind, run_program, Result.andThen_ok, hu, Sem.run_pure, Option.isSome_none, Bool.false_eq_true, if_false, hr w']
    · exact h.elim
  · exact h.elim
end
end Go.Sg
namespace Go.Sg
open Go
section
variable {P : Program} {F : Nat → Prop} {μ : Num} {σ : Heap} {w : World} {K : AV → Prop}
theorem setAtL_length : ∀ (vs : List AV) (cs : List AV) (off : Nat), (setAtL cs off vs).length = cs.length
  | [], cs, off => rfl
  | v :: r, cs, off => by simp [setAtL, setAtL_length r]
theorem setAt_spec : ∀ (vs : List AV) (us : List Value) (cs : List AV) (xs : Array Value) (off k : Nat), us.length = vs.length → xs.size = cs.length → (∀ (i : Nat) p, vs[i]? = some p → RV F μ w (us[i]?.getD undef) p) →
    (∀ (i : Nat) p, cs[i]? = some p → RV F μ w (xs[i]?.getD undef) p) →
    ((us.zipIdx k).foldl (fun cs (x : Value × Nat) => cs.setIfInBounds (off + x.2) x.1) xs).size = (setAtL cs (off + k) vs).length ∧
    ∀ (i : Nat) p, (setAtL cs (off + k) vs)[i]? = some p → RV F μ w (((us.zipIdx k).foldl (fun cs (x : Value × Nat) => cs.setIfInBounds (off + x.2) x.1) xs)[i]?.getD undef) p
  | [], us, cs, xs, off, k, hl, hs, hv, hc => by
    have : us = [] := by simpa using hl
    subst this
    exact ⟨hs, hc⟩
  | v :: r, us, cs, xs, off, k, hl, hs, hv, hc => by
    match us, hl with
    | u :: us, hl =>
      simp only [List.zipIdx_cons, List.foldl_cons, setAtL]
      have hu : RV F μ w u v := by simpa using hv 0 v rfl
      have := setAt_spec r us (cs.set (off + k) v) (xs.setIfInBounds (off + k) u) off (k + 1) (by simpa using hl) (by simpa using hs) (fun i p hp => by simpa using hv (i + 1) p (by simpa using hp)) (fun i p hp => by
        by_cases he : off + k = i
        · subst he
          have hlt : off + k < cs.length := by have := (List.getElem?_eq_some_iff.1 hp).1; simpa using this
          rw [List.getElem?_set_self hlt] at hp
          injection hp with hp; subst hp
          have hlt' : off + k < xs.size := by omega
          simpa [hlt'] using hu
        · rw [List.getElem?_set_ne he] at hp
          rw [Array.getElem?_setIfInBounds_ne he]
          exact hc i p hp)
      exact this
theorem fill_sound {pl : Nat → Option (Nat × Nat)} : ∀ (parts : List (Nat × AV)) (vs : List (Nat × Value)) (cs : List AV) (xs : Array Value) (out : List AV), vs.length = parts.length →
    (∀ (i : Nat) p, parts[i]? = some p → ∃ v, vs[i]? = some (p.1, v) ∧ RV F μ w v p.2) → xs.size = cs.length → (∀ (i : Nat) p, cs[i]? = some p → RV F μ w (xs[i]?.getD undef) p) → fillA pl cs parts = some out →
    ∃ ys, Instr.fill pl xs vs = some ys ∧ ys.size = out.length ∧ ∀ (i : Nat) p, out[i]? = some p → RV F μ w (ys[i]?.getD undef) p
  | [], vs, cs, xs, out, hl, _, hs, hc, h => by
    have : vs = [] := by simpa using hl
    subst this
    simp [fillA] at h; subst h
    exact ⟨xs, rfl, hs, hc⟩
  | (i, a) :: r, vs, cs, xs, out, hl, hp, hs, hc, h => by
    match vs, hl with
    | x :: vs, hl =>
      obtain ⟨v, hv, hr⟩ := hp 0 (i, a) rfl
      simp at hv; subst hv
      simp only [fillA] at h
      split at h
      · rename_i off s hpl
        split at h
        · rename_i hcond
          obtain ⟨h0, h1, h2⟩ := hcond
          have hne' : a ≠ .any := fun e => by subst e; cases h0
          obtain ⟨k1, k2⟩ := hr.cells hne'
          have hst := setAt_spec (F := F) (μ := μ) (w := w) a.cells v.cells.toList cs xs off 0 (by simpa using k1) hs (by simpa using k2) hc
          obtain ⟨ys, y1, y2, y3⟩ := fill_sound r vs _ _ out (by simpa using hl) (fun i p hp' => by simpa using hp (i + 1) p (by simpa using hp')) hst.1 hst.2 h
          refine ⟨ys, ?_, y2, y3⟩
          have e : (v.cells.zipIdx.foldl (fun cs (c, j) => cs.setIfInBounds (off + j) c) xs) = v.cells.toList.zipIdx.foldl (fun cs (x : Value × Nat) => cs.setIfInBounds (off + x.2) x.1) xs := by
            rw [← Array.foldl_toList, Array.toList_zipIdx]
          simp only [Instr.fill, hpl, e]
          have hcond : (v.cells.size ≠ s || off + v.cells.size > xs.size) = false := by
            simp only [bne_iff_ne, ne_eq, Bool.or_eq_false_iff, decide_eq_false_iff_not, Nat.not_lt, gt_iff_lt]
            refine ⟨by simp; omega, by omega⟩
          rw [if_neg (by simpa using hcond)]
          exact y1
        · cases h
      · cases h
theorem run_places : ∀ (fs : List Field) (l : List (Nat × Nat)), tFs P fs = some l → ∀ w', (fs.mapM (fun f => do pure (f.offset, ← sizeOf f.type)) : Sem (List (Nat × Nat))).run P w' = .ok l w'
  | [], l, h, w' => by simp [tFs] at h; subst h; rfl
  | x :: r, l, h, w' => by
    simp only [tFs] at h
    split at h
    · rename_i s g l' hs hl
      injection h with h; subst h
      simp only [List.mapM_cons, Sem.run_bind, run_sizeOf hs, Result.andThen_ok, Sem.run_pure, run_places r l' hl]
    · cases h
theorem run_zeroA {t : TypeId} {z : List AV} (h : tZA P t = some z) : ∃ zv : Value, (∀ w', (zeroValue t).run P w' = .ok zv w') ∧ zv.cells.size = z.length ∧ ∀ (i : Nat) p, z[i]? = some p → RV F μ w (zv.cells[i]?.getD undef) p := by
  unfold tZA at h
  split at h
  · rename_i z' hz
    injection h with h; subst h
    obtain ⟨zv, hzv, hzs, hzr⟩ := run_zeroValue hz w
    exact ⟨zv, hzv, by simpa using hzs, fun i p hp => by
      simp only [List.getElem?_map, Option.map_eq_some_iff] at hp
      obtain ⟨q, hq, rfl⟩ := hp
      exact .p (hzr F i q hq)⟩
  · split at h
    · rename_i i hi
      split at h
      · rename_i v hv
        injection h with h; subst h
        exact ⟨v, fun w' => by simp [zeroValue, typeInfo, hi, hv], by simp, fun i c hc => by
          have := List.mem_of_getElem? hc
          rw [(List.mem_replicate.1 this).2]; exact .any _⟩
      · cases h
    · cases h
theorem buildK_sound {t : TypeId} {parts : List (Nat × AV)} {vs : List (Nat × Value)} (hl : vs.length = parts.length) (hp : ∀ (i : Nat) p, parts[i]? = some p → ∃ v, vs[i]? = some (p.1, v) ∧ RV F μ w v p.2)
    (h : buildK P t parts K) : Qt P F μ w K (Instr.build t vs.toArray) := by
  unfold buildK at h
  split at h
  · rename_i z l s hz hps
    split at h
    · rename_i cs hf
      obtain ⟨zv, hzv, hzs, hzr⟩ := run_zeroA (P := P) (F := F) (μ := μ) (w := w) hz
      obtain ⟨ys, y1, y2, y3⟩ := fill_sound (F := F) (μ := μ) (w := w) parts vs z zv.cells cs hl hp (by simpa using hzs) hzr hf
      refine .of _ (.agg ys) h (mkAgg_spec y2 y3) fun w' => ?_
      unfold tPs at hps
      split at hps
      · rename_i fs hu
        split at hps
        · rename_i l' hl'
          injection hps with hps; injection hps with e1 e2; subst e1; subst e2
          have hm := run_places fs.toList l' hl' w'
          have hfun : placeOf l' 0 = fun x => l'.toArray[x]? := by funext x; simp [placeOf]
          rw [hfun] at y1
          simp only [Instr.build, Sem.run_bind, hzv, Result.andThen_ok, underlying, run_program, hu, Sem.run_pure, Array.mapM_eq_mapM_toList, Sem.run_map, hm, y1]
        · cases hps
      · rename_i n e hu
        split at hps
        · rename_i s' g hs
          split at hps
          · cases hps
          · rename_i hs0
            injection hps with hps; injection hps with e1 e2; subst e1; subst e2
            have hfun : placeOf [] s' = fun i => some (i * s', s') := by funext x; simp [placeOf, hs0]
            rw [hfun] at y1
            simp only [Instr.build, Sem.run_bind, hzv, Result.andThen_ok, underlying, run_program, hu, Sem.run_pure, run_sizeOf hs, y1]
        · cases hps
      · cases hps
    · exact h.elim
  · exact h.elim
def nonNil : Value → Bool
  | .pointer (some _) => true
  | .func (.func _) _ _ => true
  | .func (.yield _) _ _ => true
  | _ => false
theorem nilK_sound {x : AV} {v : Value} (hx : RV F μ w v x) (h : nilK x K) : ∃ av, K av ∧ RV F μ w v av ∧ nonNil v = true := by
  unfold nilK at h
  split at h
  · cases hx; rename_i b hb; exact ⟨_, h, .ptr _ _ _ hb, rfl⟩
  · exact ⟨_, h, hx, by obtain ⟨b, off, c, rfl, _, _⟩ := hx.pure_inv.ro_inv; rfl⟩
  · exact ⟨_, h, hx, by cases hx; rfl⟩
  · exact ⟨_, h, hx, by cases hx; rename_i hx; cases hx; rfl⟩
  · exact ⟨_, h, hx, by cases hx; rename_i hx; cases hx; rfl⟩
  · exact h.elim
def QtN (P : Program) (F : Nat → Prop) (μ : Num) (w : World) (K : AV → Prop) (s : Sem Next) : Prop :=
  ∃ av v, K av ∧ RV F μ w v av ∧ ∀ w', Same w w' → s.run P w' = .ok (.value v) w'
theorem Qt.next {s : Sem Value} (h : Qt P F μ w K s) : QtN P F μ w K (do pure (.value (← s))) := by
  obtain ⟨av, v, h1, h2, h3⟩ := h
  exact ⟨av, v, h1, h2, fun w' hw => by simp [h3 w' hw]⟩
theorem list_rv {l : List Operand} {ev : Operand → AV} {a : Operand → Value} (h : ∀ x, RV F μ w (a x) (ev x)) : ∀ (i : Nat) p, (l.map ev)[i]? = some p → RV F μ w ((l.toArray.map a)[i]?.getD undef) p := fun i p hp => by
  simp only [List.getElem?_map, Option.map_eq_some_iff] at hp
  obtain ⟨x, hx, rfl⟩ := hp
  simp [hx]; exact h x
theorem opt_rv {x : Option Operand} {ev : Operand → AV} {a : Operand → Value} (h : ∀ x, RV F μ w (a x) (ev x)) : match x.map ev, x.map a with | some x, some v => RV F μ w v x | none, none => True | _, _ => False := by
  cases x with
  | none => trivial
  | some x => exact h x
theorem qK_sound {o : Oper} {ev : Operand → AV} {a : Operand → Value} (hσ : SimH F μ σ w) (hev : ∀ x, RV F μ w (a x) (ev x)) (h : qK P o.op ev σ K) : QtN P F μ w K (execOp a o) := by
  obtain ⟨dst, op, ty, pos, after, guard⟩ := o
  cases op <;> simp only [qK] at h <;> try exact h.elim
  case move x => exact ⟨_, _, h, hev x, fun w' _ => rfl⟩
  case assign x => exact ⟨_, _, h, hev x, fun w' _ => rfl⟩
  case pick c x y =>
    obtain ⟨av, v, h1, h2, h3⟩ := pickK_sound (P := P) (hev c) (hev x) (hev y) h
    refine ⟨av, v, h1, h2, fun w' hw => ?_⟩
    have := h3 w' hw
    simp only [Sem.run_bind] at this
    simp only [execOp, Sem.run_bind]
    cases hb : (asBool (a c)).run P w' with
    | halt x w'' => rw [hb] at this; simp at this
    | ok t w'' =>
      rw [hb] at this
      simp only [Result.andThen_ok, Sem.run_pure] at this ⊢
      injection this with e1 e2
      rw [e1, e2]
  case field t x f => exact (fieldK_sound (hev x) h).next
  case load t x => exact (loadK_sound hσ (hev x) h).next
  case nilCheck x =>
    obtain ⟨av, h1, h2, h3⟩ := nilK_sound (hev x) h
    refine ⟨av, a x, h1, h2, fun w' _ => ?_⟩
    simp only [execOp]
    revert h3
    generalize a x = v
    intro h3
    unfold nonNil at h3
    split at h3 <;> first | rfl | cases h3
  case fieldAddr t x f => exact (faK_sound (hev x) h).next
  case indexAddr t x i => exact (iaK_sound (hev x) (hev i) h).next
  case index t x i => exact (ixK_sound (hev x) (hev i) h).next
  case binOp op t x y ty' => exact (binK_sound x y (hev x) (hev y) h).next
  case unOp op t x => exact (unK_sound (hev x) h).next
  case extract x i => exact (exK_sound (hev x) h).next
  case convert s d x => exact (convK_sound hσ (hev x) h).next
  case makeFunc f x y =>
    refine Qt.next (s := Instr.makeFunc f (x.map a) (y.map a)) (.of _ (.func f (x.map a) (y.map a)) h (mkFn_spec (by simp) (by simp) ?_ ?_) fun w' => rfl)
    · have := list_rv (l := x.toList) hev; simpa using this
    · have := list_rv (l := y.toList) hev; simpa using this
  case slice t x lo hi mx => exact (slK_sound hσ (hev x) (opt_rv hev) (opt_rv hev) (opt_rv hev) h).next
  case makeInterface t x => exact (ifK_sound (hev x) h).next
  case typeAssert x xt t c =>
    cases c with
    | false => exact (taK_sound (hev x) h).next
    | true => exact h.elim
  case build t parts =>
    have := buildK_sound (P := P) (F := F) (μ := μ) (w := w) (K := K) (t := t) (parts := parts.toList.map fun y => (y.1, ev y.2)) (vs := parts.toList.map fun y => (y.1, a y.2)) (by simp) (fun i p hp => by
      simp only [List.getElem?_map, Option.map_eq_some_iff] at hp
      obtain ⟨y, hy, rfl⟩ := hp
      exact ⟨a y.2, by simp [hy], hev y.2⟩) h
    have e : (parts.map fun (i, x) => (i, a x)) = (parts.toList.map fun y => (y.1, a y.2)).toArray := by
      apply Array.ext'; simp
    simp only [execOp]
    rw [e]
    exact this.next
  case call c =>
    obtain ⟨callee, args, ats⟩ := c
    cases callee with
    | builtin b =>
      have hrun : ∀ (v : Sem Value), execOp a { dst := dst, op := .call { callee := .builtin b, args := args, argTypes := ats }, type := ty, pos := pos, after := after, guard := guard } = (do pure (.value (← v))) →
          Qt P F μ w K v → QtN P F μ w K (execOp a { dst := dst, op := .call { callee := .builtin b, args := args, argTypes := ats }, type := ty, pos := pos, after := after, guard := guard }) := fun v e hq => by rw [e]; exact hq.next
      cases b <;> simp only [] at h <;> try exact h.elim
      ·
        split at h
        · rename_i x t hx ht
          have hargs : args = #[x] := by apply Array.ext'; simpa using hx
          subst hargs
          refine hrun (Builtin.len_ ats ty (#[x].map a)) rfl ?_
          have := lenK_sound (P := P) (ty := ty) (hev x) h
          obtain ⟨av, v, h1, h2, h3⟩ := this
          refine ⟨av, v, h1, h2, fun w' hw => ?_⟩
          have := h3 w' hw
          simp only [Builtin.len_, ht, List.map_toArray, List.map_cons, List.map_nil] at this ⊢
          exact this
        · exact h.elim
      ·
        split at h
        · rename_i x r hx
          have hargs : args = (x :: r).toArray := by apply Array.ext'; simpa using hx
          subst hargs
          refine hrun (Builtin.max_ ats ty ((x :: r).toArray.map a)) rfl ?_
          have := minmax_sound (P := P) (K := K) (F := F) (μ := μ) (w := w) true (r.map ev) (ev x) (a x) (r.map a) (hev x) (by simp) (fun i p hp => by
            simp only [List.getElem?_map, Option.map_eq_some_iff] at hp
            obtain ⟨y, hy, rfl⟩ := hp
            simp [hy]; exact hev y) h
          simpa [Builtin.max_] using this
        · exact h.elim
      · split at h
        · rename_i x r hx
          have hargs : args = (x :: r).toArray := by apply Array.ext'; simpa using hx
          subst hargs
          refine hrun (Builtin.min_ ats ty ((x :: r).toArray.map a)) rfl ?_
          have := minmax_sound (P := P) (K := K) (F := F) (μ := μ) (w := w) false (r.map ev) (ev x) (a x) (r.map a) (hev x) (by simp) (fun i p hp => by
            simp only [List.getElem?_map, Option.map_eq_some_iff] at hp
            obtain ⟨y, hy, rfl⟩ := hp
            simp [hy]; exact hev y) h
          simpa [Builtin.min_] using this
        · exact h.elim
    | value f => exact h.elim
    | invoke x m => exact h.elim
end
end Go.Sg
namespace Go.Sg
open Go
def AV.one : AV → Bool
  | .any => false
  | .agg _ => false
  | .tup _ => false
  | .p (.agg _) => false
  | .p (.tup _) => false
  | _ => true
def undefA : AV := .p (.tup [])
def tB (P : Program) (t : TypeId) : Option Nat :=
  match P.underlying t with | some (.slice e) => (match P.info? e with | some i => some i.bytes | none => none) | _ => none
def tEZ (P : Program) (t : TypeId) : Option (List PV) :=
  match P.underlying t with | some (.slice e) => tZ P e | _ => none
def allocK (P : Program) (t : TypeId) (nid : Nat) (K : AV → Heap → Prop) : Prop :=
  match tZ P t with
  | some z => K (.ptr nid 0) [(nid, .cells (z.map .p))]
  | none => (match P.info? t with
    | some i => (match i.zero with | some v => K (.ptr nid 0) [(nid, .cells (List.replicate v.cells.size .any))] | none => False)
    | none => False)
def boxK (x : AV) (nid : Nat) (K : AV → Heap → Prop) : Prop := x.isAny = false ∧ K (.ptr nid 0) [(nid, .cells x.cells)]
def storeK (P : Program) (t : TypeId) (a x : AV) (σ : Heap) (K : AV → Heap → Prop) : Prop :=
  match a, tT P t with
  | .ptr o off, some (s, _) => (match σ.get o with
    | .cells cs => (x.isAny = false ∧ x.cells.length = s ∧ off + s ≤ cs.length ∧ ∀ c ∈ x.cells, c.one = true) ∧ K undefA [(o, .cells (setAtL cs off x.cells))]
    | _ => False)
  | _, _ => False
def zerosOf (z : List PV) (n : Nat) : List AV :=
  match z with
  | [v] => List.replicate n (.p v)
  | z => (List.replicate n (z.map AV.p)).flatten
def buildSliceK (P : Program) (t : TypeId) (len : Nat) (parts : List (Nat × AV)) (nid : Nat) (K : AV → Heap → Prop) : Prop :=
  match tE P t, tEZ P t with
  | some (s, _), some z => (z.length = s ∧ 0 < s ∧ len * s ≤ 1000000) ∧ (match fillA (placeOf [] s) (zerosOf z len) parts with | some cs => K (.msl nid s 0 len) [(nid, .cells cs)] | none => False)
  | _, _ => False
def makeSliceK (P : Program) (t : TypeId) (n c : AV) (nid : Nat) (K : AV → Heap → Prop) : Prop :=
  match n, c, tE P t, tEZ P t, tB P t with
  | .p (.int _ n), .p (.int _ c), some (s, _), some z, some bt => (z.length = s ∧ 0 < s ∧ 0 ≤ n ∧ n ≤ c ∧ c ≤ 1000000000 ∧ bt ≤ 100000) ∧ K (.msl nid s 0 n.toNat) [(nid, .cells (zerosOf z n.toNat))]
  | _, _, _, _, _ => False
def srcK (x : AV) (s : Nat) (σ : Heap) (K : Nat → List AV → Prop) : Prop :=
  match x with
  | .p (.sl sz _ l) => (sz = s ∨ l = []) ∧ K l.length ((l.flatMap PV.cells).map .p)
  | .msl o sz off n => sz = s ∧ (match σ.get o with | .cells cs => off + n * s ≤ cs.length ∧ K n ((cs.drop off).take (n * s)) | _ => False)
  | .p (.str b) => s = 1 ∧ K b.size (b.data.toList.map fun u => .p (.int .u8 u.toNat))
  | _ => False
def tNotInt (P : Program) (t : TypeId) : Bool := match P.underlying t with | some (.int _) => false | none => false | _ => true
def appendK (P : Program) (t xt : TypeId) (a x : AV) (σ : Heap) (nid : Nat) (K : AV → Heap → Prop) : Prop :=
  match tE P t, tEZ P t, tB P t with
  | some (s, _), some z, some bt =>
    (z.length = s ∧ 0 < s ∧ bt ≤ 100000 ∧ tNotInt P xt = true) ∧ srcK x s σ fun n new =>
      (match a with
      | .p (.sl sz c l) => (c = true ∧ (sz = s ∨ l = []) ∧ l.length + n ≤ 1000000000) ∧
          (n = 0 → K a []) ∧ (0 < n → K (.msl nid s 0 (l.length + n)) [(nid, .cells ((l.flatMap PV.cells).map .p ++ new))])
      | .msl o sz off len => (match σ.get o with
        | .cells cs => (sz = s ∧ off = 0 ∧ len * s = cs.length ∧ len + n ≤ 1000000000 ∧ (∀ c ∈ new, c.one = true)) ∧
            (n = 0 → K a []) ∧ (0 < n → K (.msl nid s 0 (len + n)) [(nid, .cells (cs ++ new)), (o, .dead)])
        | _ => False)
      | _ => False)
  | _, _, _ => False
def copyK (P : Program) (t : TypeId) (a x : AV) (σ : Heap) (K : AV → Heap → Prop) : Prop :=
  match tE P t, a with
  | some (s, _), .msl o sz off len => 0 < s ∧ srcK x s σ fun n new => (match σ.get o with
    | .cells cs => (sz = s ∧ off + len * s ≤ cs.length ∧ (∀ c ∈ new.take (min n len * s), c.one = true)) ∧
        K (.p (.int .i64 (min n len : Nat))) [(o, .cells (setAtL cs off (new.take (min n len * s))))]
    | _ => False)
  | _, _ => False
def strBytesK (P : Program) (s d : TypeId) (x : AV) (K : AV → Heap → Prop) : Prop :=
  match tC P d, x with
  | .bytes, .p (.str b) => (tC P s = .str ∧ b.size ≤ 1000000000) ∧ K (.p (.sl 1 false (b.data.toList.map fun u => .int .u8 u.toNat))) []
  | _, _ => False
def wK (P : Program) (op : Op) (ev : Operand → AV) (σ : Heap) (nid : Nat) (K : AV → Heap → Prop) : Prop :=
  match op with
  | .alloc t => allocK P t nid K
  | .box _ x => boxK (ev x) nid K
  | .store t a x => storeK P t (ev a) (ev x) σ K
  | .buildSlice t n parts => buildSliceK P t n (parts.toList.map fun y => (y.1, ev y.2)) nid K
  | .makeSlice t n c => makeSliceK P t (ev n) (ev c) nid K
  | .convert s d x => strBytesK P s d (ev x) K
  | .call c => (match c.callee, c.args.toList, c.argTypes[0]?, c.argTypes[1]? with
    | .builtin .append, [a, x], some t, some xt => appendK P t xt (ev a) (ev x) σ nid K
    | .builtin .copy, [a, x], some t, _ => copyK P t (ev a) (ev x) σ K
    | _, _, _, _ => False)
  | _ => False
section
variable {P : Program} {F : Nat → Prop} {μ : Num} {σ : Heap} {w : World} {nid : Nat} {K : AV → Heap → Prop}
def WOut (P : Program) (F : Nat → Prop) (μ : Num) (σ : Heap) (w : World) (nid : Nat) (K : AV → Heap → Prop) (s : Sem Value) : Prop :=
  ∃ av us v w' F' μ', K av us ∧ s.run P w = .ok v w' ∧ Step F μ w F' μ' w' ∧ SimH F' μ' (us ++ σ) w' ∧ RV F' μ' w' v av ∧ ∀ o, o ≠ nid → μ' o = μ o
theorem one_cell {v : Value} {c : AV} (h : RV F μ w v c) (h1 : c.one = true) : v.oneCell' = true := by
  cases h with
  | rsl o sz i len v h => cases h; rfl
  | eptr o sz i j v h => cases h; rfl
  | p hq => cases hq <;> first | rfl | (cases h1; done)
  | _ => first | rfl | (cases h1; done)
theorem get_upd {o : Nat} {x : AObj} {σ : Heap} (i : Nat) : (i = o ∧ Heap.get ((o, x) :: σ) i = x) ∨ (i ≠ o ∧ Heap.get ((o, x) :: σ) i = σ.get i) := by
  rw [Heap.get_cons]
  by_cases e : o = i
  · rw [if_pos e]; exact .inl ⟨e.symm, rfl⟩
  · rw [if_neg e]; exact .inr ⟨fun k => e k.symm, rfl⟩
theorem SimH.write (h : SimH F μ σ w) {o b : Nat} {cs : List AV} {cur : Array Value} {t : TypeId} (ho : σ.get o = .cells cs) (hb : μ o = some b) (hg : w.heap[b]? = some (.cells cur t (0, 0)))
    (cur' : Array Value) (o' : AObj) (hs : cur'.size = cur.size) (hro : ∀ w', Step F μ w F μ w' → w'.heap[b]? = some (.cells cur' t (0, 0)) → RO F μ w' b o') :
    Step F μ w F μ (w.setRow b cur') ∧ SimH F μ ((o, o') :: σ) (w.setRow b cur') := by
  have hnd : σ.get o ≠ .dead := by rw [ho]; simp
  have hnF : ¬ F b := h.live o b hnd hb
  have hother : ∀ k, k ≠ b → (w.setRow b cur').heap[k]? = w.heap[k]? := fun k hk => setRow_other w b k cur' hk
  have hself : (w.setRow b cur').heap[b]? = some (.cells cur' t (0, 0)) := setRow_heap w b cur cur' t _ hg
  have hst : Step F μ w F μ (w.setRow b cur') := by
    refine ⟨rfl, rfl, rfl, by simp, fun k hk => hother k (fun e => hnF (e ▸ hk)), fun k _ hk => hother k (fun e => hk (e ▸ .inl ⟨o, hb⟩)), fun k x hx => ?_, fun _ h => h, fun _ h => .inl h, fun _ _ h => h, fun _ h => .inl h⟩
    by_cases hk : k = b
    · subst hk
      simp [World.shape?, hg] at hx
      simp [World.shape?, hself, ← hx, hs]
    · simp only [World.shape?, hother k hk] at hx ⊢; exact hx
  have nd : ∀ i, Heap.get ((o, o') :: σ) i ≠ .dead → σ.get i ≠ .dead := fun i hi => by
    rcases get_upd (o := o) (x := o') (σ := σ) i with ⟨e, _⟩ | ⟨_, e⟩
    · rw [e]; exact hnd
    · rw [e] at hi; exact hi
  refine ⟨hst, ⟨fun k hk => by simpa using h.fb k hk, fun k hk => by simpa using h.mb k hk, fun i hi => h.has i (nd i hi), ?_, fun i bi hi => h.live i bi (nd i hi), fun i j bb hi hj => h.inj i j bb (nd i hi) (nd j hj), fun c m hc => ⟨(h.hd c m hc).1, fun i hi => (h.hd c m hc).2 i (nd i hi)⟩, h.hu⟩⟩
  intro i bi hbi
  rcases get_upd (o := o) (x := o') (σ := σ) i with ⟨e, e2⟩ | ⟨e, e2⟩
  · rw [e2]
    rw [e, hb] at hbi; injection hbi with hbi; subst hbi
    exact hro _ hst hself
  · rw [e2]
    have hro := h.obj i bi hbi
    by_cases hd : σ.get i = .dead
    · rw [hd]; trivial
    · have : bi ≠ b := fun k => e (h.inj i o _ hd hnd (k ▸ hbi) hb)
      exact hro.step hst (hother bi this) fun c hc => ⟨hc, hother c fun e => (h.hd c bi hc).2 o hnd (e ▸ hb)⟩
theorem new_object (h : SimH F μ σ w) (hn : μ nid = none) (cur : Array Value) (t : TypeId) (cs : List AV) (hl : cs.length ≤ cur.size) (hr : ∀ (i : Nat) c, cs[i]? = some c → RV F μ w (cur[i]?.getD undef) c) :
    Step F μ w F (μ.put nid w.heap.size) { w with heap := w.heap.push (.cells cur t) } ∧ SimH F (μ.put nid w.heap.size) ([(nid, .cells cs)] ++ σ) { w with heap := w.heap.push (.cells cur t) } ∧
    (μ.put nid w.heap.size) nid = some w.heap.size ∧ ∀ o, o ≠ nid → (μ.put nid w.heap.size) o = μ o := by
  have := h.push hn (.cells cur t) (.cells cs) (fun w' hs hw => ⟨cur, t, hw, hl, fun i c hc => (hr i c hc).step hs⟩)
  exact ⟨this.2, this.1, Num.put_self _ _ _, fun o ho => if_neg ho⟩
theorem allocK_sound {t : TypeId} {old : Value} (hσ : SimH F μ σ w) (hn : μ nid = none) (h : allocK P t nid K) : WOut P F μ σ w nid K (Instr.alloc t true old) := by
  unfold allocK at h
  split at h
  · rename_i z hz
    obtain ⟨zv, hzv, hzs, hzr⟩ := run_zeroValue hz w
    obtain ⟨h1, h2, h3, h4⟩ := new_object hσ hn zv.cells t (z.map .p) (by simp [hzs]) (fun i c hc => by
      simp only [List.getElem?_map, Option.map_eq_some_iff] at hc
      obtain ⟨q, hq, rfl⟩ := hc
      exact .p (hzr F i q hq))
    exact ⟨_, _, .pointer (some ⟨w.heap.size, 0, none⟩), _, _, _, h, by simp [Instr.alloc, hzv, newVar, newRow], h1, h2, .ptr _ _ _ h3, h4⟩
  · split at h
    · rename_i i hi
      split at h
      · rename_i v hv
        have hzv : ∀ w', (zeroValue t).run P w' = .ok v w' := fun w' => by simp [zeroValue, typeInfo, hi, hv]
        obtain ⟨h1, h2, h3, h4⟩ := new_object hσ hn v.cells t (List.replicate v.cells.size .any) (by simp) (fun i c hc => by
          have := List.mem_of_getElem? hc
          rw [(List.mem_replicate.1 this).2]; exact .any _)
        exact ⟨_, _, .pointer (some ⟨w.heap.size, 0, none⟩), _, _, _, h, by simp [Instr.alloc, hzv, newVar, newRow], h1, h2, .ptr _ _ _ h3, h4⟩
      · exact h.elim
    · exact h.elim
theorem boxK_sound {t : TypeId} {x : AV} {v : Value} (hσ : SimH F μ σ w) (hn : μ nid = none) (hx : RV F μ w v x) (h : boxK x nid K) : WOut P F μ σ w nid K (Instr.box t v) := by
  obtain ⟨h0, h⟩ := h
  obtain ⟨k1, k2⟩ := hx.cells (fun e => by subst e; cases h0)
  obtain ⟨h1, h2, h3, h4⟩ := new_object hσ hn v.cells t x.cells (by omega) k2
  exact ⟨_, _, .pointer (some ⟨w.heap.size, 0, none⟩), _, _, _, h, by simp [Instr.box, newVar, newRow], h1, h2, .ptr _ _ _ h3, h4⟩
theorem setAtL_get : ∀ (vs cs : List AV) (off i : Nat), off + vs.length ≤ cs.length → (setAtL cs off vs)[i]? = if off ≤ i ∧ i < off + vs.length then vs[i - off]? else cs[i]?
  | [], cs, off, i, _ => by simp [setAtL]; omega
  | v :: r, cs, off, i, h => by
    simp only [List.length_cons] at h
    rw [setAtL, setAtL_get r (cs.set off v) (off + 1) i (by simp; omega)]
    by_cases h1 : i = off
    · subst h1
      rw [if_neg (by omega), if_pos (by simp), List.getElem?_set_self (by omega)]; simp
    · rw [List.getElem?_set_ne (fun e => h1 e.symm)]
      by_cases h2 : off + 1 ≤ i ∧ i < off + 1 + r.length
      · rw [if_pos h2, if_pos (by simp; omega)]
        rw [show i - off = (i - (off + 1)) + 1 by omega]; simp
      · rw [if_neg h2, if_neg (by simp; omega)]
theorem write_cells (hσ : SimH F μ σ w) {o b off : Nat} {cs : List AV} (ho : σ.get o = .cells cs) (hb : μ o = some b) (vs : List Value) (us : List AV) (hl : vs.length = us.length) (hle : off + us.length ≤ cs.length)
    (hr : ∀ (i : Nat) c, us[i]? = some c → RV F μ w (vs[i]?.getD undef) c) (h1 : ∀ c ∈ us, c.one = true) :
    ∃ w', (∀ (a : Addr), a = ⟨b, off, none⟩ → (storeCells a vs).run P w = .ok () w') ∧ Step F μ w F μ w' ∧ SimH F μ ((o, .cells (setAtL cs off us)) :: σ) w' := by
  obtain ⟨cur, t, g1, g2, g3⟩ := hσ.cells ho hb
  have hone : ∀ v ∈ vs, v.oneCell' = true := fun v hv => by
    obtain ⟨i, hi, rfl⟩ := List.getElem_of_mem hv
    have hi' : i < us.length := by omega
    have := hr i us[i] (List.getElem?_eq_getElem hi')
    rw [List.getElem?_eq_getElem hi] at this
    exact one_cell this (h1 _ (List.getElem_mem _))
  have hrun := run_storeCells_at (P := P) b off t vs 0 cur w g1 (by omega) hone
  refine ⟨_, fun a ha => by subst ha; exact hrun, ?_⟩
  refine hσ.write ho hb g1 _ _ (by simp; omega) fun w' hs hw => ⟨_, _, hw, by simp [setAtL_length]; omega, fun i c hc => ?_⟩
  rw [setAtL_get us cs off i hle] at hc
  have hget : (cur.toList.take (off + 0) ++ vs ++ cur.toList.drop (off + 0 + vs.length)).toArray[i]? = if off ≤ i ∧ i < off + us.length then vs[i - off]? else cur[i]? := by
    simp only [Nat.add_zero, List.getElem?_toArray, List.append_assoc]
    by_cases h2 : i < off
    · rw [List.getElem?_append_left (by simp; omega), if_neg (by omega), List.getElem?_take_of_lt h2]; simp
    · rw [List.getElem?_append_right (by simp; omega)]
      have : min off cur.toList.length = off := by simp; omega
      rw [List.length_take, this]
      by_cases h3 : i < off + us.length
      · rw [if_pos ⟨by omega, h3⟩, List.getElem?_append_left (by omega)]
      · rw [if_neg (by omega), List.getElem?_append_right (by omega), List.getElem?_drop]
        rw [show off + vs.length + (i - off - vs.length) = i by omega]; simp
  rw [hget]
  split at hc
  · rename_i hh; rw [if_pos hh]; exact (hr _ _ hc).step hs
  · rename_i hh; rw [if_neg hh]; exact (g3 _ _ hc).step hs
theorem storeK_sound {t : TypeId} {a x : AV} {va v : Value} (hσ : SimH F μ σ w) (ha : RV F μ w va a) (hx : RV F μ w v x) (h : storeK P t a x σ K) :
    ∃ us w', K undefA us ∧ (Instr.storeAt t va v).run P w = .ok () w' ∧ Step F μ w F μ w' ∧ SimH F μ (us ++ σ) w' := by
  unfold storeK at h
  split at h
  · rename_i o off s g ht
    split at h
    · rename_i cs ho
      obtain ⟨⟨h0, hl, hle, h1⟩, hK⟩ := h
      cases ha; rename_i b hb
      obtain ⟨k1, k2⟩ := hx.cells (fun e => by subst e; cases h0)
      obtain ⟨w', e1, e2, e3⟩ := write_cells (P := P) (off := off) hσ ho hb v.cells.toList x.cells (by simpa using k1) (by omega) (by simpa using k2) h1
      refine ⟨_, w', hK, ?_, e2, e3⟩
      have : v.cells.size = s := by omega
      simp [Instr.storeAt, Instr.sureAddr, storeVar, run_sizeOf ht, this, e1 _ rfl]
    · exact h.elim
  · exact h.elim
theorem zerosOf_spec {z : List PV} {zv : Array Value} {s n : Nat} (hz : zv.size = z.length) (hs : z.length = s) (h0 : 0 < s) (hr : ∀ F (i : Nat) p, z[i]? = some p → RP F w (zv[i]?.getD undef) p) (m : Nat) (hm : n ≤ m) :
    (zerosOf z n).length = n * s ∧ ∀ (i : Nat) c, (zerosOf z n)[i]? = some c → RV F μ w (((Array.range (m * s)).map (zv[· % zv.size]!))[i]?.getD undef) c := by
  have flat : ∀ (n : Nat), ((List.replicate n (z.map AV.p)).flatten).length = n * s ∧ ∀ (i : Nat) c, ((List.replicate n (z.map AV.p)).flatten)[i]? = some c → ∃ q, z[i % s]? = some q ∧ c = .p q := by
    intro n
    induction n with
    | zero => simp
    | succ n ih =>
      obtain ⟨i1, i2⟩ := ih
      refine ⟨by simp [List.replicate_succ, hs, i1, Nat.add_mul]; omega, fun i c hc => ?_⟩
      rw [List.replicate_succ, List.flatten_cons] at hc
      by_cases hi : i < s
      · rw [List.getElem?_append_left (by simpa [hs] using hi)] at hc
        simp only [List.getElem?_map, Option.map_eq_some_iff] at hc
        obtain ⟨q, hq, rfl⟩ := hc
        exact ⟨q, by rw [Nat.mod_eq_of_lt hi]; exact hq, rfl⟩
      · rw [List.getElem?_append_right (by simp [hs]; omega)] at hc
        simp only [List.length_map, hs] at hc
        obtain ⟨q, hq, rfl⟩ := i2 _ _ hc
        exact ⟨q, by rw [← hq, Nat.mod_eq_sub_mod (by omega)], rfl⟩
  have both : (zerosOf z n).length = n * s ∧ ∀ (i : Nat) c, (zerosOf z n)[i]? = some c → ∃ q, z[i % s]? = some q ∧ c = .p q := by
    unfold zerosOf
    split
    · rename_i v
      simp at hs
      subst hs
      refine ⟨by simp, fun i c hc => ?_⟩
      have hi := (List.getElem?_eq_some_iff.1 hc).1
      simp at hi
      simp [hi] at hc
      exact ⟨v, by simp [Nat.mod_one], hc.symm⟩
    · exact flat n
  refine ⟨both.1, fun i c hc => ?_⟩
  obtain ⟨q, hq, rfl⟩ := both.2 i c hc
  have hi : i < n * s := by have := (List.getElem?_eq_some_iff.1 hc).1; rw [both.1] at this; exact this
  have hi' : i < m * s := Nat.lt_of_lt_of_le hi (Nat.mul_le_mul_right _ hm)
  have hmod : i % s < zv.size := by rw [hz, hs]; exact Nat.mod_lt _ h0
  have := hr F _ q hq
  refine .p ?_
  have e : (((Array.range (m * s)).map (zv[· % zv.size]!))[i]?.getD undef) = zv[i % s]?.getD undef := by
    rw [hz, hs]
    simp [hi', hmod]
  rw [e]; exact this
theorem tEZ_spec {t : TypeId} {s : Nat} {g : Bool} {z : List PV} (hE : tE P t = some (s, g)) (hz : tEZ P t = some z) : ∃ e, P.underlying t = some (.slice e) ∧ tT P e = some (s, g) ∧ tZ P e = some z := by
  obtain ⟨e, hu, hs⟩ := tE_spec hE
  unfold tEZ at hz; rw [hu] at hz
  exact ⟨e, hu, hs, hz⟩
theorem buildSliceK_sound {t : TypeId} {len : Nat} {parts : List (Nat × AV)} {vs : List (Nat × Value)} (hσ : SimH F μ σ w) (hn : μ nid = none) (hl : vs.length = parts.length)
    (hp : ∀ (i : Nat) p, parts[i]? = some p → ∃ v, vs[i]? = some (p.1, v) ∧ RV F μ w v p.2) (h : buildSliceK P t len parts nid K) : WOut P F μ σ w nid K (Instr.buildSlice t len vs.toArray) := by
  unfold buildSliceK at h
  split at h
  · rename_i s g z hE hz
    obtain ⟨e, hu, hs, hze⟩ := tEZ_spec hE hz
    obtain ⟨⟨hzl, h0, hsm⟩, h⟩ := h
    obtain ⟨zv, hzv, hzs, hzr⟩ := run_zeroValue hze w
    split at h
    · rename_i cs hf
      obtain ⟨zl, zr⟩ := zerosOf_spec (F := F) (μ := μ) (w := w) (n := len) hzs hzl h0 hzr len (Nat.le_refl _)
      obtain ⟨ys, y1, y2, y3⟩ := fill_sound (F := F) (μ := μ) (w := w) parts vs (zerosOf z len) ((Array.range (len * s)).map (zv.cells[· % zv.cells.size]!)) cs hl hp (by simp [zl]) zr hf
      have hcl : cs.length = len * s := by
        have : ∀ (parts : List (Nat × AV)) (cs out : List AV), fillA (placeOf [] s) cs parts = some out → out.length = cs.length := by
          intro parts
          induction parts with
          | nil => intro cs out h; simp [fillA] at h; rw [h]
          | cons x r ih =>
            intro cs out h
            simp only [fillA] at h
            split at h
            · split at h
              · have := ih _ _ h; rw [this, setAtL_length]
              · cases h
            · cases h
        rw [this _ _ _ hf, zl]
      obtain ⟨h1, h2, h3, h4⟩ := new_object hσ hn ys e cs (by omega) y3
      have hfun : placeOf [] s = fun i => some (i * s, s) := by funext x; simp [placeOf, show s ≠ 0 by omega]
      rw [hfun] at y1
      refine ⟨_, _, .slice (some ⟨w.heap.size, 0, none⟩) len len, _, _, _, h, ?_, h1, h2, .msl _ _ _ _ _ _ _ e ys.size h3 (.inr rfl) (by simp [World.shape?]) (by omega) (Nat.le_refl _) ?_, h4⟩
      · by_cases hlen : len * s = 0
        · have r0 : ∀ f : Nat → Value, (Array.range (len * s)).map f = #[] := fun f => by rw [hlen]; apply Array.ext'; simp
          rw [r0] at y1
          simp only [Instr.buildSlice, underlying, Sem.run_bind, run_program, Result.andThen_ok, hu, Sem.run_pure, run_sizeOf hs, if_pos hlen, r0, y1]
          rw [if_neg (by omega)]
          simp [newRow]
        · have : ¬ len * s > 2 ^ 24 := by omega
          simp only [Instr.buildSlice, underlying, Sem.run_bind, run_program, Result.andThen_ok, hu, Sem.run_pure, run_sizeOf hs, hlen, if_false, this, hzv]
          simp [y1, newRow]
      · unfold maxLen; have : len ≤ len * s := Nat.le_mul_of_pos_right _ h0; omega
    · exact h.elim
  · exact h.elim
theorem tB_spec {t e : TypeId} {bt : Nat} (hu : P.underlying t = some (.slice e)) (h : tB P t = some bt) : ∃ i, P.info? e = some i ∧ i.bytes = bt := by
  unfold tB at h; rw [hu] at h
  simp only [] at h
  split at h
  · rename_i i hi; injection h with h; exact ⟨i, hi, h⟩
  · cases h
theorem makeSliceK_sound {t : TypeId} {n c : AV} {vn vc : Value} (hσ : SimH F μ σ w) (hnew : μ nid = none) (hn : RV F μ w vn n) (hc : RV F μ w vc c) (h : makeSliceK P t n c nid K) : WOut P F μ σ w nid K (Instr.makeSlice t vn vc) := by
  unfold makeSliceK at h
  split at h
  · rename_i k1 n k2 c s g z bt hE hz hb
    obtain ⟨e, hu, hs, hze⟩ := tEZ_spec hE hz
    obtain ⟨i, hi, hib⟩ := tB_spec hu hb
    obtain ⟨⟨hzl, h0, hn0, hnc, hcm, hbt⟩, hK⟩ := h
    obtain rfl := pint_inv hn
    obtain rfl := pint_inv hc
    obtain ⟨zv, hzv, hzs, hzr⟩ := run_zeroValue hze w
    have hwn : IntKind.i64.wrap n = n := fits_i64 (by omega) (by omega)
    have hwc : IntKind.i64.wrap c = c := fits_i64 (by omega) (by omega)
    obtain ⟨zl, zr⟩ := zerosOf_spec (F := F) (μ := μ) (w := w) (n := n.toNat) hzs hzl h0 hzr c.toNat (by omega)
    obtain ⟨h1, h2, h3, h4⟩ := new_object hσ hnew ((Array.range (c.toNat * s)).map (zv.cells[· % zv.cells.size]!)) e (zerosOf z n.toNat) (by
      rw [zl]; simp; exact Nat.mul_le_mul_right _ (by omega)) zr
    have hsmall : ∀ x : Int, 0 ≤ x → x ≤ 1000000000 → ¬ ((bt : Int) * x > 2 ^ 48) := fun x hx0 hx => by
      have h5 : (bt : Int) * x ≤ 100000 * 1000000000 := Int.mul_le_mul (by omega) hx hx0 (by omega)
      have h6 : (2 : Int) ^ 48 = 281474976710656 := by decide
      rw [h6]; omega
    refine ⟨_, _, .slice (some ⟨w.heap.size, 0, none⟩) n.toNat c.toNat, _, _, _, hK, ?_, h1, h2, .msl _ _ _ _ _ _ _ e (c.toNat * s) h3 (.inr rfl) (by simp [World.shape?]) (by omega) (by omega) (by unfold maxLen; omega), h4⟩
    have hcond : (decide (c < 0) || decide ((bt : Int) * c > 2 ^ 48) || decide (n < 0) || decide (n > c)) = false := by
      simp only [Bool.or_eq_false_iff, decide_eq_false_iff_not]
      exact ⟨⟨⟨by omega, hsmall c (by omega) hcm⟩, by omega⟩, by omega⟩
    simp only [Instr.makeSlice, underlying, Sem.run_bind, run_program, Result.andThen_ok, hu, Sem.run_pure, asInt, asIntOf, typeInfo, hi, hib, hwn, hwc, hcond, Bool.false_eq_true, if_false, run_askRoom, run_sizeOf hs, newRow, run_newObj]
    by_cases hcz : c.toNat * s = 0
    · have r0 : ∀ f : Nat → Value, (Array.range (c.toNat * s)).map f = #[] := fun f => by rw [hcz]; apply Array.ext'; simp
      simp only [if_pos hcz, Sem.run_bind, Sem.run_pure, Result.andThen_ok, r0, run_newObj]
    · simp only [hcz, if_false, Sem.run_bind, hzv, Result.andThen_ok, Sem.run_pure, run_newObj]
  · exact h.elim
theorem flatMap_get {sz : Nat} (h0 : 0 < sz) : ∀ (l : List PV), (∀ p ∈ l, p.cells.length = sz) → (l.flatMap PV.cells).length = l.length * sz ∧ ∀ k, (l.flatMap PV.cells)[k]? = (l[k / sz]?).bind fun p => p.cells[k % sz]?
  | [], _ => by simp
  | p :: r, h => by
    have hp := h p (by simp)
    obtain ⟨i1, i2⟩ := flatMap_get h0 r (fun q hq => h q (by simp [hq]))
    refine ⟨by simp [i1, hp, Nat.add_mul]; omega, fun k => ?_⟩
    rw [List.flatMap_cons]
    by_cases hk : k < sz
    · rw [List.getElem?_append_left (by omega), Nat.div_eq_of_lt hk, Nat.mod_eq_of_lt hk]; simp
    · rw [List.getElem?_append_right (by omega), hp, i2]
      have hd : k / sz = (k - sz) / sz + 1 := by
        rw [← Nat.sub_add_cancel (show sz ≤ k by omega), Nat.add_div_right _ h0]; simp
      have hm : (k - sz) % sz = k % sz := (Nat.mod_eq_sub_mod (by omega)).symm
      rw [hd, hm]; simp
theorem srcK_sound {x : AV} {v : Value} {s : Nat} {Kn : Nat → List AV → Prop} (h0 : 0 < s) (hσ : SimH F μ σ w) (hx : RV F μ w v x) (h : srcK x s σ Kn) :
    ∃ n new, Kn n new ∧ (∀ w', (Builtin.lenOf v).run P w' = .ok n w') ∧ new.length = n * s ∧ (∀ m, m ≤ n → ∃ cells : Array Value, (∀ w', Same w w' → (Builtin.firstCells s m v).run P w' = .ok cells w') ∧ cells.size = m * s ∧ ∀ (i : Nat) c, (new.take (m * s))[i]? = some c → RV F μ w (cells[i]?.getD undef) c) := by
  have fromCells : ∀ (b off len cap n : Nat) (new : List AV) (f : Nat → Value), new.length = n * s → (∀ (i : Nat) c, new[i]? = some c → w.cell? ⟨b, off + i, none⟩ = some (f i) ∧ RV F μ w (f i) c) →
      ∀ m, m ≤ n → ∃ cells : Array Value, (∀ w', Same w w' → (Builtin.firstCells s m (.slice (some ⟨b, off, none⟩) len cap)).run P w' = .ok cells w') ∧ cells.size = m * s ∧ ∀ (i : Nat) c, (new.take (m * s))[i]? = some c → RV F μ w (cells[i]?.getD undef) c := by
    intro b off len cap n new f hl hc m hm
    have hms : m * s ≤ n * s := Nat.mul_le_mul_right _ hm
    refine ⟨((List.range (m * s)).map f).toArray, fun w' hw => ?_, by simp, fun i c hi => ?_⟩
    · simp only [Builtin.firstCells]
      exact run_loadCells (P := P) (w := w') ⟨b, off, none⟩ (m * s) f (fun j hj => by
        have hj' : j < new.length := by omega
        rw [add_none]; exact hw.cell (hc j _ (List.getElem?_eq_getElem hj')).1)
    · have him : i < m * s := by have := (List.getElem?_eq_some_iff.1 hi).1; simp at this; omega
      rw [List.getElem?_take_of_lt him] at hi
      simpa [him] using (hc i c hi).2
  unfold srcK at h
  split at h
  · rename_i sz c l
    obtain ⟨hz, hK⟩ := h
    cases hx; rename_i hx
    cases hx with
    | esl a cap sz clip e1 e2 e3 =>
      refine ⟨_, _, hK, fun w' => rfl, by simp, fun m hm => ⟨#[], fun w' _ => ?_, ?_, by simp⟩⟩
      · obtain rfl : m = 0 := by simpa using hm
        cases a <;> simp [Builtin.firstCells, loadCells, loadCellsFrom]
      · obtain rfl : m = 0 := by simpa using hm
        simp
    | sl b off len cap sz clip l cv hb hl h3 h4 h5 h6 h7 h8 =>
      by_cases hne : l = []
      · subst hne
        simp at hl; subst hl
        refine ⟨_, _, hK, fun w' => rfl, by simp, fun m hm => ⟨#[], fun w' _ => ?_, ?_, by simp⟩⟩
        · obtain rfl : m = 0 := by simpa using hm
          simp [Builtin.firstCells, loadCells, loadCellsFrom]
        · obtain rfl : m = 0 := by simpa using hm
          simp
      · have hsz : sz = s := hz.resolve_right hne
        subst hsz
        obtain ⟨f1, f2⟩ := flatMap_get h0 l (fun p hp => by
          obtain ⟨i, hi, rfl⟩ := List.getElem_of_mem hp
          exact (h6 i _ (List.getElem?_eq_getElem hi)).1)
        refine ⟨_, _, hK, fun w' => by rw [← hl]; rfl, by simp [f1], fromCells b off len cap l.length _ (fun k => cv (k / sz) (k % sz)) (by simp [f1]) fun i c hc => ?_⟩
        simp only [List.getElem?_map, Option.map_eq_some_iff] at hc
        obtain ⟨q, hq, rfl⟩ := hc
        rw [f2, Option.bind_eq_some_iff] at hq
        obtain ⟨p, hp, hq⟩ := hq
        refine ⟨?_, .p (h8 _ p _ q hp hq)⟩
        have := h7 _ p _ q hp hq
        rw [← this]
        have hdm : i / sz * sz + i % sz = i := Nat.div_add_mod' i sz
        rw [Nat.add_assoc, hdm]
  · rename_i o sz off n
    obtain ⟨rfl, h⟩ := h
    split at h
    · rename_i cs ho
      obtain ⟨hle, hK⟩ := h
      cases hx with
      | msl o sz off off' len cap b t n' hb hcap hsh hbd hlc hcm =>
      obtain ⟨cur, ty, g1, g2, g3⟩ := hσ.cells ho hb
      refine ⟨_, _, hK, fun w' => rfl, by simp; omega, ?_⟩
      by_cases hn : n = 0
      · subst hn
        intro m hm
        obtain rfl : m = 0 := by omega
        exact ⟨#[], fun w' _ => by simp [Builtin.firstCells, loadCells, loadCellsFrom], by simp, by simp⟩
      · have : off' = off := by rcases hcap with h' | h' <;> omega
        subst this
        refine fromCells b off' n cap n _ (fun k => cur[off' + k]?.getD undef) (by simp; omega) fun i c hc => ?_
        have hi : i < n * sz := by have := (List.getElem?_eq_some_iff.1 hc).1; simp at this; omega
        rw [List.getElem?_take_of_lt hi, List.getElem?_drop] at hc
        refine ⟨?_, g3 _ _ hc⟩
        rw [cell_row g1]
        have hlt : off' + i < cur.size := by omega
        simp [hlt]
    · exact h.elim
  · rename_i b
    obtain ⟨rfl, hK⟩ := h
    obtain rfl := pstr_inv hx
    refine ⟨_, _, hK, fun w' => rfl, by rw [List.length_map, Array.length_toList, Nat.mul_one]; rfl, fun m hm => ⟨(b.extract 0 m).data.map fun u => .int .u8 u.toNat, fun w' _ => rfl, ?_, fun i c hc => ?_⟩⟩
    · rw [Array.size_map, ByteArray.data_extract, Array.size_extract]
      have : b.size = b.data.size := rfl
      omega
    · have hi : i < m * 1 := by have := (List.getElem?_eq_some_iff.1 hc).1; simp at this; omega
      rw [List.getElem?_take_of_lt hi] at hc
      simp only [List.getElem?_map, Option.map_eq_some_iff] at hc
      obtain ⟨u, hu, rfl⟩ := hc
      have hib : i < b.data.size := by have := (List.getElem?_eq_some_iff.1 hu).1; simpa using this
      have : b.data.toList[i]? = some b.data[i] := by simp [hib]
      rw [this] at hu
      injection hu with hu
      subst hu
      have hm' : i < min m b.data.size := by omega
      have e : ((b.extract 0 m).data.map fun u => Value.int .u8 u.toNat)[i]?.getD undef = .int .u8 b.data[i].toNat := by
        have hlt : i < ((b.extract 0 m).data.map fun u => Value.int .u8 u.toNat).size := by
          rw [Array.size_map, ByteArray.data_extract, Array.size_extract]; omega
        rw [Array.getElem?_eq_getElem hlt, Option.getD_some, Array.getElem_map]
        simp only [ByteArray.data_extract, Array.getElem_extract, Nat.zero_add]
      rw [e]
      exact .p (.int _ _)
  · exact h.elim
end
end Go.Sg
namespace Go.Sg
open Go
section
variable {P : Program} {F : Nat → Prop} {μ : Num} {σ : Heap} {w : World} {nid : Nat} {K : AV → Heap → Prop}
theorem SimH.congr {σ' : Heap} (h : SimH F μ σ w) (e : ∀ i, Heap.get σ' i = σ.get i) : SimH F μ σ' w :=
  ⟨h.fb, h.mb, fun o ho => h.has o (by rw [← e]; exact ho), fun o b hb => by rw [e]; exact h.obj o b hb, fun o b ho => h.live o b (by rw [← e]; exact ho), fun i j b hi hj => h.inj i j b (by rw [← e]; exact hi) (by rw [← e]; exact hj), fun c m hc => ⟨(h.hd c m hc).1, fun o ho => (h.hd c m hc).2 o (by rw [← e]; exact ho)⟩, h.hu⟩
theorem SimH.less {σ' : Heap} (h : SimH F μ σ w) (e : ∀ i, Heap.get σ' i = .dead ∨ Heap.get σ' i = σ.get i) : SimH F μ σ' w := by
  have nd : ∀ i, Heap.get σ' i ≠ .dead → σ.get i ≠ .dead := fun i hi => by
    rcases e i with k | k
    · exact absurd k hi
    · rw [← k]; exact hi
  refine ⟨h.fb, h.mb, fun o ho => h.has o (nd o ho), fun o b hb => ?_, fun o b ho => h.live o b (nd o ho), fun i j b hi hj => h.inj i j b (nd i hi) (nd j hj), fun c m hc => ⟨(h.hd c m hc).1, fun o ho => (h.hd c m hc).2 o (nd o ho)⟩, h.hu⟩
  rcases e o with k | k
  · rw [k]; trivial
  · rw [k]; exact h.obj o b hb
theorem SimH.less_one {n o : Nat} {x : AObj} (h : SimH F μ ([(n, x)] ++ σ) w) : SimH F μ ([(n, x), (o, .dead)] ++ σ) w := h.less fun i => by
  simp only [List.cons_append, List.nil_append, Heap.get_cons]
  by_cases h1 : n = i
  · rw [if_pos h1, if_pos h1]; exact .inr rfl
  · rw [if_neg h1, if_neg h1]
    by_cases h2 : o = i
    · rw [if_pos h2]; exact .inl rfl
    · rw [if_neg h2]; exact .inr rfl
theorem drawn_step (hσ : SimH F μ σ w) (n : Nat) : Step F μ w F μ { w with drawn := n } ∧ SimH F μ σ { w with drawn := n } := by
  have hs : Step F μ w F μ { w with drawn := n } := ⟨rfl, rfl, rfl, Nat.le_refl _, fun _ _ => rfl, fun _ _ _ => rfl, fun _ _ h => h, fun _ h => h, fun _ h => .inl h, fun _ _ h => h, fun _ h => .inl h⟩
  exact ⟨hs, hσ.keep hs (fun _ _ => rfl) (fun _ h => .inl h)⟩
theorem SimH.renew (h : SimH F μ σ w) {n o b : Nat} {x : AObj} (hn : μ n = none) (ho : σ.get o = x) (hx : x ≠ .dead) (hb : μ o = some b) (y : AObj) (hy : RO F (μ.put n b) w b y) :
    Step F μ w F (μ.put n b) w ∧ SimH F (μ.put n b) ([(n, y), (o, .dead)] ++ σ) w := by
  have hno : n ≠ o := fun e => by rw [e, hb] at hn; cases hn
  have hs : Step F μ w F (μ.put n b) w := ⟨rfl, rfl, rfl, Nat.le_refl _, fun _ _ => rfl, fun _ _ _ => rfl, fun _ _ h => h, fun _ h => h, fun _ h => .inl h, Num.put_pre hn, fun k hk => by
    rcases Num.put_has hk with h1 | h1; (exact .inl h1); exact .inl (h1 ▸ .inl ⟨o, hb⟩)⟩
  have get : ∀ i, (i = n ∧ Heap.get ([(n, y), (o, .dead)] ++ σ) i = y) ∨ (i = o ∧ Heap.get ([(n, y), (o, .dead)] ++ σ) i = .dead) ∨ (i ≠ n ∧ i ≠ o ∧ Heap.get ([(n, y), (o, .dead)] ++ σ) i = σ.get i) := fun i => by
    simp only [List.cons_append, List.nil_append, Heap.get_cons]
    by_cases e1 : n = i
    · exact .inl ⟨e1.symm, if_pos e1⟩
    · rw [if_neg e1]
      by_cases e2 : o = i
      · exact .inr (.inl ⟨e2.symm, if_pos e2⟩)
      · exact .inr (.inr ⟨fun k => e1 k.symm, fun k => e2 k.symm, if_neg e2⟩)
  have num : ∀ i k, (μ.put n b) i = some k → (i = n ∧ k = b) ∨ (i ≠ n ∧ μ i = some k) := fun i k hi => by
    have hi : (if i = n then some b else μ i) = some k := hi
    by_cases e : i = n
    · rw [if_pos e] at hi; injection hi with hi; exact .inl ⟨e, hi.symm⟩
    · rw [if_neg e] at hi; exact .inr ⟨e, hi⟩
  have hnd : σ.get o ≠ .dead := by rw [ho]; exact hx
  refine ⟨hs, ⟨h.fb, fun k hk => by rcases Num.put_has hk with h1 | h1; (exact h.mb k h1); exact h1 ▸ h.mb b (.inl ⟨o, hb⟩), ?_, ?_, ?_, ?_, ?_, h.hu⟩⟩
  · intro i hi
    rcases get i with ⟨e, _⟩ | ⟨_, e⟩ | ⟨_, _, e⟩
    · rw [e]; exact ⟨b, Num.put_self _ _ _⟩
    · exact absurd e hi
    · rw [e] at hi
      obtain ⟨k, hk⟩ := h.has i hi
      exact ⟨k, Num.put_pre hn _ _ hk⟩
  · intro i k hk
    rcases get i with ⟨e, e2⟩ | ⟨_, e⟩ | ⟨e1, _, e⟩
    · rw [e2]
      rcases num i k hk with ⟨_, rfl⟩ | ⟨e3, _⟩
      · exact hy
      · exact absurd e e3
    · rw [e]; trivial
    · rw [e]
      rcases num i k hk with ⟨e3, _⟩ | ⟨_, hk'⟩
      · exact absurd e3 e1
      · exact (h.obj i k hk').step hs rfl fun c hc => ⟨hc, rfl⟩
  · intro i k hi hk
    rcases num i k hk with ⟨_, rfl⟩ | ⟨e3, hk'⟩
    · exact h.live o _ hnd hb
    · rcases get i with ⟨e, _⟩ | ⟨_, e⟩ | ⟨_, _, e⟩
      · exact absurd e e3
      · exact absurd e hi
      · rw [e] at hi; exact h.live i k hi hk'
  · intro i j k hi hj hki hkj
    rcases num i k hki with ⟨ei, ek⟩ | ⟨ei, hki'⟩ <;> rcases num j k hkj with ⟨ej, ek'⟩ | ⟨ej, hkj'⟩
    · rw [ei, ej]
    · rcases get j with ⟨e, _⟩ | ⟨_, e⟩ | ⟨_, e2, e⟩
      · exact absurd e ej
      · exact absurd e hj
      · rw [e] at hj; subst ek; exact absurd (h.inj j o _ hj hnd hkj' hb) e2
    · rcases get i with ⟨e, _⟩ | ⟨_, e⟩ | ⟨_, e2, e⟩
      · exact absurd e ei
      · exact absurd e hi
      · rw [e] at hi; subst ek'; exact absurd (h.inj i o _ hi hnd hki' hb) e2
    · rcases get i with ⟨e, _⟩ | ⟨_, e⟩ | ⟨_, _, e⟩
      · exact absurd e ei
      · exact absurd e hi
      · rcases get j with ⟨e', _⟩ | ⟨_, e'⟩ | ⟨_, _, e'⟩
        · exact absurd e' ej
        · exact absurd e' hj
        · rw [e] at hi; rw [e'] at hj; exact h.inj i j k hi hj hki' hkj'
  · intro c m hc
    have hc : μ.hid c m := hc
    refine ⟨(h.hd c m hc).1, fun i hi hm => ?_⟩
    rcases num i c hm with ⟨_, rfl⟩ | ⟨e3, hk'⟩
    · exact (h.hd _ m hc).2 o hnd hb
    · rcases get i with ⟨e, _⟩ | ⟨_, e⟩ | ⟨_, _, e⟩
      · exact absurd e e3
      · exact absurd e hi
      · rw [e] at hi; exact (h.hd c m hc).2 i hi hk'
theorem notInt_spec {t : TypeId} (h : tNotInt P t = true) : ∃ d, P.underlying t = some d ∧ ∀ k, d ≠ .int k := by
  unfold tNotInt at h
  split at h
  · cases h
  · cases h
  · rename_i h1 h2
    cases hu : P.underlying t with
    | none => exact absurd hu h2
    | some d => exact ⟨d, rfl, fun k e => h1 k (by rw [hu, e])⟩
theorem run_append_fits {t xt ty e : TypeId} {s n : Nat} {g : Bool} {base : Option Addr} {len cap : Nat} {vx : Value} (hu : P.underlying t = some (.slice e)) (hs : tT P e = some (s, g)) (hni : tNotInt P xt = true)
    (hlen : ∀ w', (Builtin.lenOf vx).run P w' = .ok n w') (hf : len + n ≤ cap) (w' : World) : (Builtin.append_ #[t, xt] ty #[.slice base len cap, vx]).run P w' =
      ((Builtin.firstCells s n vx).run P w').andThen fun new w₁ => ((match base with | some a => storeCells (a.add (len * s)) new.toList | none => pure () : Sem Unit).run P w₁).andThen fun _ w₂ => .ok (.slice base (len + n) cap) w₂ := by
  obtain ⟨dx, hdx, hdn⟩ := notInt_spec hni
  have hszr := fun w' => run_sizeOf hs w'
  have hm : (dx matches .int _) = false := by
    cases dx <;> first | rfl | exact absurd rfl (hdn _)
  cases base <;> simp only [Builtin.append_, List.getElem?_toArray, List.getElem?_cons_zero, List.getElem?_cons_succ, underlying, Sem.run_bind, run_program, Result.andThen_ok, hu, Sem.run_pure, hszr, hdx, hm, Bool.false_eq_true, if_false, hlen, if_pos hf, Bool.not_false, if_true]
theorem run_append_new {t xt ty e : TypeId} {s n : Nat} {g : Bool} {base : Option Addr} {len cap : Nat} {vx zv : Value} {i : TypeInfo} {ca cn : Array Value} (hu : P.underlying t = some (.slice e)) (hs : tT P e = some (s, g)) (hni : tNotInt P xt = true)
    (hlen : ∀ w', (Builtin.lenOf vx).run P w' = .ok n w') (hf : ¬ len + n ≤ cap) (hi : P.info? e = some i) (hover : ¬ (9223372036854775807 < ((len : Int) + (n : Int)))) (h48 : ¬ (281474976710656 < Builtin.nextslicecap (len + n) cap * i.bytes))
    (hzv : ∀ w', (zeroValue e).run P w' = .ok zv w') (w' : World) (ha : (Builtin.firstCells s len (.slice base len cap)).run P w'.drew = .ok ca w'.drew) (hn : (Builtin.firstCells s n vx).run P w'.drew = .ok cn w'.drew) :
    (Builtin.append_ #[t, xt] ty #[.slice base len cap, vx]).run P w' = .ok (.slice (some ⟨w'.heap.size, 0, none⟩) (len + n) ((Question.appendCap (len + n) cap e).cut (w'.tape w'.drawn (Question.appendCap (len + n) cap e))))
      (w'.drew.alloc (.cells (ca ++ (cn ++ Builtin.zeroCells zv.cells ((Question.appendCap (len + n) cap e).cut (w'.tape w'.drawn (Question.appendCap (len + n) cap e)) - (len + n)))) e)) := by
  obtain ⟨dx, hdx, hdn⟩ := notInt_spec hni
  have hszr := fun w' => run_sizeOf hs w'
  have hm : (dx matches .int _) = false := by
    cases dx <;> first | rfl | exact absurd rfl (hdn _)
  simp only [Builtin.append_, List.getElem?_toArray, List.getElem?_cons_zero, List.getElem?_cons_succ, underlying, Sem.run_bind, run_program, Result.andThen_ok, hu, Sem.run_pure, hszr, hdx, hm, Bool.false_eq_true, if_false, hlen, if_neg hf, Bool.not_false, if_true]
  simp [typeInfo, hi, hover, h48, Question.forced, ha, hn, hzv, newRow]
theorem append_realloc_of {t xt ty : TypeId} {e : TypeId} {s n len cap : Nat} {base : Option Addr} {vx : Value} {LA LN : List AV} {zv : Value} (hσ : SimH F μ σ w) (hnew : μ nid = none)
    (hzs : zv.cells.size = s) (hle : len ≤ cap) (hsm : len + n ≤ 1000000000)
    (hA : ∃ cells : Array Value, (∀ w', Same w w' → (Builtin.firstCells s len (.slice base len cap)).run P w' = .ok cells w') ∧ cells.size = len * s ∧ ∀ (i : Nat) c, LA[i]? = some c → RV F μ w (cells[i]?.getD undef) c) (hAl : LA.length = len * s)
    {cn : Array Value} (hn2 : cn.size = n * s) (hn3 : ∀ (i : Nat) c, LN[i]? = some c → RV F μ w (cn[i]?.getD undef) c) (hNl : LN.length = n * s)
    (hrun : ∀ ca, (Builtin.firstCells s len (.slice base len cap)).run P w.drew = .ok ca w.drew → (Builtin.append_ #[t, xt] ty #[.slice base len cap, vx]).run P w = .ok (.slice (some ⟨w.heap.size, 0, none⟩) (len + n) ((Question.appendCap (len + n) cap e).cut (w.tape w.drawn (Question.appendCap (len + n) cap e))))
      (w.drew.alloc (.cells (ca ++ (cn ++ Builtin.zeroCells zv.cells ((Question.appendCap (len + n) cap e).cut (w.tape w.drawn (Question.appendCap (len + n) cap e)) - (len + n)))) e)))
    (us : Heap) (hus : ∀ {F' μ' w'}, SimH F' μ' ([(nid, .cells (LA ++ LN))] ++ σ) w' → SimH F' μ' (us ++ σ) w') (hK : K (.msl nid s 0 (len + n)) us) : WOut P F μ σ w nid K (Builtin.append_ #[t, xt] ty #[.slice base len cap, vx]) := by
  obtain ⟨ca, ha1, ha2, ha3⟩ := hA
  let q : Question := .appendCap (len + n) cap e
  let nc := q.cut (w.tape w.drawn q)
  have hnc : len + n ≤ nc := by show len + n ≤ len + n + _; omega
  have hncm : nc ≤ maxLen := by
    have : nc = len + n + (w.tape w.drawn q) % (2 ^ 63 - (len + n)) := rfl
    have h1 : (w.tape w.drawn q) % (2 ^ 63 - (len + n)) < 2 ^ 63 - (len + n) := Nat.mod_lt _ (by omega)
    unfold maxLen; omega
  obtain ⟨s1, s2⟩ := drawn_step hσ (w.drawn + 1)
  let cur := ca ++ cn ++ Builtin.zeroCells zv.cells (nc - (len + n))
  have hcur : cur.size = nc * s := by
    have : (Builtin.zeroCells zv.cells (nc - (len + n))).size = (nc - (len + n)) * s := by simp [Builtin.zeroCells, hzs]
    show (ca ++ cn ++ _).size = _
    rw [Array.size_append, Array.size_append, this, ha2, hn2, ← Nat.add_mul, ← Nat.add_mul]
    congr 1; omega
  obtain ⟨h1, h2, h3, h4⟩ := new_object s2 hnew cur e (LA ++ LN) (by rw [hcur, List.length_append, hAl, hNl, ← Nat.add_mul]; exact Nat.mul_le_mul_right _ hnc) (fun i c hc => by
    have hrv : RV F μ w (cur[i]?.getD undef) c := by
      by_cases hlt : i < LA.length
      · rw [List.getElem?_append_left hlt] at hc
        have : cur[i]? = ca[i]? := by
          show (ca ++ cn ++ _)[i]? = _
          rw [Array.append_assoc, Array.getElem?_append_left (by omega)]
        rw [this]; exact ha3 i c hc
      · rw [List.getElem?_append_right (by omega)] at hc
        have hin := (List.getElem?_eq_some_iff.1 hc).1
        have : cur[i]? = cn[i - LA.length]? := by
          show (ca ++ cn ++ _)[i]? = _
          rw [Array.getElem?_append_left (by rw [Array.size_append]; omega), Array.getElem?_append_right (by omega), ha2, hAl]
        rw [this]; exact hn3 _ c hc
    exact hrv.step s1)
  refine ⟨_, _, .slice (some ⟨w.heap.size, 0, none⟩) (len + n) nc, _, _, _, hK, ?_, s1.trans h1, hus h2, .msl _ _ _ _ _ _ _ e cur.size h3 (.inr rfl) (by simp [World.shape?]) (by rw [hcur]; omega) hnc hncm, h4⟩
  have hcure : cur = ca ++ (cn ++ Builtin.zeroCells zv.cells (nc - (len + n))) := Array.append_assoc ..
  rw [hcure]
  exact hrun ca (ha1 w.drew (fun _ _ => rfl))
theorem append_realloc {t xt ty : TypeId} {e : TypeId} {s n bt len cap : Nat} {g : Bool} {base : Option Addr} {vx : Value} {LA LN : List AV} {i : TypeInfo} {z : List PV} (hσ : SimH F μ σ w) (hnew : μ nid = none)
    (hu : P.underlying t = some (.slice e)) (hs : tT P e = some (s, g)) (hi : P.info? e = some i) (hib : i.bytes = bt) (hbt : bt ≤ 100000) (hz : tZ P e = some z) (hzl : z.length = s) (hni : tNotInt P xt = true)
    (hlen : ∀ w', (Builtin.lenOf vx).run P w' = .ok n w') (hgt : cap < len + n) (hle : len ≤ cap) (hsm : len + n ≤ 1000000000)
    (hA : ∃ cells : Array Value, (∀ w', Same w w' → (Builtin.firstCells s len (.slice base len cap)).run P w' = .ok cells w') ∧ cells.size = len * s ∧ ∀ (i : Nat) c, LA[i]? = some c → RV F μ w (cells[i]?.getD undef) c) (hAl : LA.length = len * s)
    (hN : ∃ cells : Array Value, (∀ w', Same w w' → (Builtin.firstCells s n vx).run P w' = .ok cells w') ∧ cells.size = n * s ∧ ∀ (i : Nat) c, LN[i]? = some c → RV F μ w (cells[i]?.getD undef) c) (hNl : LN.length = n * s)
    (us : Heap) (hus : ∀ {F' μ' w'}, SimH F' μ' ([(nid, .cells (LA ++ LN))] ++ σ) w' → SimH F' μ' (us ++ σ) w') (hK : K (.msl nid s 0 (len + n)) us) : WOut P F μ σ w nid K (Builtin.append_ #[t, xt] ty #[.slice base len cap, vx]) := by
  obtain ⟨cn, hn1, hn2, hn3⟩ := hN
  obtain ⟨zv, hzv, hzs, hzr⟩ := run_zeroValue hz w
  have hbig : ¬ Builtin.nextslicecap (len + n) cap * i.bytes > 2 ^ 48 := by
    have k1 := nextslicecap_le (need := len + n) (old := cap) hgt
    have k2 : Builtin.nextslicecap (len + n) cap * i.bytes ≤ (2 * 1000000000) * 100000 := Nat.mul_le_mul (by omega) (by omega)
    omega
  have h48 : ¬ (281474976710656 < Builtin.nextslicecap (len + n) cap * i.bytes) := by simpa using hbig
  exact append_realloc_of hσ hnew (hzs.trans hzl) hle hsm hA hAl hn2 hn3 hNl (fun ca hca => run_append_new hu hs hni hlen (by omega) hi (by omega) h48 hzv w hca (hn1 w.drew (fun _ _ => rfl))) us hus hK
def tIsInt (P : Program) (t : TypeId) : Bool := match P.underlying t with | some (.int _) => true | _ => false
theorem run_append_zeros {t xt ty e : TypeId} {s n : Nat} {g : Bool} {base : Option Addr} {len cap : Nat} {zv : Value} {i : TypeInfo} {ca : Array Value} (hu : P.underlying t = some (.slice e)) (hs : tT P e = some (s, g)) (hni : tIsInt P xt = true)
    (h0 : 0 < n * s) (hn : n ≤ 1000000000) (hf : ¬ len + n ≤ cap) (hi : P.info? e = some i) (hib : i.bytes ≤ 100000) (hover : len + n ≤ 1000000000) (h48 : ¬ (281474976710656 < Builtin.nextslicecap (len + n) cap * i.bytes))
    (hzv : ∀ w', (zeroValue e).run P w' = .ok zv w') (w' : World) (ha : (Builtin.firstCells s len (.slice base len cap)).run P w'.drew = .ok ca w'.drew) :
    (Builtin.append_ #[t, xt] ty #[.slice base len cap, .int .i64 n]).run P w' = .ok (.slice (some ⟨w'.heap.size, 0, none⟩) (len + n) ((Question.appendCap (len + n) cap e).cut (w'.tape w'.drawn (Question.appendCap (len + n) cap e))))
      (w'.drew.alloc (.cells (ca ++ (Builtin.zeroCells zv.cells n ++ Builtin.zeroCells zv.cells ((Question.appendCap (len + n) cap e).cut (w'.tape w'.drawn (Question.appendCap (len + n) cap e)) - (len + n)))) e)) := by
  have hd : ∃ k, P.underlying xt = some (.int k) := by
    unfold tIsInt at hni
    split at hni
    · exact ⟨_, by assumption⟩
    · cases hni
  obtain ⟨k, hdx⟩ := hd
  have hszr := fun w' => run_sizeOf hs w'
  have hw : IntKind.i64.wrap (n : Int) = n := fits_i64 (by omega) (by omega)
  have hlt : ¬ ((n : Int) < 0) := by omega
  have hbb : ¬ (2 ^ 48 < (n : Int) * (i.bytes : Int)) := by
    have : n * i.bytes ≤ 1000000000 * 100000 := Nat.mul_le_mul hn hib
    have h2 : ((n * i.bytes : Nat) : Int) ≤ ((1000000000 * 100000 : Nat) : Int) := by omega
    rw [Int.natCast_mul] at h2
    omega
  have hns : ¬ n * s = 0 := by omega
  have hmax : ¬ (9223372036854775807 < ((len : Int) + (n : Int))) := by omega
  have hm : (TypeDesc.int k matches .int _) = true := rfl
  have hai : ∀ w', (asInt (.int .i64 (n : Int))).run P w' = .ok (n : Int) w' := fun _ => rfl
  have hbb2 : ¬ (281474976710656 < (n : Int) * (i.bytes : Int)) := by simpa using hbb
  simp only [Builtin.append_, List.getElem?_toArray, List.getElem?_cons_zero, List.getElem?_cons_succ, underlying, Sem.run_bind, run_program, Result.andThen_ok, hu, Sem.run_pure, hszr, hdx, hm, if_true, hai, hw, if_neg hlt, Int.toNat_natCast]
  simp [typeInfo, hi, hbb2, hns, if_neg hf, hmax, h48, Question.forced, ha, hzv, newRow, hf]
theorem appendK_sound {t xt ty : TypeId} {a x : AV} {va vx : Value} (hσ : SimH F μ σ w) (hnew : μ nid = none) (ha : RV F μ w va a) (hx : RV F μ w vx x) (h : appendK P t xt a x σ nid K) : WOut P F μ σ w nid K (Builtin.append_ #[t, xt] ty #[va, vx]) := by
  unfold appendK at h
  split at h
  · rename_i s g z bt hE hz hb
    obtain ⟨e, hu, hs, hze⟩ := tEZ_spec hE hz
    obtain ⟨i, hi, hib⟩ := tB_spec hu hb
    obtain ⟨⟨hzl, h0, hbt, hni⟩, h⟩ := h
    obtain ⟨n, new, h, hlen, hnl, hfc⟩ := srcK_sound (P := P) h0 hσ hx h
    have hN := hfc n (Nat.le_refl _)
    rw [List.take_of_length_le (by omega)] at hN
    have nope : ∀ {p : Prop}, False → p := fun h => h.elim
    cases a with
    | p q =>
     cases q with
     | sl sz c l =>
      obtain ⟨⟨rfl, hsz, hsm⟩, hz0, hpos⟩ := h
      have hcap : ∃ base cap, va = .slice base l.length cap ∧ cap = l.length ∧ (base = none → l.length = 0) := by
        cases ha; rename_i ha
        cases ha with
        | esl a cap sz clip e1 e2 e3 => exact ⟨a, cap, rfl, e3 rfl, fun _ => rfl⟩
        | sl b off len cap sz clip l cv hb hl h3 h4 h5 h6 h7 h8 => subst hl; exact ⟨_, cap, rfl, h5 rfl, fun h => by cases h⟩
      obtain ⟨base, cap, rfl, rfl, hbn⟩ := hcap
      by_cases hn0 : n = 0
      · subst hn0
        obtain ⟨cells, c1, c2, _⟩ := hN
        have hc0 : cells = #[] := by apply Array.eq_empty_of_size_eq_zero; omega
        subst hc0
        have c1' := c1 w (fun _ _ => rfl)
        refine ⟨_, _, _, w, F, μ, hz0 rfl, ?_, .refl _ _ _, hσ, ha, fun _ _ => rfl⟩
        rw [run_append_fits (len := l.length) (cap := l.length) hu hs hni hlen (by omega), c1']
        cases base <;> simp [storeCells]
      · have hA : ∃ cells : Array Value, (∀ w', Same w w' → (Builtin.firstCells s l.length (.slice base l.length l.length)).run P w' = .ok cells w') ∧ cells.size = l.length * s ∧ ∀ (i : Nat) c, ((l.flatMap PV.cells).map AV.p)[i]? = some c → RV F μ w (cells[i]?.getD undef) c := by
          obtain ⟨n', new', hk, hl', hnl', hf⟩ := srcK_sound (P := P) (Kn := fun n new => n = l.length ∧ new = (l.flatMap PV.cells).map AV.p) h0 hσ ha ⟨hsz, rfl, rfl⟩
          obtain ⟨rfl, rfl⟩ := hk
          have := hf _ (Nat.le_refl _)
          rw [List.take_of_length_le (by omega)] at this
          exact this
        have hAl : ((l.flatMap PV.cells).map AV.p).length = l.length * s := by
          obtain ⟨n', new', hk, hl', hnl', hf⟩ := srcK_sound (P := P) (Kn := fun n new => n = l.length ∧ new = (l.flatMap PV.cells).map AV.p) h0 hσ ha ⟨hsz, rfl, rfl⟩
          obtain ⟨rfl, rfl⟩ := hk
          exact hnl'
        exact append_realloc hσ hnew hu hs hi hib hbt hze hzl hni hlen (by omega) (Nat.le_refl _) hsm hA hAl hN hnl _ (fun h => h) (hpos (by omega))
     | _ => exact nope h
    | msl o sz off len =>
      simp only [] at h
      split at h
      · rename_i cs ho
        obtain ⟨⟨rfl, rfl, hfull, hsm, h1⟩, hz0, hpos⟩ := h
        have ha' := ha
        cases ha with
        | msl o sz off off' len cap b t' n' hbm hcap hsh hbd hlc hcm =>
        by_cases hn0 : n = 0
        · subst hn0
          obtain ⟨cells, c1, c2, _⟩ := hN
          have hc0 : cells = #[] := by apply Array.eq_empty_of_size_eq_zero; omega
          subst hc0
          have c1' := c1 w (fun _ _ => rfl)
          refine ⟨_, _, _, w, F, μ, hz0 rfl, ?_, .refl _ _ _, hσ, ha', fun _ _ => rfl⟩
          rw [run_append_fits hu hs hni hlen hlc, c1']
          simp [storeCells]
        · by_cases hfit : len + n ≤ cap
          ·
            have hoff : off' = 0 := by rcases hcap with h' | h' <;> omega
            subst hoff
            obtain ⟨cells, c1, c2, c3⟩ := hN
            have c1' := c1 w (fun _ _ => rfl)
            obtain ⟨cur, ty', g1, g2, g3⟩ := hσ.cells ho hbm
            have hcs : n' = cur.size := by simp [World.shape?, g1] at hsh; exact hsh.2.symm
            have hroom : len * sz + 0 + cells.toList.length ≤ cur.size := by
              have : (len + n) * sz ≤ cap * sz := Nat.mul_le_mul_right _ hfit
              rw [Nat.add_mul] at this
              simp; omega
            have hone : ∀ v ∈ cells.toList, v.oneCell' = true := fun v hv => by
              obtain ⟨i, hi, rfl⟩ := List.getElem_of_mem hv
              have hi' : i < new.length := by simp at hi; omega
              have := c3 i new[i] (List.getElem?_eq_getElem hi')
              have hi2 : i < cells.size := by simpa using hi
              rw [Array.getElem?_eq_getElem hi2] at this
              exact one_cell (by simpa using this) (h1 _ (List.getElem_mem _))
            have hrun := run_storeCells_at (P := P) b (len * sz) ty' cells.toList 0 cur w g1 hroom hone
            let cur' := (cur.toList.take (len * sz + 0) ++ cells.toList ++ cur.toList.drop (len * sz + 0 + cells.toList.length)).toArray
            have hsz' : cur'.size = cur.size := by simp [cur']; simp at hroom; omega
            obtain ⟨k1, k2⟩ := hσ.write ho hbm g1 cur' (.cells cs) hsz' (fun w' hs hw => ⟨cur', ty', hw, by omega, fun i c hc => by
              have hic : i < len * sz := by have := (List.getElem?_eq_some_iff.1 hc).1; omega
              have : cur'[i]? = cur[i]? := by
                simp only [cur', List.getElem?_toArray, List.append_assoc]
                rw [List.getElem?_append_left (by simp; omega), List.getElem?_take_of_lt (by omega)]; simp
              rw [this]; exact (g3 i c hc).step hs⟩)
            have ho2 : Heap.get ((o, AObj.cells cs) :: σ) o = .cells cs := by rw [Heap.get_cons, if_pos rfl]
            have hself : (w.setRow b cur').heap[b]? = some (.cells cur' ty' (0, 0)) := setRow_heap w b cur cur' ty' _ g1
            have hst2 := (k2.renew hnew ho2 (by simp) hbm .dead trivial).1
            obtain ⟨j1, j2⟩ := k2.renew hnew ho2 (by simp) hbm (.cells (cs ++ new)) ⟨cur', ty', hself, by rw [List.length_append, hnl, hsz']; simp at hroom; omega, fun i c hc => by
              by_cases hic : i < cs.length
              · rw [List.getElem?_append_left hic] at hc
                have : cur'[i]? = cur[i]? := by
                  simp only [cur', List.getElem?_toArray, List.append_assoc]
                  rw [List.getElem?_append_left (by simp; omega), List.getElem?_take_of_lt (by omega)]; simp
                rw [this]
                exact ((g3 i c hc).step k1).step hst2
              · rw [List.getElem?_append_right (by omega)] at hc
                have hin := (List.getElem?_eq_some_iff.1 hc).1
                have : cur'[i]? = cells[i - cs.length]? := by
                  simp only [cur', List.getElem?_toArray, List.append_assoc]
                  rw [List.getElem?_append_right (by simp; omega), List.getElem?_append_left (by simp; omega)]
                  simp only [List.length_take, Array.length_toList, Array.getElem?_toList]
                  congr 1; omega
                rw [this]
                exact ((c3 _ c hc).step k1).step hst2⟩
            have j2' : SimH F (μ.put nid b) ([(nid, .cells (cs ++ new)), (o, .dead)] ++ σ) (w.setRow b cur') := j2.congr fun i => by
              simp only [List.cons_append, List.nil_append, Heap.get_cons]
              split
              · rfl
              · split
                · rfl
                · rfl
            refine ⟨_, _, .slice (some ⟨b, 0, none⟩) (len + n) cap, _, _, _, hpos (by omega), ?_, k1.trans j1, j2', .msl _ _ _ _ _ _ _ ty' cur'.size (Num.put_self _ _ _) (.inr rfl) (by simp [World.shape?, hself]) (by rw [hsz']; omega) hfit hcm, fun i hi => if_neg hi⟩
            have hadd : (⟨b, 0, none⟩ : Addr).add (len * sz) = ⟨b, len * sz, none⟩ := by rw [add_none]; simp
            rw [run_append_fits hu hs hni hlen hfit, c1']
            simp only [Result.andThen_ok, hadd, hrun]; rfl
          · have hA : ∃ cells : Array Value, (∀ w', Same w w' → (Builtin.firstCells sz len (.slice (some ⟨b, off', none⟩) len cap)).run P w' = .ok cells w') ∧ cells.size = len * sz ∧ ∀ (i : Nat) c, cs[i]? = some c → RV F μ w (cells[i]?.getD undef) c := by
              obtain ⟨n', new', hk, hl', hnl', hf⟩ := srcK_sound (P := P) (Kn := fun n new => n = len ∧ new = cs) (s := sz) h0 hσ ha' ⟨rfl, by rw [ho]; exact ⟨by omega, rfl, by rw [List.drop_zero, List.take_of_length_le (by omega)]⟩⟩
              obtain ⟨rfl, rfl⟩ := hk
              have := hf _ (Nat.le_refl _)
              rw [List.take_of_length_le (by omega)] at this
              exact this
            have hK := hpos (by omega)
            exact append_realloc (z := z) hσ hnew hu hs hi hib hbt hze hzl hni hlen (by omega) hlc hsm hA (by omega) hN hnl _ (fun {F' μ' w'} h => by
              exact h.less_one) hK
      · exact h.elim
    | _ => exact nope h
  · exact h.elim
theorem set_self {σ : Heap} {o : Nat} {x : AObj} (h : σ.get o = x) (i : Nat) : Heap.get ((o, x) :: σ) i = σ.get i := by
  rw [Heap.get_cons]; split
  · rename_i e; subst e; exact h.symm
  · rfl
theorem copyK_sound {t xt ty : TypeId} {a x : AV} {va vx : Value} (hσ : SimH F μ σ w) (ha : RV F μ w va a) (hx : RV F μ w vx x) (h : copyK P t a x σ K) : WOut P F μ σ w nid K (Builtin.copy_ #[t, xt] ty #[va, vx]) := by
  unfold copyK at h
  split at h
  · rename_i s g o sz off len hE
    obtain ⟨e, hu, hs⟩ := tE_spec hE
    have hszr := fun w' => run_sizeOf hs w'
    obtain ⟨h0, h⟩ := h
    · obtain ⟨n, new, h, hlen, hnl, hfc⟩ := srcK_sound (P := P) h0 hσ hx h
      split at h
      · rename_i cs ho
        obtain ⟨⟨rfl, hle, h1⟩, hK⟩ := h
        cases ha with
        | msl o sz off off' len cap b t' n' hbm hcap hsh hbd hlc hcm =>
        obtain ⟨cells, c1, c2, c3⟩ := hfc (min n len) (Nat.min_le_left _ _)
        have c1' := c1 w (fun _ _ => rfl)
        by_cases hz : min n len = 0
        · have hc0 : cells = #[] := by apply Array.eq_empty_of_size_eq_zero; rw [c2, hz]; omega
          subst hc0
          have hset : SimH F μ ([(o, .cells (setAtL cs off (new.take (min n len * sz))))] ++ σ) w := hσ.congr fun i => by
            rw [hz]; simp only [Nat.zero_mul, List.take_zero, setAtL, List.cons_append, List.nil_append]
            exact set_self ho i
          refine ⟨_, _, .int .i64 (min n len : Nat), w, F, μ, hK, ?_, .refl _ _ _, hset, .p (.int _ _), fun _ _ => rfl⟩
          have : Nat.min n len = min n len := rfl
          simp [Builtin.copy_, underlying, hu, hszr, hlen, this, c1', storeCells, goInt]
        · have hoff : off' = off := by rcases hcap with h' | h' <;> omega
          subst hoff
          have hmul : min n len * sz ≤ len * sz := Nat.mul_le_mul_right _ (Nat.min_le_right _ _)
          have htl : (new.take (min n len * sz)).length = min n len * sz := by
            have : min n len * sz ≤ n * sz := Nat.mul_le_mul_right _ (Nat.min_le_left _ _)
            simp; omega
          obtain ⟨w', e1, e2, e3⟩ := write_cells (P := P) (off := off') hσ ho hbm cells.toList (new.take (min n len * sz)) (by rw [htl]; simpa using c2) (by omega) (by simpa using c3) h1
          refine ⟨_, _, .int .i64 (min n len : Nat), w', F, μ, hK, ?_, e2, e3, .p (.int _ _), fun _ _ => rfl⟩
          have : Nat.min n len = min n len := rfl
          simp [Builtin.copy_, underlying, hu, hszr, hlen, this, c1', e1 _ rfl, goInt]
      · exact h.elim
  · exact h.elim
theorem strBytesK_sound {s d : TypeId} {x : AV} {v : Value} (hσ : SimH F μ σ w) (hx : RV F μ w v x) (h : strBytesK P s d x K) : WOut P F μ σ w nid K (convert s d v) := by
  unfold strBytesK at h
  split at h
  · rename_i b hd
    obtain ⟨⟨hst, hsm⟩, hK⟩ := h
    obtain ⟨e, hu, he⟩ := tC_bytes hd
    have hs := tC_str hst
    obtain rfl := pstr_inv hx
    have hrun := run_bytes_of_string (P := P) w s d e b hs hu he
    let nc := grownCap w b.size 0 e
    let cur := bytesRow b nc
    let w' := w.drew.alloc (.cells cur e (cur.size, cur.size + 1))
    let F' : Nat → Prop := fun k => F k ∨ k = w.heap.size
    have hold : ∀ k, k < w.heap.size → w'.heap[k]? = w.heap[k]? := fun k hk => by
      show (w.heap.push _)[k]? = _
      rw [Array.getElem?_push, if_neg (by omega)]
    have hnew : w'.heap[w.heap.size]? = some (.cells cur e (cur.size, cur.size + 1)) := by
      show (w.heap.push _)[w.heap.size]? = _
      simp
    have hsz : w'.heap.size = w.heap.size + 1 := by show (w.heap.push _).size = _; simp
    have hst : Step F μ w F' μ w' := ⟨rfl, rfl, rfl, by omega, fun k hk => hold k (hσ.fb k hk), fun k hk _ => hold k hk, fun k y hy => by
        have hk : k < w.heap.size := by
          unfold World.shape? at hy
          rcases Nat.lt_or_ge k w.heap.size with h' | h'
          · exact h'
          · simp [Array.getElem?_eq_none h'] at hy
        unfold World.shape? at *
        rw [hold k hk]; exact hy, fun _ h => .inl h, fun k hk => hk.imp id (fun h => .inr (by omega)), fun _ _ h => h, fun _ h => .inl h⟩
    have hsim := hσ.keep hst hold (fun k hk => hk.imp id (fun h => ⟨by omega, by omega⟩))
    have hncm : nc ≤ maxLen ∧ b.size ≤ nc := by
      have h1 : nc = b.size + (w.tape w.drawn (Question.appendCap b.size 0 e)) % (2 ^ 63 - b.size) := rfl
      have h2 : (w.tape w.drawn (Question.appendCap b.size 0 e)) % (2 ^ 63 - b.size) < 2 ^ 63 - b.size := Nat.mod_lt _ (by omega)
      unfold maxLen; omega
    refine ⟨_, _, _, w', F', μ, hK, hrun, hst, hsim, .p ?_, fun _ _ => rfl⟩
    refine .sl _ 0 _ _ 1 false _ (fun i _ => .int .u8 (b.data.toList.getD i 0).toNat) (.inr rfl) (by rw [List.length_map, Array.length_toList]; rfl) hncm.2 hncm.1 (by simp) ?_ ?_ ?_
    · intro i p hp
      simp only [List.getElem?_map, Option.map_eq_some_iff] at hp
      obtain ⟨u, _, rfl⟩ := hp; exact ⟨rfl, fun c hc => by simp [PV.cells] at hc; subst hc; rfl⟩
    · intro i p j q hp hq
      simp only [List.getElem?_map, Option.map_eq_some_iff] at hp
      obtain ⟨u, hu', rfl⟩ := hp
      have hj : j = 0 := by
        have := (List.getElem?_eq_some_iff.1 hq).1; simp [PV.cells] at this; exact this
      subst hj
      have hib : i < b.data.size := by have := (List.getElem?_eq_some_iff.1 hu').1; simpa using this
      rw [cell_row hnew]
      show (b.data.map (fun b => Value.int .u8 b.toNat) ++ Array.replicate (nc - b.size) (.int .u8 0))[0 + i * 1 + 0]? = _
      rw [Array.getElem?_append_left (by simpa using hib)]
      simp [List.getD]
      exact ⟨b.data[i], by rw [Array.getElem?_eq_getElem hib], by rw [Array.getElem?_eq_getElem hib]; rfl⟩
    · intro i p j q hp hq
      simp only [List.getElem?_map, Option.map_eq_some_iff] at hp
      obtain ⟨u, hu', rfl⟩ := hp
      have hj : j = 0 := by
        have := (List.getElem?_eq_some_iff.1 hq).1; simp [PV.cells] at this; exact this
      subst hj
      simp [PV.cells] at hq
      subst hq
      have : b.data.toList.getD i 0 = u := by simp [List.getD, hu']
      rw [this]
      exact .int _ _
  · exact h.elim
def WOutN (P : Program) (F : Nat → Prop) (μ : Num) (σ : Heap) (w : World) (nid : Nat) (K : AV → Heap → Prop) (s : Sem Next) : Prop :=
  ∃ av us v w' F' μ', K av us ∧ (s.run P w = .ok (.value v) w' ∨ (s.run P w = .ok .skip w' ∧ v = undef)) ∧ Step F μ w F' μ' w' ∧ SimH F' μ' (us ++ σ) w' ∧ RV F' μ' w' v av ∧ ∀ o, o ≠ nid → μ' o = μ o
theorem WOut.next {s : Sem Value} (h : WOut P F μ σ w nid K s) : WOutN P F μ σ w nid K (do pure (.value (← s))) := by
  obtain ⟨av, us, v, w', F', μ', h1, h2, h3, h4, h5⟩ := h
  exact ⟨av, us, v, w', F', μ', h1, .inl (by simp [h2]), h3, h4, h5⟩
theorem wK_sound {o : Oper} {ev : Operand → AV} {a : Operand → Value} (hσ : SimH F μ σ w) (hnew : μ nid = none) (hev : ∀ x, RV F μ w (a x) (ev x)) (h : wK P o.op ev σ nid K) : WOutN P F μ σ w nid K (execOp a o) := by
  obtain ⟨dst, op, ty, pos, after, guard⟩ := o
  have parts_rv : ∀ (parts : Array (Nat × Operand)), (∀ (i : Nat) p, (parts.toList.map fun y => (y.1, ev y.2))[i]? = some p → ∃ v, (parts.toList.map fun y => (y.1, a y.2))[i]? = some (p.1, v) ∧ RV F μ w v p.2) := fun parts i p hp => by
    simp only [List.getElem?_map, Option.map_eq_some_iff] at hp
    obtain ⟨y, hy, rfl⟩ := hp
    exact ⟨a y.2, by simp [hy], hev y.2⟩
  cases op <;> simp only [wK] at h <;> try exact h.elim
  case alloc t => exact (allocK_sound (old := .tuple #[]) hσ hnew h).next
  case box t x => exact (boxK_sound (t := t) hσ hnew (hev x) h).next
  case store t x y =>
    obtain ⟨us, w', h1, h2, h3, h4⟩ := storeK_sound (P := P) hσ (hev x) (hev y) h
    refine ⟨undefA, us, undef, w', F, μ, h1, .inr ⟨?_, rfl⟩, h3, h4, .p (.tup _ _ rfl (by simp)), fun _ _ => rfl⟩
    simp [execOp, h2]
  case buildSlice t n parts =>
    have := buildSliceK_sound (P := P) (F := F) (μ := μ) (w := w) (K := K) (t := t) (len := n) (parts := parts.toList.map fun y => (y.1, ev y.2)) (vs := parts.toList.map fun y => (y.1, a y.2)) hσ hnew (by simp) (parts_rv parts) h
    have e : (parts.map fun (i, x) => (i, a x)) = (parts.toList.map fun y => (y.1, a y.2)).toArray := by
      apply Array.ext'; simp
    simp only [execOp]
    rw [e]
    exact this.next
  case makeSlice t n c => exact (makeSliceK_sound hσ hnew (hev n) (hev c) h).next
  case convert s d x => exact (strBytesK_sound hσ (hev x) h).next
  case call c =>
    obtain ⟨callee, args, ats⟩ := c
    have hats : ∀ {t xt : TypeId}, ats[0]? = some t → ats[1]? = some xt → ∀ (args' : Array Value) (ty : TypeId), Builtin.append_ ats ty args' = Builtin.append_ #[t, xt] ty args' := fun h1 h2 args' ty => by
      simp only [Builtin.append_, h1, h2]; rfl
    split at h
    · rename_i x y t xt hc harg h1 h2
      simp only at hc harg h1 h2
      subst hc
      have hargs : args = #[x, y] := by apply Array.ext'; simpa using harg
      subst hargs
      have := (appendK_sound (ty := ty) hσ hnew (hev x) (hev y) h).next
      have e : execOp a { dst := dst, op := .call { callee := .builtin .append, args := #[x, y], argTypes := ats }, type := ty, pos := pos, after := after, guard := guard } = (do pure (.value (← Builtin.append_ ats ty (#[x, y].map a)))) := rfl
      rw [e, hats h1 h2]
      simpa using this
    · rename_i x y t hc harg h1
      simp only at hc harg h1
      subst hc
      have hargs : args = #[x, y] := by apply Array.ext'; simpa using harg
      subst hargs
      have := (copyK_sound (nid := nid) (xt := 0) (ty := ty) hσ (hev x) (hev y) h).next
      have e : execOp a { dst := dst, op := .call { callee := .builtin .copy, args := #[x, y], argTypes := ats }, type := ty, pos := pos, after := after, guard := guard } = (do pure (.value (← Builtin.copy_ ats ty (#[x, y].map a)))) := rfl
      have e2 : Builtin.copy_ ats ty (#[x, y].map a) = Builtin.copy_ #[t, 0] ty #[a x, a y] := by
        simp only [Builtin.copy_, h1, List.map_toArray, List.map_cons, List.map_nil]; rfl
      rw [e, e2]
      exact this
    · exact h.elim
end
end Go.Sg
namespace Go.Sg
open Go
def okRow (sz : Nat) (l : List PV) : Prop := ∀ p ∈ l, okE sz p
theorem okRow.append {sz : Nat} {l m : List PV} (h : okRow sz l) (k : okRow sz m) : okRow sz (l ++ m) := fun p hp => by
  rcases List.mem_append.1 hp with h' | h'
  · exact h p h'
  · exact k p h'
theorem okRow.take {sz : Nat} {l : List PV} (h : okRow sz l) (n : Nat) : okRow sz (l.take n) := fun p hp => h p (List.mem_of_mem_take hp)
theorem okRow.drop {sz : Nat} {l : List PV} (h : okRow sz l) (n : Nat) : okRow sz (l.drop n) := fun p hp => h p (List.mem_of_mem_drop hp)
theorem okRow.set {sz : Nat} {l : List PV} (h : okRow sz l) (i : Nat) {v : PV} (hv : okE sz v) : okRow sz (l.set i v) := fun p hp => by
  rcases List.mem_or_eq_of_mem_set hp with h' | h'
  · exact h p h'
  · rw [h']; exact hv
theorem rowC_append (l m : List PV) : rowC (l ++ m) = rowC l ++ rowC m := by simp [rowC]
theorem rowC_one (v : PV) : rowC [v] = v.cells.map .p := by simp [rowC]
section
variable {sz : Nat} (h0 : 0 < sz) {l : List PV} (h : okRow sz l)
include h0 h
theorem rowC_len : (rowC l).length = l.length * sz := by simp only [rowC, List.length_map]; exact (flatMap_get h0 l (fun p hp => (h p hp).1)).1
theorem rowC_get (k : Nat) : (rowC l)[k]? = ((l[k / sz]?).bind fun p => p.cells[k % sz]?).map .p := by
  simp only [rowC, List.getElem?_map]; rw [(flatMap_get h0 l (fun p hp => (h p hp).1)).2 k]
theorem rowC_getE {i : Nat} {p : PV} (hp : l[i]? = some p) {j : Nat} (hj : j < sz) : (rowC l)[i * sz + j]? = (p.cells[j]?).map .p := by
  rw [rowC_get h0 h]
  have h1 : (i * sz + j) / sz = i := by rw [Nat.add_comm, Nat.add_mul_div_right _ _ h0, Nat.div_eq_of_lt hj]; simp
  have h2 : (i * sz + j) % sz = j := by rw [Nat.add_comm, Nat.add_mul_mod_self_right, Nat.mod_eq_of_lt hj]
  rw [h1, h2, hp]; rfl
theorem rowC_take (n : Nat) : (rowC l).take (n * sz) = rowC (l.take n) := by
  have e := List.take_append_drop n l
  have h1 := rowC_len h0 (h.take n)
  by_cases hn : n ≤ l.length
  · rw [← e, rowC_append]
    have hl : (rowC (l.take n)).length = n * sz := by rw [h1, List.length_take, Nat.min_eq_left hn]
    rw [← hl, List.take_append_of_le_length (Nat.le_refl _), List.take_length]
    rw [List.take_append_of_le_length (by simp; omega), List.take_take]; simp
  · rw [List.take_of_length_le (by rw [rowC_len h0 h]; exact Nat.mul_le_mul_right _ (by omega)), List.take_of_length_le (by omega)]
theorem rowC_drop (n : Nat) : (rowC l).drop (n * sz) = rowC (l.drop n) := by
  have e := List.take_append_drop n l
  by_cases hn : n ≤ l.length
  · have h1 := rowC_len h0 (h.take n)
    have hl : (rowC (l.take n)).length = n * sz := by rw [h1, List.length_take, Nat.min_eq_left hn]
    have : rowC l = rowC (l.take n) ++ rowC (l.drop n) := by rw [← rowC_append, e]
    rw [this, ← hl, List.drop_left]
  · rw [List.drop_of_length_le (by rw [rowC_len h0 h]; exact Nat.mul_le_mul_right _ (by omega)), List.drop_of_length_le (by omega)]; rfl
theorem rowC_mid (i n : Nat) : ((rowC l).drop (i * sz)).take (n * sz) = rowC ((l.drop i).take n) := by
  rw [rowC_drop h0 h, rowC_take h0 (h.drop i)]
end
theorem setAtL_eq (cs vs : List AV) (off : Nat) (h : off + vs.length ≤ cs.length) : setAtL cs off vs = cs.take off ++ vs ++ cs.drop (off + vs.length) := by
  apply List.ext_getElem?
  intro i
  rw [setAtL_get vs cs off i h, List.append_assoc]
  by_cases h1 : i < off
  · rw [if_neg (by omega), List.getElem?_append_left (by simp; omega), List.getElem?_take_of_lt h1]
  · rw [List.getElem?_append_right (by simp; omega)]
    have : (cs.take off).length = off := by simp; omega
    rw [this]
    by_cases h2 : i < off + vs.length
    · rw [if_pos ⟨by omega, h2⟩, List.getElem?_append_left (by omega)]
    · rw [if_neg (by omega), List.getElem?_append_right (by omega), List.getElem?_drop]
      congr 1; omega
theorem rowC_splice {sz : Nat} (h0 : 0 < sz) {l m : List PV} (h : okRow sz l) (k : okRow sz m) (i : Nat) (hi : i + m.length ≤ l.length) :
    setAtL (rowC l) (i * sz) (rowC m) = rowC (l.take i ++ m ++ l.drop (i + m.length)) := by
  have hl := rowC_len h0 h
  have hm := rowC_len h0 k
  have hle : i * sz + m.length * sz ≤ l.length * sz := by rw [← Nat.add_mul]; exact Nat.mul_le_mul_right _ hi
  rw [setAtL_eq _ _ _ (by rw [hl, hm]; exact hle), rowC_take h0 h, hm, ← Nat.add_mul, rowC_drop h0 h, ← rowC_append, ← rowC_append]
theorem set_splice {α : Type} (l : List α) (i : Nat) (v : α) (h : i < l.length) : l.take i ++ [v] ++ l.drop (i + [v].length) = l.set i v := by
  rw [List.set_eq_take_append_cons_drop, if_pos h]; simp
theorem rowC_set {sz : Nat} (h0 : 0 < sz) {l : List PV} {v : PV} (h : okRow sz l) (hv : okE sz v) (i : Nat) (hi : i < l.length) :
    setAtL (rowC l) (i * sz) (v.cells.map .p) = rowC (l.set i v) := by
  have := rowC_splice h0 h (m := [v]) (fun p hp => by simp at hp; subst hp; exact hv) i (by simp; omega)
  rw [rowC_one] at this
  rw [this]; congr 1
  exact set_splice l i v hi
theorem rowC_replicate (z : List PV) (g : Bool) (n : Nat) (z0 : PV) (h : z0.cells = z) : zerosOf z n = rowC (List.replicate n z0) := by
  subst h
  have : rowC (List.replicate n z0) = (List.replicate n (z0.cells.map AV.p)).flatten := by
    induction n with
    | zero => rfl
    | succ n ih => rw [List.replicate_succ, ← List.singleton_append, rowC_append, ih, rowC_one, List.replicate_succ, List.flatten_cons]
  rw [this]
  unfold zerosOf
  split
  · rename_i v e
    rw [e]
    clear this
    induction n with
    | zero => rfl
    | succ n ih => rw [List.replicate_succ, ih, List.replicate_succ, List.flatten_cons]; rfl
  · rfl
theorem fillA_row {s : Nat} (hs : 0 < s) : ∀ (vals : List PV) (k : Nat) (cs : List AV), okRow s vals → (k + vals.length) * s ≤ cs.length →
    fillA (placeOf [] s) cs ((vals.zipIdx k).map fun x => (x.2, AV.p x.1)) = some (cs.take (k * s) ++ rowC vals ++ cs.drop ((k + vals.length) * s))
  | [], k, cs, _, _ => by simp [fillA, rowC]
  | v :: r, k, cs, h, hl => by
    have hv := (h v (by simp)).1
    have hle : k * s + s ≤ cs.length := by
      have : (k + 1) * s ≤ (k + (v :: r).length) * s := Nat.mul_le_mul_right _ (by simp)
      rw [Nat.add_mul, Nat.one_mul] at this; omega
    have hc : (AV.p v).cells.length = s := by simp [AV.cells, hv]
    have hlen : (setAtL cs (k * s) (AV.p v).cells).length = cs.length := setAtL_length _ _ _
    simp only [List.zipIdx_cons, List.map_cons, fillA]
    have hp : placeOf [] s k = some (k * s, s) := by simp [placeOf, show s ≠ 0 by omega]
    rw [hp]
    simp only []
    rw [if_pos ⟨rfl, hc, hle⟩, fillA_row hs r (k + 1) _ (fun p hp => h p (by simp [hp])) (by rw [hlen]; simpa [Nat.add_assoc, Nat.add_comm 1] using hl)]
    congr 1
    rw [setAtL_eq _ _ _ (by rw [hc]; exact hle), hc]
    have e1 : (AV.p v).cells = rowC [v] := by rw [rowC_one]; rfl
    have e2 : rowC (v :: r) = rowC [v] ++ rowC r := by rw [← rowC_append]; rfl
    have h1 : (rowC [v]).length = s := by rw [← e1]; exact hc
    rw [e1, e2]
    have hk1 : (k + 1) * s = k * s + s := by rw [Nat.add_mul, Nat.one_mul]
    have htk : (List.take (k * s) cs).length = k * s := by simp; omega
    have hab : (cs.take (k * s) ++ rowC [v]).length = k * s + s := by rw [List.length_append, htk, h1]
    have t1 : (cs.take (k * s) ++ rowC [v] ++ cs.drop (k * s + s)).take ((k + 1) * s) = cs.take (k * s) ++ rowC [v] := by rw [hk1]; exact List.take_left' hab
    have hn : (k + 1 + r.length) * s = k * s + s + r.length * s := by rw [Nat.add_mul, hk1]
    have t2 : (cs.take (k * s) ++ rowC [v] ++ cs.drop (k * s + s)).drop ((k + 1 + r.length) * s) = cs.drop ((k + (v :: r).length) * s) := by
      rw [List.drop_append, hab, List.drop_of_length_le (by rw [hab, hn]; omega), List.nil_append, List.drop_drop, hn]
      congr 1
      simp only [List.length_cons]; rw [Nat.add_mul, Nat.add_mul, Nat.one_mul]; omega
    rw [t1, t2]
    simp [List.append_assoc]
def unO : AObj → AObj
  | .row _ l => .cells (rowC l)
  | x => x
def okO : AObj → Prop
  | .row sz l => okRow sz l
  | _ => True
def unH (σ : Heap) : Heap := σ.map fun x => (x.1, unO x.2)
def unV : AV → AV
  | .rsl o sz i len => .msl o sz (i * sz) len
  | .eptr o sz i j => .ptr o (i * sz + j)
  | v => v
theorem unO_dead {x : AObj} : unO x = .dead ↔ x = .dead := by cases x <;> simp [unO]
theorem unH_get : ∀ (σ : Heap) (o : Nat), (unH σ).get o = unO (σ.get o)
  | [], _ => rfl
  | (j, x) :: r, o => by
    show (if j = o then unO x else Heap.get (unH r) o) = unO (if j = o then x else Heap.get r o)
    split
    · rfl
    · exact unH_get r o
section
variable {P : Program} {F : Nat → Prop} {μ : Num} {σ : Heap} {w : World} {nid : Nat}
theorem RO_un {b : Nat} {x : AObj} : RO F μ w b x ↔ okO x ∧ RO F μ w b (unO x) := by
  cases x with
  | row sz l => exact Iff.rfl
  | _ => exact ⟨fun h => ⟨trivial, h⟩, fun h => h.2⟩
theorem RV.un {v : Value} {a : AV} (h : RV F μ w v a) : RV F μ w v (unV a) := by
  cases h with
  | rsl o sz i len v h => exact h
  | eptr o sz i j v h => exact h
  | csl o sz i len cap base h => exact .csl o sz i len cap base h
  | p h => exact .p h
  | any v => exact .any v
  | ptr o off b h => exact .ptr o off b h
  | msl o sz off off' len cap b t n h1 h0 h2 h3 h4 h5 => exact .msl o sz off off' len cap b t n h1 h0 h2 h3 h4 h5
  | mp o b h => exact .mp o b h
  | ch o b h => exact .ch o b h
  | agg cs l h1 h2 => exact .agg cs l h1 h2
  | tup cs l h1 h2 => exact .tup cs l h1 h2
  | fn f as bs ls ms h1 h2 h3 h4 => exact .fn f as bs ls ms h1 h2 h3 h4
theorem SimH.un (h : SimH F μ σ w) : SimH F μ (unH σ) w := by
  have nd : ∀ o, (unH σ).get o ≠ .dead → σ.get o ≠ .dead := fun o ho e => ho (by rw [unH_get, e]; rfl)
  exact ⟨h.fb, h.mb, fun o ho => h.has o (nd o ho), fun o b hb => by rw [unH_get]; exact (RO_un.1 (h.obj o b hb)).2, fun o b ho => h.live o b (nd o ho), fun i j b hi hj => h.inj i j b (nd i hi) (nd j hj), fun c m hc => ⟨(h.hd c m hc).1, fun o ho => (h.hd c m hc).2 o (nd o ho)⟩, h.hu⟩
theorem SimH.okO (h : SimH F μ σ w) (o : Nat) : Sg.okO (σ.get o) := by
  by_cases hd : σ.get o = .dead
  · rw [hd]; trivial
  · obtain ⟨b, hb⟩ := h.has o hd
    exact (RO_un.1 (h.obj o b hb)).1
theorem SimH.re {F' : Nat → Prop} {μ' : Num} {w' : World} {us : Heap} (h : SimH F μ σ w) (h' : SimH F' μ' (unH us ++ unH σ) w') (hu : ∀ x ∈ us, Sg.okO x.2) : SimH F' μ' (us ++ σ) w' := by
  have e : unH us ++ unH σ = unH (us ++ σ) := by simp [unH]
  rw [e] at h'
  have nd : ∀ o, Heap.get (us ++ σ) o ≠ .dead → (unH (us ++ σ)).get o ≠ .dead := fun o ho e => ho (by rw [unH_get] at e; exact unO_dead.1 e)
  have ok : ∀ o, Sg.okO (Heap.get (us ++ σ) o) := fun o => by
    clear h' nd e
    induction us with
    | nil => exact h.okO o
    | cons x r ih =>
      rw [List.cons_append, Heap.get_cons]
      split
      · exact hu x (by simp)
      · exact ih fun y hy => hu y (by simp [hy])
  exact ⟨h'.fb, h'.mb, fun o ho => h'.has o (nd o ho), fun o b hb => RO_un.2 ⟨ok o, by have := h'.obj o b hb; rwa [unH_get] at this⟩, fun o b ho => h'.live o b (nd o ho), fun i j b hi hj => h'.inj i j b (nd i hi) (nd j hj), fun c m hc => ⟨(h'.hd c m hc).1, fun o ho => (h'.hd c m hc).2 o (nd o ho)⟩, h'.hu⟩
end
end Go.Sg
namespace Go.Sg
open Go
def eqS : PV → PV → Bool
  | .int k n, .int k' m => decide (k = k') && decide (n = m)
  | .bool a, .bool b => a == b
  | _, _ => false
def tArr (P : Program) (t : TypeId) : Option (Nat × PV) :=
  match tA P t, tZ P t with
  | some (n, 1, false), some (z0 :: r) => if r.length + 1 = n ∧ (r.all (eqS z0)) = true ∧ z0.one = true then some (n, z0) else none
  | _, _ => none
def elemZ (g : Bool) (z : List PV) : PV :=
  match g, z with
  | false, [v] => v
  | _, z => .agg z
def pureParts : Nat → List (Nat × AV) → Option (List PV)
  | _, [] => some []
  | k, (j, .p v) :: r => if j = k then (match pureParts (k + 1) r with | some q => some (v :: q) | none => none) else none
  | _, _ => none
def setAtP (cs : List PV) (off : Nat) : List PV → List PV
  | [] => cs
  | v :: r => setAtP (cs.set off v) (off + 1) r
def rowIx (P : Program) (t : TypeId) (x i : AV) (K : AV → Prop) : Prop :=
  match x with
  | .rsl o sz i0 len => (match tE P t, i with | some (s, _), .p (.int _ n) => (sz = s ∧ 0 ≤ n ∧ n < len) ∧ K (.eptr o sz (i0 + n.toNat) 0) | _, _ => False)
  | .eptr o sz i0 j => (match tE P t, tA P t, i with | none, some (m, s, _), .p (.int _ n) => (sz = s ∧ j = 0 ∧ 0 ≤ n ∧ n < m) ∧ K (.eptr o sz (i0 + n.toNat) 0) | _, _, _ => False)
  | x => iaK P t x i K
def rowLoad (P : Program) (t : TypeId) (a : AV) (σ : Heap) (K : AV → Prop) : Prop :=
  match a with
  | .eptr o sz i j => (match tT P t, σ.get o with
    | some (s, g), .row sz' l => (match decide (s ≤ sz) with
      | true => (sz' = sz ∧ 0 < sz ∧ 0 < s ∧ j + s ≤ sz ∧ i < l.length) ∧ ∀ p, l[i]? = some p → partP g s p.cells j K
      | false => (sz' = sz ∧ sz = 1 ∧ g = true ∧ i = 0 ∧ j = 0 ∧ s = l.length) ∧ K (.p (.agg (l.flatMap PV.cells))))
    | _, _ => False)
  | a => loadK P t a σ K
def rowFa (P : Program) (t f : Nat) (x : AV) (K : AV → Prop) : Prop :=
  match x with
  | .eptr o sz i j => (match tF P t f with | some (off, s, _) => 0 < s ∧ K (.eptr o sz i (j + off)) | none => False)
  | x => faK P t f x K
def rowNil (x : AV) (K : AV → Prop) : Prop :=
  match x with
  | .eptr o sz i j => K (.eptr o sz i j)
  | x => nilK x K
def rowConv (P : Program) (s d : TypeId) (x : AV) (σ : Heap) (K : AV → Prop) : Prop :=
  match x with
  | .rsl o sz i len => (match tC P d with
    | .str => (tC P s = .bytes ∧ sz = 1) ∧ (match σ.get o with | .row sz' l => (sz' = 1 ∧ i + len ≤ l.length) ∧ ∃ q, u8s ((l.drop i).take len) = some q ∧ K (.p (.str (strOfNums q))) | _ => False)
    | _ => False)
  | x => convK P s d x σ K
def rowSl (P : Program) (t : TypeId) (x : AV) (lo hi mx : Option AV) (σ : Heap) (K : AV → Prop) : Prop :=
  match x with
  | .rsl o sz i len => (match tE P t, optI 0 lo, optI len hi with
    | some (s, _), some a, some b => (match mx with
      | none => (sz = s ∧ 0 ≤ a ∧ a ≤ b ∧ b ≤ len) ∧ K (.rsl o sz (i + a.toNat) (b.toNat - a.toNat))
      | some m => (sz = s ∧ 0 ≤ a ∧ a ≤ b ∧ b ≤ len) ∧ hi.isSome ∧ optI 0 (some m) = some b ∧ K (.rsl o sz (i + a.toNat) (b.toNat - a.toNat)))
    | _, _, _ => False)
  | .eptr o sz i j => (match tE P t, tA P t, σ.get o, mx with
    | none, some (n, s, _), .row sz' l, none => (match optI 0 lo, optI n hi with
      | some a, some b => (sz = s ∧ sz' = s ∧ 0 < s ∧ i = 0 ∧ j = 0 ∧ n = l.length ∧ n ≤ 1000000000 ∧ 0 ≤ a ∧ a ≤ b ∧ b ≤ n) ∧ K (.rsl o s a.toNat (b.toNat - a.toNat))
      | _, _ => False)
    | _, _, _, _ => False)
  | x => slK P t x lo hi mx σ K
def rowLen (x : AV) (P : Program) (t : TypeId) (K : AV → Prop) : Prop :=
  match x with
  | .rsl _ _ _ n => (tE P t).isSome ∧ K (.p (.int .i64 n))
  | x => lenK x P t K
def xQ (P : Program) (op : Op) (ev : Operand → AV) (σ : Heap) (K : AV → Prop) : Prop :=
  match op with
  | .load t a => rowLoad P t (ev a) σ K
  | .nilCheck x => rowNil (ev x) K
  | .fieldAddr t x f => rowFa P t f (ev x) K
  | .indexAddr t x i => rowIx P t (ev x) (ev i) K
  | .convert s d x => rowConv P s d (ev x) σ K
  | .slice t x lo hi mx => rowSl P t (ev x) (lo.map ev) (hi.map ev) (mx.map ev) σ K
  | .call c => (match c.callee with
    | .builtin .len => (match c.args.toList, c.argTypes[0]? with | [x], some t => rowLen (ev x) P t K | _, _ => False)
    | _ => qK P (.call c) ev σ K)
  | op => qK P op ev σ K
def rowAlloc (P : Program) (t : TypeId) (nid : Nat) (K : AV → Heap → Prop) : Prop :=
  match tArr P t with
  | some (n, z0) => K (.eptr nid 1 0 0) [(nid, .row 1 (List.replicate n z0))]
  | none => allocK P t nid K
def rowBox (P : Program) (t : TypeId) (x : AV) (nid : Nat) (K : AV → Heap → Prop) : Prop :=
  match tArr P t with
  | some _ => (match x with | .p (.agg cs) => (∀ c ∈ cs, c.one = true) ∧ K (.eptr nid 1 0 0) [(nid, .row 1 cs)] | _ => False)
  | none => boxK x nid K
def overL : List AV → List AV → List AV
  | _ :: cs, v :: vs => v :: overL cs vs
  | cs, [] => cs
  | [], _ :: _ => []
def storeF (P : Program) (t : TypeId) (a x : AV) (σ : Heap) (K : AV → Heap → Prop) : Prop :=
  match a, tT P t with
  | .ptr o 0, some (s, _) => (match σ.get o with
    | .cells cs => (x.isAny = false ∧ x.cells.length = s ∧ s ≤ cs.length ∧ x.cells.all AV.one = true) ∧ K undefA [(o, .cells (overL cs x.cells))]
    | _ => False)
  | a, _ => storeK P t a x σ K
theorem overL_eq : ∀ (vs cs : List AV) (pre : List AV), vs.length ≤ cs.length → pre ++ overL cs vs = setAtL (pre ++ cs) pre.length vs
  | [], cs, pre, _ => by cases cs <;> simp [overL, setAtL]
  | v :: vs, [], pre, h => by simp at h
  | v :: vs, c :: cs, pre, h => by
    have := overL_eq vs cs (pre ++ [v]) (by simpa using h)
    rw [overL, setAtL]
    have e : (pre ++ c :: cs).set pre.length v = (pre ++ [v]) ++ cs := by simp
    rw [e, show pre.length + 1 = (pre ++ [v]).length by simp, ← this]
    simp
theorem storeF_to {P : Program} {t : TypeId} {a x : AV} {σ : Heap} {K : AV → Heap → Prop} (h : storeF P t a x σ K) : storeK P t a x σ K := by
  unfold storeF at h
  split at h
  · rename_i o s g ht
    split at h
    · rename_i cs ho
      obtain ⟨⟨h0, hl, hle, h1⟩, hK⟩ := h
      simp only [storeK, ht, ho]
      refine ⟨⟨h0, hl, by omega, fun c hc => List.all_eq_true.1 h1 c hc⟩, ?_⟩
      have e := overL_eq x.cells cs [] (by omega)
      simp only [List.nil_append, List.length_nil] at e
      rw [← e]; exact hK
    · exact h.elim
  · exact h
def rowStore (P : Program) (t : TypeId) (a x : AV) (σ : Heap) (K : AV → Heap → Prop) : Prop :=
  match a with
  | .eptr o sz i j => (match x with
    | .p v => (match tT P t, σ.get o with
      | some (s, _), .row sz' l => (match decide (s = sz), decide (s < sz) with
        | true, _ => (sz' = sz ∧ 0 < sz ∧ j = 0 ∧ i < l.length ∧ okE sz v) ∧ K undefA [(o, .row sz (l.set i v))]
        | false, true => (sz' = sz ∧ 0 < sz ∧ j + s ≤ sz ∧ i < l.length ∧ okE s v) ∧ ∀ p, l[i]? = some p → (match p with | .agg cs => K undefA [(o, .row sz (l.set i (.agg (setAtP cs j v.cells))))] | _ => False)
        | false, false => (match v with
          | .agg cs => (sz' = sz ∧ sz = 1 ∧ i = 0 ∧ j = 0 ∧ s = l.length ∧ cs.length = s ∧ ∀ c ∈ cs, c.one = true) ∧ K undefA [(o, .row 1 cs)]
          | _ => False))
      | _, _ => False)
    | _ => False)
  | a => storeF P t a x σ K
def rowBuildSlice (P : Program) (t : TypeId) (len : Nat) (parts : List (Nat × AV)) (nid : Nat) (K : AV → Heap → Prop) : Prop :=
  match pureParts 0 parts with
  | some vals => (match decide (vals.length = len) with
    | true => (match tE P t, tEZ P t with
      | some (s, _), some z => (z.length = s ∧ 0 < s ∧ len * s ≤ 1000000 ∧ ∀ v ∈ vals, okE s v) ∧ K (.rsl nid s 0 len) [(nid, .row s vals)]
      | _, _ => False)
    | false => buildSliceK P t len parts nid K)
  | none => buildSliceK P t len parts nid K
def rowMake (P : Program) (t : TypeId) (n c : AV) (nid : Nat) (K : AV → Heap → Prop) : Prop :=
  match n, c, tE P t, tEZ P t, tB P t with
  | .p (.int _ n), .p (.int _ c), some (s, g), some z, some bt => (okE s (elemZ g z) ∧ (elemZ g z).cells = z ∧ z.length = s ∧ 0 < s ∧ bt ≤ 100000) ∧ (0 ≤ n ∧ n ≤ c ∧ c ≤ 1000000000) ∧ K (.rsl nid s 0 n.toNat) [(nid, .row s (List.replicate n.toNat (elemZ g z)))]
  | _, _, _, _, _ => False
def rowSrc (x : AV) (s : Nat) (σ : Heap) (K : Nat → List PV → Prop) : Prop :=
  match x with
  | .p (.sl sz _ l) => (sz = s ∨ l = []) ∧ K l.length l
  | .rsl o sz i n => sz = s ∧ (match σ.get o with | .row sz' l => (sz' = s ∧ i + n ≤ l.length) ∧ K n ((l.drop i).take n) | _ => False)
  | .p (.str b) => s = 1 ∧ K b.size (b.data.toList.map fun u => .int .u8 u.toNat)
  | _ => False
def isCells : AV → Bool
  | .msl _ _ _ _ => true
  | _ => false
def rowAppend (P : Program) (t xt : TypeId) (a x : AV) (σ : Heap) (nid : Nat) (K : AV → Heap → Prop) : Prop :=
  match isCells a || isCells x with
  | true => appendK P t xt a x σ nid K
  | false => (match tE P t, tEZ P t, tB P t with
    | some (s, _), some z, some bt => (z.length = s ∧ 0 < s ∧ bt ≤ 100000 ∧ tNotInt P xt = true) ∧ rowSrc x s σ fun n new => (match a with
      | .rsl o sz i len => (match σ.get o with
        | .row sz' l => (sz = s ∧ sz' = s ∧ i = 0 ∧ len = l.length ∧ len + n ≤ 1000000000) ∧ K (.rsl nid s 0 (len + n)) [(nid, .row s (l ++ new)), (o, .dead)]
        | _ => False)
      | .p (.sl sz c l) => (c = true ∧ (sz = s ∨ l = []) ∧ l.length + n ≤ 1000000000) ∧ (n = 0 → K a []) ∧ (0 < n → K (.rsl nid s 0 (l.length + n)) [(nid, .row s (l ++ new))])
      | _ => False)
    | _, _, _ => False)
def rowCopy (P : Program) (t : TypeId) (a x : AV) (σ : Heap) (K : AV → Heap → Prop) : Prop :=
  match a with
  | .rsl o sz i len => (match tE P t with
    | some (s, _) => 0 < s ∧ rowSrc x s σ fun n new => (match σ.get o with
      | .row sz' l => (sz = s ∧ sz' = s ∧ i + len ≤ l.length) ∧ K (.p (.int .i64 (min n len : Nat))) [(o, .row s (l.take i ++ new.take (min n len) ++ l.drop (i + min n len)))]
      | _ => False)
    | none => False)
  | a => copyK P t a x σ K
def xW (P : Program) (op : Op) (ev : Operand → AV) (σ : Heap) (nid : Nat) (K : AV → Heap → Prop) : Prop :=
  match op with
  | .alloc t => rowAlloc P t nid K
  | .box t x => rowBox P t (ev x) nid K
  | .store t a x => rowStore P t (ev a) (ev x) σ K
  | .buildSlice t n parts => rowBuildSlice P t n (parts.toList.map fun y => (y.1, ev y.2)) nid K
  | .makeSlice t n c => rowMake P t (ev n) (ev c) nid K
  | .call c => (match c.callee, c.args.toList, c.argTypes[0]?, c.argTypes[1]? with
    | .builtin .append, [a, x], some t, some xt => rowAppend P t xt (ev a) (ev x) σ nid K
    | .builtin .copy, [a, x], some t, _ => rowCopy P t (ev a) (ev x) σ K
    | _, _, _, _ => False)
  | op => wK P op ev σ nid K
section
variable {P : Program} {F : Nat → Prop} {μ : Num} {σ : Heap} {w : World} {nid : Nat}
def Imp (v v' : AV) : Prop := ∀ (F : Nat → Prop) (μ : Num) (w : World) (x : Value), RV F μ w x v → RV F μ w x v'
theorem Imp.refl (v : AV) : Imp v v := fun _ _ _ _ h => h
theorem Imp.rsl (o sz i len : Nat) : Imp (.msl o sz (i * sz) len) (.rsl o sz i len) := fun _ _ _ _ h => .rsl _ _ _ _ _ h
theorem Imp.rsl' {o sz i len k : Nat} (e : k = i * sz) : Imp (.msl o sz k len) (.rsl o sz i len) := by subst e; exact Imp.rsl o sz i len
theorem Imp.eptr {o sz i j k : Nat} (e : k = i * sz + j) : Imp (.ptr o k) (.eptr o sz i j) := by subst e; exact fun _ _ _ _ h => .eptr _ _ _ _ _ h
def lift (K : AV → Prop) (v : AV) : Prop := ∃ v', K v' ∧ Imp v v'
theorem lift.of {K : AV → Prop} {v : AV} (h : K v) : lift K v := ⟨v, h, Imp.refl v⟩
theorem un_get {o : Nat} {x : AObj} (h : σ.get o = x) : (unH σ).get o = unO x := by rw [unH_get, h]
theorem pureL_map : ∀ (l : List PV), pureL (l.map AV.p) = some l
  | [] => rfl
  | p :: r => by simp [pureL, pureL_map r]
theorem mkAgg_map (l : List PV) : mkAgg (l.map AV.p) = .p (.agg l) := by simp [mkAgg, pureL_map]
theorem Qt.lift {K : AV → Prop} {s : Sem Value} (h : Qt P F μ w (lift K) s) : Qt P F μ w K s := by
  obtain ⟨av, v, ⟨v', h1, h2⟩, h3, h4⟩ := h
  exact ⟨v', v, h1, h2 _ _ _ _ h3, h4⟩
theorem rowIx_sound {t : TypeId} {x i : AV} {K : AV → Prop} {v u : Value} (hx : RV F μ w v x) (hi : RV F μ w u i) (h : rowIx P t x i K) : Qt P F μ w K (Instr.indexAt t v u) := by
  cases x with
  | rsl o sz i0 len =>
    refine (iaK_sound (K := lift K) hx.un hi ?_).lift
    simp only [rowIx] at h
    split at h
    · rename_i s g k n hE
      obtain ⟨⟨h1, h2, h3⟩, hK⟩ := h
      subst h1
      simp only [iaK, unV, hE]
      exact ⟨⟨trivial, h2, h3⟩, _, hK, Imp.eptr (by rw [Nat.add_mul]; simp)⟩
    · exact h.elim
  | eptr o sz i0 j =>
    refine (iaK_sound (K := lift K) hx.un hi ?_).lift
    simp only [rowIx] at h
    split at h
    · rename_i m s g k n hE hA
      obtain ⟨⟨h1, h2, h3, h4⟩, hK⟩ := h
      subst h1; subst h2
      simp only [iaK, unV, hE, hA]
      exact ⟨⟨h3, h4⟩, _, hK, Imp.eptr (by rw [Nat.add_mul]; simp)⟩
    · exact h.elim
  | _ => exact iaK_sound hx hi h
theorem row_of (hσ : SimH F μ σ w) {o sz : Nat} {l : List PV} (ho : σ.get o = .row sz l) : okRow sz l := by
  have := hσ.okO o; rw [ho] at this; exact this
theorem rowLoad_sound {t : TypeId} {a : AV} {K : AV → Prop} {v : Value} (hσ : SimH F μ σ w) (ha : RV F μ w v a) (h : rowLoad P t a σ K) : Qt P F μ w K (Instr.loadAt t v) := by
  cases a with
  | eptr o sz i j =>
    refine (loadK_sound (K := lift K) hσ.un ha.un ?_).lift
    simp only [rowLoad] at h
    split at h
    · rename_i s g sz' l ht ho
      have hok := row_of hσ ho
      have hu := un_get ho
      simp only [loadK, unV, ht, hu, unO]
      split at h
      · obtain ⟨⟨e1, h0, hs0, hj, hi⟩, hK⟩ := h
        subst e1
        have hp : l[i]? = some l[i] := List.getElem?_eq_getElem hi
        have hK := hK _ hp
        have hpc := (hok l[i] (List.getElem_mem hi)).1
        have hlen := rowC_len h0 hok
        have hle : i * sz' + sz' ≤ l.length * sz' := by
          have : (i + 1) * sz' ≤ l.length * sz' := Nat.mul_le_mul_right _ (by omega)
          rw [Nat.add_mul, Nat.one_mul] at this; exact this
        cases g with
        | true =>
          obtain ⟨h1, h2⟩ := hK
          refine ⟨by omega, ?_⟩
          have e : ((rowC l).drop (i * sz' + j)).take s = ((l[i].cells.drop j).take s).map .p := by
            have := rowC_mid h0 hok i 1
            have e2 : (l.drop i).take 1 = [l[i]] := by rw [List.drop_eq_getElem_cons hi]; rfl
            rw [e2, rowC_one, Nat.one_mul] at this
            rw [← List.drop_drop]
            have e3 : (((rowC l).drop (i * sz')).drop j).take s = ((((rowC l).drop (i * sz')).take sz').drop j).take s := by
              rw [List.drop_take, List.take_take, Nat.min_eq_left (by omega)]
            rw [e3, this, List.map_take, List.map_drop]
          rw [e, mkAgg_map]
          exact lift.of h2
        | false =>
          simp only [partP] at hK
          simp only [partA]
          split at hK
          · rename_i q hq
            rw [rowC_getE h0 hok hp (by omega), hq]
            exact lift.of hK
          · exact hK.elim
      · obtain ⟨⟨rfl, rfl, rfl, rfl, rfl, rfl⟩, hK⟩ := h
        have hlen := rowC_len (by omega) hok
        refine ⟨by omega, ?_⟩
        have : ((rowC l).drop (0 * 1 + 0)).take l.length = (l.flatMap PV.cells).map .p := by
          rw [List.take_of_length_le (by simp; omega)]; rfl
        rw [this, mkAgg_map]
        exact lift.of hK
    · exact h.elim
  | _ => exact loadK_sound hσ ha h
theorem rowFa_sound {t f : Nat} {x : AV} {K : AV → Prop} {v : Value} (hx : RV F μ w v x) (h : rowFa P t f x K) : Qt P F μ w K (Instr.fieldAt t v f) := by
  cases x with
  | eptr o sz i j =>
    refine (faK_sound (K := lift K) hx.un ?_).lift
    simp only [rowFa] at h
    split at h
    · rename_i off s g ht
      simp only [faK, unV, ht]
      exact ⟨h.1, _, h.2, Imp.eptr (by omega)⟩
    · exact h.elim
  | _ => exact faK_sound hx h
theorem rowNil_sound {x : AV} {K : AV → Prop} {v : Value} (hx : RV F μ w v x) (h : rowNil x K) : ∃ av, K av ∧ RV F μ w v av ∧ nonNil v = true := by
  cases x with
  | eptr o sz i j =>
    refine ⟨_, h, hx, ?_⟩
    cases hx with | eptr _ _ _ _ _ hx => cases hx; rfl
  | _ => exact nilK_sound hx h
theorem rowConv_sound {s d : TypeId} {x : AV} {K : AV → Prop} {v : Value} (hσ : SimH F μ σ w) (hx : RV F μ w v x) (h : rowConv P s d x σ K) : Qt P F μ w K (convert s d v) := by
  cases x with
  | rsl o sz i len =>
    refine (convK_sound (K := lift K) hσ.un hx.un ?_).lift
    simp only [rowConv] at h
    split at h
    · rename_i hd
      obtain ⟨⟨h1, rfl⟩, h⟩ := h
      split at h
      · rename_i sz' l ho
        obtain ⟨⟨rfl, hle⟩, q, hq, hK⟩ := h
        have hok := row_of hσ ho
        simp only [convK, unV, hd, un_get ho, unO]
        refine ⟨h1, trivial, by rw [rowC_len (by omega) hok]; omega, q, ?_, lift.of hK⟩
        have hm := rowC_mid (by omega) hok i len
        rw [Nat.mul_one] at hm ⊢
        rw [Nat.mul_one] at hm
        rw [hm]
        have : (l.drop i).take len = q.map (PV.int .u8) := u8s_spec hq
        rw [this]
        have e : rowC (q.map (PV.int .u8)) = q.map fun n => AV.p (PV.int .u8 n) := by
          clear this hq hm hle hok ho hK
          induction q with
          | nil => rfl
          | cons n q ih => rw [List.map_cons, ← List.singleton_append, rowC_append, ih]; rfl
        rw [e, u8A_map]
      · exact h.elim
    · exact h.elim
  | _ => exact convK_sound hσ hx h
theorem rowSl_sound {t : TypeId} {x : AV} {v : Value} {lo hi mx : Option AV} {vlo vhi vmx : Option Value} {K : AV → Prop} (hσ : SimH F μ σ w) (hx : RV F μ w v x)
    (hlo : match lo, vlo with | some x, some v => RV F μ w v x | none, none => True | _, _ => False) (hhi : match hi, vhi with | some x, some v => RV F μ w v x | none, none => True | _, _ => False)
    (hmx : match mx, vmx with | some x, some v => RV F μ w v x | none, none => True | _, _ => False) (h : rowSl P t x lo hi mx σ K) : Qt P F μ w K (Instr.sliceAt t v vlo vhi vmx) := by
  cases x with
  | rsl o sz i len =>
    refine (slK_sound (K := lift K) hσ.un hx.un hlo hhi hmx ?_).lift
    simp only [rowSl] at h
    split at h
    · rename_i s g a b hE ha hb
      simp only [slK, unV, hE, ha, hb]
      cases mx with
      | none =>
        obtain ⟨⟨rfl, h1, h2, h3⟩, hK⟩ := h
        exact ⟨⟨rfl, h1, h2, h3⟩, _, hK, Imp.rsl' (by rw [Nat.add_mul])⟩
      | some m =>
        obtain ⟨⟨rfl, h1, h2, h3⟩, h4, h5, hK⟩ := h
        exact ⟨⟨rfl, h1, h2, h3⟩, h4, h5, _, hK, Imp.rsl' (by rw [Nat.add_mul])⟩
    · exact h.elim
  | eptr o sz i j =>
    refine (slK_sound (K := lift K) hσ.un hx.un hlo hhi hmx ?_).lift
    simp only [rowSl] at h
    split at h
    · rename_i n s g sz' l hE hA ho
      split at h
      · rename_i a b ha hb
        obtain ⟨⟨rfl, rfl, h0, rfl, rfl, rfl, h1, h2, h3, h4⟩, hK⟩ := h
        have hok := row_of hσ ho
        simp only [slK, unV, hA, un_get ho, unO, ha, hb]
        refine ⟨⟨h2, h3, h4⟩, ⟨by rw [rowC_len h0 hok]; omega, h1⟩, _, hK, Imp.rsl' (by omega)⟩
      · exact h.elim
    · exact h.elim
  | _ => exact slK_sound hσ hx hlo hhi hmx h
theorem rowLen_sound {x : AV} {t ty : TypeId} {v : Value} {K : AV → Prop} (hx : RV F μ w v x) (h : rowLen x P t K) : Qt P F μ w K (Builtin.len_ #[t] ty #[v]) := by
  cases x with
  | rsl o sz i len => exact (lenK_sound (K := lift K) hx.un (by simp only [lenK, unV]; exact ⟨h.1, lift.of h.2⟩)).lift
  | _ => exact lenK_sound hx h
end
end Go.Sg
