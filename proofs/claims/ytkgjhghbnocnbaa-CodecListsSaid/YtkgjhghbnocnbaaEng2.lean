/- A part of the proof: the engine, that follows the model step by step with abstract values; no program in sight. -/
import Derived.Test.YtkgjhghbnocnbaaEng1
import Derived.RangeFuncSeq
import Derived.RangeFuncLeaves
set_option linter.unusedSimpArgs false
set_option linter.unusedVariables false
set_option linter.unnecessarySimpa false
namespace Go.Sg
open Go

/-! ### States -/
structure St where
  env : Env
  hp : Heap
  nx : Nat
  yk : Nat

def evalO (env : Env) : Operand → AV
  | .tmp t => env.get t
  | .const v => constAV v
  | .func f => .p (.fn (.func f) [] [])
  | .global _ => .any

/-- What a call of yield leaves as it was. -/
structure KeepY (F : Nat → Prop) (μ : Num) (w w' : World) : Prop where
  os : w'.os = w.os
  tape : w'.tape = w.tape
  output : w'.output = w.output
  size : w.heap.size ≤ w'.heap.size
  same : ∀ b, F b ∨ μ.has b → w'.heap[b]? = w.heap[b]?
/-- For whom a function runs: for nobody in particular, or as an iterator that hands 'xs' to the yield of loop l, the call with the number 'stop' being answered by false. J: the loop's own invariant, after so many calls. -/
structure Gam (P : Program) where
  it : Bool
  J : Nat → (Nat → Prop) → Num → World → Prop
  l : Nat
  xs : List (List PV)
  stop : Nat
  cl : ∀ {k : Nat} {F F' : Nat → Prop} {μ μ' : Num} {w w' : World}, J k F μ w → Base F μ w F' μ' w' → J k F' μ' w'
  yld : it = true → ∀ {k : Nat} {F : Nat → Prop} {μ : Num} {w : World} {vs : Array Value} (ro : Option Nat) (n : Nat), J k F μ w → (∀ b, F b → b < w.heap.size) → (∀ b, μ.has b → b < w.heap.size) → k < xs.length → k ≤ stop → vs.size = (xs.getD k []).length →
    (∀ (i : Nat) p, (xs.getD k [])[i]? = some p → RP F w (vs[i]?.getD undef) p) → YieldAt (fc ro) n P l vs w fun e w' => e = .returned (.bool (decide (k ≠ stop))) ∧ J (k + 1) F μ w' ∧ KeepY F μ w w'
/-- The tmps; for whom; the objects whose numbers stay. -/
structure Cx (P : Program) where
  N : Nat
  G : Gam P
  kp : List Nat
/-- For nobody in particular. -/
def Gam.no (P : Program) : Gam P where
  it := false
  J := fun _ _ _ _ => True
  l := 0
  xs := []
  stop := 0
  cl := fun _ _ => trivial
  yld := fun h => by cases h

def markD (r : Nat) : Deferred := { target := .collected r, args := #[] }
/-- An activation's beginning: its deferred calls, the size of memory; the loop of which it is a round. -/
structure D0 where
  ds : List Deferred
  b0 : Nat
  ro : Option Nat
/-- The deferred calls: those of the beginning, and marks of ranges over functions. -/
def Mk (it : Bool) (F : Nat → Prop) (μ : Num) (w : World) (d0 : D0) (a : Act) : Prop :=
  ∃ ms : List Nat, ((it = true → ms = []) ∧ ms.Nodup ∧ d0.b0 ≤ w.heap.size) ∧ a.defers = ms.map markD ++ d0.ds ∧ ∀ r ∈ ms, w.heap[r]? = some (.deferred (some [])) ∧ ¬ F r ∧ ¬ μ.has r ∧ d0.b0 ≤ r
theorem lt_of_get {w : World} {b : Nat} {o : Obj} (h : w.heap[b]? = some o) : b < w.heap.size := (Array.getElem?_eq_some_iff.1 h).1
theorem Mk.base {it : Bool} {F F' : Nat → Prop} {μ μ' : Num} {w w' : World} {d0 : D0} {a a' : Act} (h : Mk it F μ w d0 a) (b : Base F μ w F' μ' w') (e : a'.defers = a.defers) : Mk it F' μ' w' d0 a' := by
  obtain ⟨ms, h1, h2, h3⟩ := h
  refine ⟨ms, ⟨h1.1, h1.2.1, Nat.le_trans h1.2.2 b.size⟩, e.trans h2, fun r hr => ?_⟩
  obtain ⟨h4, h5, h6, h7⟩ := h3 r hr
  have hlt := lt_of_get h4
  refine ⟨(b.old r hlt h6).trans h4, fun hf => ?_, fun hm => ?_, h7⟩
  · rcases b.fnew r hf with h | h | h
    · exact h5 h
    · exact h6 h
    · omega
  · rcases b.mnew r hm with h | h
    · exact h6 h
    · omega
/-- The loop of which this is a round has its record. -/
def Rd (F : Nat → Prop) (μ : Num) (w : World) (d0 : D0) : Prop := ∀ l, d0.ro = some l → ∃ r : Loop, w.heap[l]? = some (.loop r) ∧ ¬ F l ∧ ¬ μ.has l
theorem Rd.base {F F' : Nat → Prop} {μ μ' : Num} {w w' : World} {d0 : D0} (h : Rd F μ w d0) (b : Base F μ w F' μ' w') : Rd F' μ' w' d0 := fun l hl => by
  obtain ⟨r, h4, h5, h6⟩ := h l hl
  have hlt := lt_of_get h4
  refine ⟨r, (b.old l hlt h6).trans h4, fun hf => ?_, fun hm => ?_⟩
  · rcases b.fnew l hf with h | h | h
    · exact h5 h
    · exact h6 h
    · omega
  · rcases b.mnew l hm with h | h
    · exact h6 h
    · omega
def Kp (L : List Nat) (μ μ' : Num) : Prop := ∀ o ∈ L, ∀ b, μ o = some b → μ' o = some b
theorem Kp.refl (L : List Nat) (μ : Num) : Kp L μ μ := fun _ _ _ h => h
theorem Kp.trans {L : List Nat} {μ μ1 μ2 : Num} (h : Kp L μ μ1) (k : Kp L μ1 μ2) : Kp L μ μ2 := fun o ho b hb => k o ho b (h o ho b hb)
theorem Kp.step {L : List Nat} {F F' : Nat → Prop} {μ μ' : Num} {w w' : World} (h : Step F μ w F' μ' w') : Kp L μ μ' := fun o _ b hb => h.pre o b hb
/-- What one stretch of the run leaves as it was. An iterator says nothing of it. -/
def Rl {P : Program} (G : Gam P) (F : Nat → Prop) (μ : Num) (w : World) (F' : Nat → Prop) (μ' : Num) (w' : World) : Prop := G.it = false → Base F μ w F' μ' w'
section
variable {P : Program} {G : Gam P}
theorem Rl.refl (F : Nat → Prop) (μ : Num) (w : World) : Rl G F μ w F μ w := fun _ => Base.refl F μ w
theorem Rl.trans {F F1 F2 : Nat → Prop} {μ μ1 μ2 : Num} {w w1 w2 : World} (h : Rl G F μ w F1 μ1 w1) (k : Rl G F1 μ1 w1 F2 μ2 w2) : Rl G F μ w F2 μ2 w2 := fun e => (h e).trans (k e)
theorem Rl.of {F F' : Nat → Prop} {μ μ' : Num} {w w' : World} (h : Base F μ w F' μ' w') : Rl G F μ w F' μ' w' := fun _ => h
end

structure Sim {P : Program} (C : Cx P) (d0 : D0) (F : Nat → Prop) (μ : Num) (s : St) (a : Act) (w : World) : Prop where
  h : SimH F μ s.hp w
  fresh : ∀ o, s.nx ≤ o → μ o = none
  size : a.tmps.size = C.N
  env : ∀ t, RV F μ w (a.tmps[t]?.getD undef) (s.env.get t)
  mks : Mk C.G.it F μ w d0 a
  rd : Rd F μ w d0
  itro : C.G.it = true → d0.ro = none
  j : C.G.J s.yk F μ w

section
variable {P : Program} {C : Cx P} {d0 : D0} {N : Nat} {F : Nat → Prop} {μ : Num} {w : World} {a : Act}
theorem eval_rv {env : Env} (h : ∀ t, RV F μ w (a.tmps[t]?.getD undef) (env.get t)) (x : Operand) : RV F μ w (a.eval x) (evalO env x) := by
  cases x with
  | tmp t => have := h t; simpa [Act.eval, evalO, Array.getD_eq_getD_getElem?] using this
  | const v => exact constAV_spec v
  | global g => exact .any _
  | func f => exact .p (.fn _ _ _ _ _ rfl rfl (by simp) (by simp))

def Env.put (env : Env) (dst : Option Nat) (v : AV) : Env :=
  match dst with
  | some d => (d, v) :: env
  | none => env

theorem put_env {env : Env} (h : ∀ t, RV F μ w (a.tmps[t]?.getD undef) (env.get t)) {dst : Option Nat} {v : Value} {av : AV} (hd : ∀ d, dst = some d → d < a.tmps.size) (hv : RV F μ w v av) (t : Nat) :
    RV F μ w ((a.put dst v).tmps[t]?.getD undef) ((env.put dst av).get t) := by
  cases dst with
  | none => exact h t
  | some d =>
    have hlt := hd d rfl
    simp only [Act.put, Env.put, Env.get]
    by_cases e : d = t
    · subst e; simp [hlt]; exact hv
    · rw [if_neg e]
      have : (a.tmps.setIfInBounds d v)[t]? = a.tmps[t]? := by rw [Array.getElem?_setIfInBounds, if_neg e]
      rw [this]; exact h t

theorem Sim.put {s : St} (h : Sim C d0 F μ s a w) {dst : Option Nat} (hd : ∀ d, dst = some d → d < C.N) {F' : Nat → Prop} {μ' : Num} {w' : World} (hst : Step F μ w F' μ' w') {us : Heap} (hs : SimH F' μ' (us ++ s.hp) w') {v : Value} {av : AV}
    (hv : RV F' μ' w' v av) (hμ : ∀ o, o < s.nx ∨ s.nx + 64 ≤ o → μ' o = μ o) : Sim C d0 F' μ' ⟨s.env.put dst av, us ++ s.hp, s.nx + 64, s.yk⟩ (a.put dst v) w' where
  h := hs
  fresh := fun o ho => by
    have ho' : s.nx + 64 ≤ o := ho
    rw [hμ o (.inr ho')]; exact h.fresh o (by omega)
  size := by cases dst <;> simp [Act.put, h.size]
  env := put_env (fun t => (h.env t).step hst) (fun d hd' => by rw [h.size]; exact hd d hd') hv
  mks := h.mks.base hst.base (by cases dst <;> rfl)
  rd := h.rd.base hst.base
  itro := h.itro
  j := C.G.cl h.j hst.base

/-- Worlds that agree on the blocks that matter. -/
theorem shape_same {w w' : World} {b : Nat} (h : w'.heap[b]? = w.heap[b]?) : w'.shape? b = w.shape? b := by unfold World.shape?; rw [h]
theorem RV.same {w' : World} {v : Value} {x : AV} (h : RV F μ w v x) (hs : ∀ b, F b ∨ μ.has b → w'.heap[b]? = w.heap[b]?) : RV F μ w' v x := by
  induction h with
  | any v => exact .any v
  | p h => exact .p (h.mono (fun _ h => h) fun b hb => hs b (.inl hb))
  | ptr o off b h => exact .ptr o off b h
  | msl o sz off off' len cap b t n h1 h0 h2 h3 h4 h5 => exact .msl o sz off off' len cap b t n h1 h0 ((shape_same (hs b (.inr ⟨o, h1⟩))).trans h2) h3 h4 h5
  | rsl o sz i len v _ ih => exact .rsl o sz i len _ ih
  | csl o sz i len cap base _ ih => exact .csl o sz i len cap base ih
  | eptr o sz i j v _ ih => exact .eptr o sz i j _ ih
  | mp o b h => exact .mp o b h
  | ch o b h => exact .ch o b h
  | agg cs l h1 _ ih => exact .agg cs l h1 ih
  | tup cs l h1 _ ih => exact .tup cs l h1 ih
  | fn f as bs ls ms h1 h2 _ _ i1 i2 => exact .fn f as bs ls ms h1 h2 i1 i2
theorem RO.same {w' : World} {b : Nat} {x : AObj} (h : RO F μ w b x) (hs : ∀ b, F b ∨ μ.has b → w'.heap[b]? = w.heap[b]?) (hb : w'.heap[b]? = w.heap[b]?) : RO F μ w' b x := by
  cases x with
  | dead => trivial
  | cells cs =>
    obtain ⟨cur, t, h1, h2, h3⟩ := h
    exact ⟨cur, t, hb.trans h1, h2, fun i c hc => (h3 i c hc).same hs⟩
  | row sz l =>
    obtain ⟨h0, cur, t, h1, h2, h3⟩ := h
    exact ⟨h0, cur, t, hb.trans h1, h2, fun i c hc => (h3 i c hc).same hs⟩
  | map ks m =>
    obtain ⟨h0, es, clock, h1, h2, h3, h4⟩ := h
    exact ⟨h0, es, clock, hb.trans h1, h2, h3, fun i k v hm => let ⟨e, a, b, c⟩ := h4 i k v hm; ⟨e, a, b.mono (fun _ h => h) (fun b hb => hs b (.inl hb)), c.mono (fun _ h => h) (fun b hb => hs b (.inl hb))⟩⟩
  | chan cap buf =>
    obtain ⟨bs, x, y, h1, h2, h3⟩ := h
    exact ⟨bs, x, y, hb.trans h1, h2, fun i c hc => (h3 i c hc).same hs⟩
  | iter rem cur => exact IterOk.mono h (fun _ h => h) (fun b hb => hs b (.inl hb)) hb
theorem SimH.same {σ : Heap} {w' : World} (h : SimH F μ σ w) (hz : w.heap.size ≤ w'.heap.size) (hs : ∀ b, F b ∨ μ.has b → w'.heap[b]? = w.heap[b]?) : SimH F μ σ w' :=
  ⟨fun b hb => Nat.lt_of_lt_of_le (h.fb b hb) hz, fun b hb => Nat.lt_of_lt_of_le (h.mb b hb) hz, h.has, fun o b hb => (h.obj o b hb).same hs (hs b (.inr ⟨o, hb⟩)), h.live, h.inj⟩

/-! ### Guards -/
def guardK (ops : List Oper) (g : Option (Nat × Bool)) (env : Env) (K : Bool → Env → Prop) : Prop :=
  match g with
  | none => K true env
  | some (j, want) => (match (ops[j]?).bind (·.dst) with
    | none => False
    | some t => (match env.get t with
      | .p (.bool b) => (b = want → K true ((t, .p (.bool want)) :: env)) ∧ (b ≠ want → K false ((t, .p (.bool !want)) :: env))
      | .p (.tup []) => K false env
      | _ => False))

theorem tup_nil_inv {v : Value} (h : RV F μ w v (.p (.tup []))) : v = .tuple #[] := by
  cases h with
  | p h => cases h with
    | tup cs _ h1 _ => simp at h1; rw [h1]

theorem guardK_sound {ops : Array Oper} {o : Oper} {env : Env} {K : Bool → Env → Prop} (h : guardK ops.toList o.guard env K) (he : ∀ t, RV F μ w (a.tmps[t]?.getD undef) (env.get t))
    (hd : ∀ (j : Nat) (x : Oper) d, ops[j]? = some x → x.dst = some d → d < a.tmps.size) :
    ∃ b env', K b env' ∧ Region.wanted o (yielded ops a.tmps) = b ∧ ∀ t, RV F μ w (a.tmps[t]?.getD undef) (env'.get t) := by
  unfold guardK at h
  unfold Region.wanted
  cases hg : o.guard with
  | none => rw [hg] at h; exact ⟨true, env, h, rfl, he⟩
  | some g =>
    obtain ⟨j, want⟩ := g
    rw [hg] at h
    simp only [Array.getElem?_toList] at h
    cases ho : (ops[j]?).bind (·.dst) with
    | none => rw [ho] at h; exact h.elim
    | some t =>
      rw [ho] at h
      simp only at h
      have hlt : t < a.tmps.size := by
        obtain ⟨x, hx, hxd⟩ := Option.bind_eq_some_iff.1 ho
        exact hd j x t hx hxd
      have ht := he t
      have hsome : a.tmps[t]? = some (a.tmps[t]?.getD undef) := by rw [Array.getElem?_eq_getElem hlt]; rfl
      split at h
      · rename_i b hb
        rw [hb] at ht
        have hv := pbool_inv ht
        have hy : yielded ops a.tmps j = some b := by
          unfold yielded; rw [ho]
          simp only [Option.bind_some]
          rw [hsome, hv]
        rw [hv] at hsome
        have env' : ∀ c, b = c → ∀ u, RV F μ w (a.tmps[u]?.getD undef) (Env.get ((t, .p (.bool c)) :: env) u) := fun c hc u => by
          simp only [Env.get]
          by_cases e : t = u
          · subst e; rw [if_pos rfl, hv, hc]; exact .p (.bool _)
          · rw [if_neg e]; exact he u
        by_cases hw : b = want
        · exact ⟨true, _, h.1 hw, by simp [hy, hw], env' want hw⟩
        · exact ⟨false, _, h.2 hw, by simp [hy, hw], env' (!want) (by cases b <;> cases want <;> simp_all)⟩
      · rename_i hb
        rw [hb] at ht
        have hv := tup_nil_inv ht
        have hy : yielded ops a.tmps j = none := by
          unfold yielded; rw [ho]
          simp only [Option.bind_some]
          rw [hsome, hv]
        exact ⟨false, env, h, by simp [hy], he⟩
      · exact h.elim

/-! ### Lists of operations, in the text's order -/
def yieldOf (ev : Operand → AV) : Op → Option (Nat × List AV)
  | .call c => (match c.callee with
    | .value x => (match ev x with | .p (.fn (.yield l) [] []) => some (l, c.args.toList.map ev) | _ => none)
    | _ => none)
  | _ => none
/-- A panic of the text's own. -/
def panicOf : Op → Option Operand
  | .panic x => some x
  | _ => none
def opS {P : Program} (G : Gam P) (op : Op) (dst : Option Nat) (env : Env) (hp : Heap) (nx yk : Nat) (K : St → Prop) (KP : PV → St → Prop) : Prop :=
  match panicOf op with
  | some x => (match evalO env x with | .p (.iface t v) => KP (.iface t v) ⟨env, hp, nx, yk⟩ | _ => False)
  | none => (match yieldOf (evalO env) op with
    | some (l, as) => (G.it = true ∧ l = G.l ∧ yk < G.xs.length ∧ yk ≤ G.stop ∧ as = (G.xs.getD yk []).map .p) ∧ K ⟨env.put dst (.p (.bool (decide (yk ≠ G.stop)))), hp, nx, yk + 1⟩
    | none => xalt op (stS P op (evalO env) hp nx fun v us => K ⟨env.put dst v, us ++ hp, nx + 64, yk⟩) (panK P op (evalO env) hp nx fun p us => KP p ⟨env, us ++ hp, nx, yk⟩))
def seqK {P : Program} (G : Gam P) (ops : List Oper) : List Oper → St → (St → Prop) → (PV → St → Prop) → Prop
  | [], s, K, _ => K s
  | o :: r, s, K, KP => guardK ops o.guard s.env fun b env => match b with
    | true => opS G o.op o.dst env s.hp s.nx s.yk (fun s' => seqK G ops r s' K KP) KP
    | false => seqK G ops r ⟨env.put o.dst undefA, s.hp, s.nx, s.yk⟩ K KP

def okOps (N : Nat) (ops : List Oper) : Bool := ops.all fun o => match o.dst with | some d => decide (d < N) | none => true
theorem okOps_spec {ops : List Oper} (h : okOps N ops = true) (o : Oper) (ho : o ∈ ops) (d : Nat) (hd : o.dst = some d) : d < N := by
  have := List.all_eq_true.1 h o ho
  rw [hd] at this; simpa using this

theorem undef_rv : RV F μ w undef undefA := .p (.tup _ _ rfl (by simp))
/-- One panic, with a pure value. -/
def OnePanic (F : Nat → Prop) (w : World) (ch : List PanicEntry) (p : PV) : Prop := ∃ v, ch = [{ v, recovered := false }] ∧ RP F w v p

theorem opS_sound {n : Nat} {o : Oper} {s : St} {Q : Exit → Act → World → Prop} {next : Act → World → Prop} {K : St → Prop} {KP : PV → St → Prop} (hd : ∀ d, o.dst = some d → d < C.N) (hs : Sim C d0 F μ s a w)
    (h : opS C.G o.op o.dst s.env s.hp s.nx s.yk K KP)
    (hk : ∀ s' F' μ' a' w', K s' → Rl C.G F μ w F' μ' w' → Kp C.kp μ μ' → Sim C d0 F' μ' s' a' w' → next a' w')
    (hp : ∀ s' F' μ' w' p ch, KP p s' → Rl C.G F μ w F' μ' w' → Kp C.kp μ μ' → Sim C d0 F' μ' s' a w' → OnePanic F' w' ch p → Q (.panic ch) a w') : o.wpIn (fc d0.ro) n P a w next Q := by
  unfold opS at h
  split at h
  · rename_i x hx
    split at h
    · rename_i t v hv
      have hrv := eval_rv hs.env x
      rw [hv] at hrv
      obtain ⟨dst, op, ty, pos, after, guard⟩ := o
      cases op <;> try (cases hx; done)
      rename_i y
      simp only [panicOf, Option.some.injEq] at hx
      subst hx
      generalize hxv : a.eval y = u at hrv
      have hrv := hrv.pure_inv
      have hpan : Q (.panic [{ v := u, recovered := false }]) a w := hp s F μ w _ _ h (Rl.refl F μ w) (Kp.refl _ _) hs ⟨u, rfl, hrv⟩
      cases hrv with
      | iface _ v' _ hr =>
        refine ⟨about_any _ a w, ?_⟩
        rw [Oper.semAt_eq _ _ _ (by simp)]
        have hrun : (execOp a.eval { dst := dst, op := .panic y, type := ty, pos := pos, after := after, guard := guard }).run P w = .halt (.panic (.iface t v')) w := by
          simp only [execOp, hxv]; rfl
        rw [hrun, Oper.uponIn_panic]
        exact hpan
    · exact h.elim
  · split at h
    · rename_i hx l as hy
      obtain ⟨⟨h1, h2, h3, h4, h5⟩, hK⟩ := h
      obtain ⟨dst, op, ty, pos, after, guard⟩ := o
      obtain ⟨x, args, ats, rfl⟩ : ∃ x args ats, op = .call { callee := .value x, args := args, argTypes := ats } := by
        cases op with
        | call c =>
          obtain ⟨callee, args, ats⟩ := c
          cases callee with
          | value x => exact ⟨x, args, ats, rfl⟩
          | _ => cases hy
        | _ => cases hy
      simp only [yieldOf] at hy
      split at hy
      · rename_i l' hx'
        injection hy with hy; injection hy with e1 e2; subst e1
        have hrv := eval_rv hs.env x
        rw [hx'] at hrv
        have hrv := hrv.pure_inv
        generalize hxv : a.eval x = u at hrv
        cases hrv with
        | fn _ us bs _ _ g1 g2 g3 g4 =>
          have e3 : us = #[] := Array.eq_empty_of_size_eq_zero g1
          have e4 : bs = #[] := Array.eq_empty_of_size_eq_zero g2
          subst e3; subst e4
          have hargs : (args.map a.eval).size = (C.G.xs.getD s.yk []).length := by
            have := congrArg List.length (e2.trans h5); simpa using this
          have hrp : ∀ (i : Nat) p, (C.G.xs.getD s.yk [])[i]? = some p → RP F w ((args.map a.eval)[i]?.getD undef) p := fun i p hp' => by
            have h6 : (args.toList.map (evalO s.env))[i]? = some (.p p) := by rw [e2, h5, List.getElem?_map, hp']; rfl
            simp only [List.getElem?_map, Option.map_eq_some_iff, Array.getElem?_toList] at h6
            obtain ⟨y, hy1, hy2⟩ := h6
            have h7 := eval_rv hs.env y
            rw [hy2] at h7
            simp only [Array.getElem?_map, hy1]
            exact h7.pure_inv
          obtain ⟨fn, tmps, assign, body, hrun, hround⟩ := C.G.yld h1 d0.ro (n - 1) hs.j hs.h.fb hs.h.mb h3 h4 hargs hrp
          refine ⟨about_any _ a w, ?_⟩
          rw [Oper.semAt_eq _ _ _ (by simp)]
          have hrun2 : (execOp a.eval { dst := dst, op := .call { callee := .value x, args := args, argTypes := ats }, type := ty, pos := pos, after := after, guard := guard }).run P w = .ok (.round C.G.l fn tmps assign body) w := by
            simp only [execOp, resolve, hxv, Deferred.ofValue, Sem.run_bind, Sem.run_pure, Result.andThen_ok, invoke, Array.empty_append, h2]
            exact hrun
          rw [hrun2, Oper.uponIn_round]
          refine ⟨fun h => by simp [fc, Fence.wide] at h, RoundIn.mono hround fun e w' he => ?_⟩
          obtain ⟨rfl, hj, hky⟩ := he
          refine hk _ F μ _ w' hK (fun hf => by rw [h1] at hf; cases hf) (Kp.refl _ _) ⟨hs.h.same hky.size hky.same, hs.fresh, by cases dst <;> simp [Act.put, hs.size], ?_, ?_, ?_, hs.itro, hj⟩
          · exact put_env (fun t => (hs.env t).same hky.same) (fun d hd' => by rw [hs.size]; exact hd d hd') (.p (.bool _))
          · obtain ⟨ms, m1, m2, m3⟩ := hs.mks
            have := m1.1 h1
            subst this
            exact ⟨[], ⟨fun _ => rfl, List.nodup_nil, Nat.le_trans m1.2.2 hky.size⟩, by cases dst <;> exact m2, by simp⟩
          · intro l hl
            exact absurd hl (by rw [hs.itro h1]; simp)
      · cases hy
    · rcases xalt_or h with h | h
      · refine stS_sound hs.h (fun o h1 _ => hs.fresh o h1) (eval_rv hs.env) h fun av us v w' F' μ' k1 k2 k3 k4 k5 => ?_
        exact hk _ F' μ' _ w' k1 (.of k2.base) (.step k2) (hs.put hd k2 k3 k4 k5)
      · refine panK_sound hs.h (fun o h1 _ => hs.fresh o h1) (eval_rv hs.env) h fun p us v w' k1 k2 k3 k4 => ?_
        exact hp ⟨s.env, us ++ s.hp, s.nx, s.yk⟩ F μ w' p _ k1 (.of k2.base) (.step k2) ⟨k3, hs.fresh, hs.size, fun t => (hs.env t).step k2, hs.mks.base k2.base rfl, hs.rd.base k2.base, hs.itro, C.G.cl hs.j k2.base⟩ ⟨v, rfl, k4⟩

theorem seqK_sound {n : Nat} {ops : Array Oper} {Q : Exit → Act → World → Prop} {K : St → Prop} {KP : PV → St → Prop} (hok : okOps C.N ops.toList = true) :
    ∀ (l : List Oper) (s : St) (F : Nat → Prop) (μ : Num) (a : Act) (w : World), (∀ o ∈ l, o ∈ ops.toList) → Sim C d0 F μ s a w → seqK C.G ops.toList l s K KP →
      (∀ s' F' μ' a' w', K s' → Rl C.G F μ w F' μ' w' → Kp C.kp μ μ' → Sim C d0 F' μ' s' a' w' → Q .normal a' w') →
      (∀ s' F' μ' a' w' p ch, KP p s' → Rl C.G F μ w F' μ' w' → Kp C.kp μ μ' → Sim C d0 F' μ' s' a' w' → OnePanic F' w' ch p → Q (.panic ch) a' w') → wpListIn (fc d0.ro) n P ops Q l a w := by
  intro l
  induction l with
  | nil => intro s F μ a w _ hs h hk _; exact hk s F μ a w h (Rl.refl F μ w) (Kp.refl _ _) hs
  | cons o r ih =>
    intro s F μ a w hmem hs h hk hp
    have hdst : ∀ d, o.dst = some d → d < C.N := okOps_spec hok o (hmem o (by simp))
    simp only [seqK] at h
    obtain ⟨b, env', h1, h2, h3⟩ := guardK_sound h hs.env (fun j x d hx hd => by
      rw [hs.size]; exact okOps_spec hok x (by rw [Array.mem_toList_iff]; exact Array.mem_of_getElem? hx) d hd)
    have hs' : Sim C d0 F μ ⟨env', s.hp, s.nx, s.yk⟩ a w := ⟨hs.h, hs.fresh, hs.size, h3, hs.mks, hs.rd, hs.itro, hs.j⟩
    simp only [wpListIn]
    rw [h2]
    cases b with
    | true =>
      simp only [if_true]
      simp only at h1
      refine opS_sound (s := ⟨env', s.hp, s.nx, s.yk⟩) hdst hs' h1 (fun s' F' μ' a' w' k1 k2 k3 k4 => ?_) fun s' F' μ' w' p ch k1 k2 k3 k4 k5 => hp s' F' μ' a w' p ch k1 k2 k3 k4 k5
      exact ih s' F' μ' a' w' (fun x hx => hmem x (by simp [hx])) k4 k1 (fun s'' F'' μ'' a'' w'' e1 e2 e3 e4 => hk s'' F'' μ'' a'' w'' e1 (k2.trans e2) (k3.trans e3) e4)
        fun s'' F'' μ'' a'' w'' p ch e1 e2 e3 e4 e5 => hp s'' F'' μ'' a'' w'' p ch e1 (k2.trans e2) (k3.trans e3) e4 e5
    | false =>
      simp only [Bool.false_eq_true, if_false]
      simp only at h1
      refine ⟨about_any o a w, ?_⟩
      exact ih ⟨env'.put o.dst undefA, s.hp, s.nx, s.yk⟩ F μ _ w (fun x hx => hmem x (by simp [hx]))
        ⟨hs.h, hs.fresh, by cases o.dst <;> simp [Act.put, hs.size], put_env h3 (fun d hd => by rw [hs.size]; exact hdst d hd) undef_rv, hs.mks.base (Base.refl F μ w) (by cases o.dst <;> rfl), hs.rd, hs.itro, hs.j⟩ h1 hk hp
end
end Go.Sg

namespace Go.Sg
open Go

/-- The objects that a value leads to at once. -/
def objs : AV → List Nat
  | .ptr o _ => [o]
  | .msl o _ _ _ => [o]
  | .rsl o _ _ _ => [o]
  | .csl o _ _ _ _ => [o]
  | .eptr o _ _ _ => [o]
  | .mp o => [o]
  | .ch o => [o]
  | _ => []

section
variable {P : Program} {K : AV → Prop} {σ σ' : Heap}

theorem partP_pick {g : Bool} {s : Nat} {cs : List PV} {off : Nat} (h : partP g s cs off K) : ∃ v, K v ∧ partP g s cs off (· = v) := by
  unfold partP at *
  cases g
  · simp only at h ⊢
    split at h
    · rename_i v hv; exact ⟨_, h, by simp only [hv]⟩
    · exact h.elim
  · exact ⟨_, h.2, h.1, rfl⟩
theorem partA_pick {g : Bool} {s : Nat} {cs : List AV} {off : Nat} (h : partA g s cs off K) : ∃ v, K v ∧ partA g s cs off (· = v) := by
  unfold partA at *
  cases g
  · simp only at h ⊢
    split at h
    · rename_i v hv; exact ⟨_, h, by simp only [hv]⟩
    · exact h.elim
  · exact ⟨_, h.2, h.1, rfl⟩
theorem pickK_pick {c a b : AV} (h : pickK c a b K) : ∃ v, K v ∧ pickK c a b (· = v) := by
  unfold pickK at h
  split at h
  · exact ⟨_, h, rfl⟩
  · exact h.elim
theorem fieldK_pick {t f : Nat} {x : AV} (h : fieldK P t f x K) : ∃ v, K v ∧ fieldK P t f x (· = v) := by
  unfold fieldK at *
  split at h
  · split at h
    · exact partP_pick h
    · exact partA_pick h
    · exact h.elim
  · exact h.elim
theorem loadK_pick {t : TypeId} {a : AV} (h : loadK P t a σ K) (he : ∀ q, q ∈ objs a → σ'.get q = σ.get q) : ∃ v, K v ∧ loadK P t a σ' (· = v) := by
  unfold loadK at *
  split at h
  · split at h
    · exact partP_pick h
    · rename_i o off
      split at h
      · rename_i cs hcs
        rw [← he o (by simp [objs])] at hcs
        simp only [hcs]; exact partA_pick h
      · exact h.elim
    · exact h.elim
  · exact h.elim
theorem nilK_pick {a : AV} (h : nilK a K) : ∃ v, K v ∧ nilK a (· = v) := by
  unfold nilK at h
  split at h <;> first | exact h.elim | exact ⟨_, h, rfl⟩
theorem faK_pick {t f : Nat} {x : AV} (h : faK P t f x K) : ∃ v, K v ∧ faK P t f x (· = v) := by
  unfold faK at *
  split at h
  · split at h <;> first | exact h.elim | exact ⟨_, h.2, h.1, rfl⟩
  · exact h.elim
theorem iaK_pick {t : TypeId} {x i : AV} (h : iaK P t x i K) : ∃ v, K v ∧ iaK P t x i (· = v) := by
  unfold iaK at *
  split at h
  · split at h
    · rename_i n
      obtain ⟨⟨h1, h2, h3⟩, h⟩ := h
      have hn : n.toNat < _ := (Int.toNat_lt h2).2 h3
      have hg := List.getElem?_eq_getElem hn
      exact ⟨_, h _ hg, ⟨h1, h2, h3⟩, fun p hp => by rw [hg] at hp; injection hp with hp; rw [hp]⟩
    · exact ⟨_, h.2, h.1, rfl⟩
    · exact h.elim
  · split at h
    · split at h <;> first | exact h.elim | exact ⟨_, h.2, h.1, rfl⟩
    · exact h.elim
theorem ixK_pick {t : TypeId} {x i : AV} (h : ixK P t x i K) : ∃ v, K v ∧ ixK P t x i (· = v) := by
  unfold ixK at *
  split at h
  · split at h
    · obtain ⟨v, h1, h2⟩ := partP_pick h.2; exact ⟨v, h1, h.1, h2⟩
    · obtain ⟨v, h1, h2⟩ := partA_pick h.2; exact ⟨v, h1, h.1, h2⟩
    · exact h.elim
  · split at h
    · exact ⟨_, h.2.2, h.1, h.2.1, rfl⟩
    · exact h.elim
theorem intK_pick {op : BinOp} {k k' : IntKind} {a b : Int} (h : intK op k k' a b K) : ∃ v, K v ∧ intK op k k' a b (· = v) := by
  cases op <;> simp only [intK] at h ⊢ <;> first | exact ⟨_, h.2.2, h.1, h.2.1, rfl⟩ | exact ⟨_, h.2, h.1, rfl⟩
theorem binK_pick {op : BinOp} {t : TypeId} {x y : AV} (h : binK P op t x y K) : ∃ v, K v ∧ binK P op t x y (· = v) := by
  unfold binK at *
  split at h
  · exact intK_pick h
  · cases op <;> simp only [strK] at h ⊢ <;> first | exact h.elim | exact ⟨_, h, rfl⟩ | exact ⟨_, h.2, h.1, rfl⟩
  · cases op <;> simp only [boolK] at h ⊢ <;> first | exact h.elim | exact ⟨_, h.2, h.1, rfl⟩
  · exact h.elim
theorem unK_pick {op : UnOp} {x : AV} (h : unK op x K) : ∃ v, K v ∧ unK op x (· = v) := by
  unfold unK at h
  split at h <;> first | exact h.elim | exact ⟨_, h, rfl⟩ | exact ⟨_, h.2, h.1, rfl⟩
theorem exK_pick {x : AV} {i : Nat} (h : exK x i K) : ∃ v, K v ∧ exK x i (· = v) := by
  unfold exK at *
  split at h
  · split at h
    · exact ⟨_, h, rfl⟩
    · exact h.elim
  · split at h
    · exact ⟨_, h, rfl⟩
    · exact h.elim
  · exact h.elim
theorem convK_pick {s d : TypeId} {x : AV} (h : convK P s d x σ K) (he : ∀ q, q ∈ objs x → σ'.get q = σ.get q) : ∃ v, K v ∧ convK P s d x σ' (· = v) := by
  unfold convK at *
  split at h
  · split at h
    · exact ⟨_, h.2, h.1, rfl⟩
    · exact h.elim
  · split at h
    · exact ⟨_, h.2, h.1, rfl⟩
    · obtain ⟨h1, h2, q, h3, h4⟩ := h
      exact ⟨_, h4, h1, h2, q, h3, rfl⟩
    · rename_i o sz off len
      obtain ⟨h1, h2, h⟩ := h
      split at h
      · rename_i cs hcs
        rw [← he o (by simp [objs])] at hcs
        obtain ⟨h3, q, h4, h5⟩ := h
        refine ⟨_, h5, h1, h2, ?_⟩
        simp only [hcs]
        exact ⟨h3, q, h4, rfl⟩
      · exact h.elim
    · exact h.elim
  · exact h.elim
theorem slK_pick {t : TypeId} {x : AV} {lo hi mx : Option AV} (h : slK P t x lo hi mx σ K) (he : ∀ q, q ∈ objs x → σ'.get q = σ.get q) : ∃ v, K v ∧ slK P t x lo hi mx σ' (· = v) := by
  unfold slK at *
  split at h
  · split at h
    · split at h
      · exact ⟨_, h.2, h.1, rfl⟩
      · exact ⟨_, h.2.2.2, h.1, h.2.1, h.2.2.1, rfl⟩
    · exact h.elim
  · split at h
    · split at h
      · exact ⟨_, h.2, h.1, rfl⟩
      · exact ⟨_, h.2.2.2, h.1, h.2.1, h.2.2.1, rfl⟩
    · exact h.elim
  · rename_i o off
    split at h
    · rename_i n s g cs ht hcs
      rw [← he o (by simp [objs])] at hcs
      simp only [ht, hcs]
      split at h
      · exact ⟨_, h.2.2, h.1, h.2.1, rfl⟩
      · exact h.elim
    · exact h.elim
  · split at h
    · exact ⟨_, h.2.2.2, h.1, h.2.1, h.2.2.1, rfl⟩
    · exact h.elim
  · exact h.elim
theorem taK_pick {t : TypeId} {x : AV} (h : taK P t x K) : ∃ v, K v ∧ taK P t x (· = v) := by
  unfold taK at h
  split at h <;> first | exact h.elim | exact ⟨_, h.2.2, h.1, h.2.1, rfl⟩
theorem ifK_pick {t : TypeId} {x : AV} (h : ifK P t x K) : ∃ v, K v ∧ ifK P t x (· = v) := by
  unfold ifK at h
  split at h <;> first | exact h.elim | exact ⟨_, h.2, h.1, rfl⟩
theorem lenK_pick {x : AV} {t : TypeId} (h : lenK x P t K) : ∃ v, K v ∧ lenK x P t (· = v) := by
  unfold lenK at h
  split at h <;> first | exact h.elim | exact ⟨_, h.2, h.1, rfl⟩
theorem minmaxK_pick {mx : Bool} {r : List AV} : ∀ {x : AV}, minmaxK mx x r K → ∃ v, K v ∧ minmaxK mx x r (· = v) := by
  induction r with
  | nil =>
    intro x h
    unfold minmaxK at h
    split at h
    · exact ⟨_, h, rfl⟩
    · exact h.elim
  | cons y r ih =>
    intro x h
    unfold minmaxK at h
    split at h
    · rename_i h1; cases h1
    · rename_i k a k' b r' hy
      injection hy with hy1 hy2; subst hy1; subst hy2
      obtain ⟨v, h1, h2⟩ := ih h
      exact ⟨v, h1, h2⟩
    · exact h.elim
theorem buildK_pick {t : TypeId} {parts : List (Nat × AV)} (h : buildK P t parts K) : ∃ v, K v ∧ buildK P t parts (· = v) := by
  unfold buildK at *
  split at h
  · split at h
    · exact ⟨_, h, rfl⟩
    · exact h.elim
  · exact h.elim

variable {W : AV → Heap → Prop} {nid : Nat}
theorem srcK_pick {x : AV} {s : Nat} {Kn : Nat → List AV → Prop} (h : srcK x s σ Kn) (he : ∀ q, q ∈ objs x → σ'.get q = σ.get q) :
    ∃ n new, Kn n new ∧ ∀ Kn' : Nat → List AV → Prop, Kn' n new → srcK x s σ' Kn' := by
  unfold srcK at *
  split at h
  · exact ⟨_, _, h.2, fun K' hk => ⟨h.1, hk⟩⟩
  · rename_i o sz off n
    obtain ⟨h1, h⟩ := h
    split at h
    · rename_i cs hcs
      rw [← he o (by simp [objs])] at hcs
      exact ⟨_, _, h.2, fun K' hk => ⟨h1, by simp only [hcs]; exact ⟨h.1, hk⟩⟩⟩
    · exact h.elim
  · exact ⟨_, _, h.2, fun K' hk => ⟨h.1, hk⟩⟩
  · exact h.elim
theorem storeK_pick {t : TypeId} {a x : AV} (h : storeK P t a x σ W) (he : ∀ q, q ∈ objs a → σ'.get q = σ.get q) : ∃ v us, W v us ∧ storeK P t a x σ' (fun v' us' => v' = v ∧ us' = us) := by
  unfold storeK at *
  split at h
  · rename_i o off s g ht
    split at h
    · rename_i cs hcs
      rw [← he o (by simp [objs])] at hcs
      refine ⟨_, _, h.2, ?_⟩
      simp only [hcs]
      exact ⟨h.1, by simp⟩
    · exact h.elim
  · exact h.elim
theorem appendK_pick {t xt : TypeId} {a x : AV} (h : appendK P t xt a x σ nid W) (he : ∀ q, q ∈ objs a ∨ q ∈ objs x → σ'.get q = σ.get q) :
    ∃ v us, W v us ∧ appendK P t xt a x σ' nid (fun v' us' => v' = v ∧ us' = us) := by
  unfold appendK at *
  split at h
  · obtain ⟨h0, h⟩ := h
    obtain ⟨n, new, h1, h2⟩ := srcK_pick h fun q hq => he q (.inr hq)
    split at h1
    · obtain ⟨h3, h4, h5⟩ := h1
      rcases Nat.eq_zero_or_pos n with hn | hn
      · exact ⟨_, _, h4 hn, h0, h2 _ ⟨h3, fun _ => ⟨rfl, rfl⟩, fun h => by omega⟩⟩
      · exact ⟨_, _, h5 hn, h0, h2 _ ⟨h3, fun h => by omega, fun _ => ⟨rfl, rfl⟩⟩⟩
    · rename_i o sz off len
      split at h1
      · rename_i cs hcs
        rw [← he o (.inl (by simp [objs]))] at hcs
        obtain ⟨h3, h4, h5⟩ := h1
        rcases Nat.eq_zero_or_pos n with hn | hn
        · exact ⟨_, _, h4 hn, h0, h2 _ (by simp only [hcs]; exact ⟨h3, fun _ => by simp, fun h => by omega⟩)⟩
        · exact ⟨_, _, h5 hn, h0, h2 _ (by simp only [hcs]; exact ⟨h3, fun h => by omega, fun _ => by simp⟩)⟩
      · exact h1.elim
    · exact h1.elim
  · exact h.elim
theorem copyK_pick {t : TypeId} {a x : AV} (h : copyK P t a x σ W) (he : ∀ q, q ∈ objs a ∨ q ∈ objs x → σ'.get q = σ.get q) :
    ∃ v us, W v us ∧ copyK P t a x σ' (fun v' us' => v' = v ∧ us' = us) := by
  unfold copyK at *
  split at h
  · obtain ⟨h0, h⟩ := h
    rename_i o sz off len _
    obtain ⟨n, new, h1, h2⟩ := srcK_pick h fun q hq => he q (.inr hq)
    split at h1
    · rename_i cs hcs
      rw [← he o (.inl (by simp [objs]))] at hcs
      exact ⟨_, _, h1.2, h0, h2 _ (by simp only [hcs]; exact ⟨h1.1, by simp⟩)⟩
    · exact h1.elim
  · exact h.elim
theorem strBytesK_pick {s d : TypeId} {x : AV} (h : strBytesK P s d x W) : ∃ v us, W v us ∧ strBytesK P s d x (fun v' us' => v' = v ∧ us' = us) := by
  unfold strBytesK at *
  split at h
  · exact ⟨_, _, h.2, h.1, rfl, rfl⟩
  · exact h.elim
theorem buildSliceK_pick {t : TypeId} {len : Nat} {parts : List (Nat × AV)} (h : buildSliceK P t len parts nid W) : ∃ v us, W v us ∧ buildSliceK P t len parts nid (fun v' us' => v' = v ∧ us' = us) := by
  unfold buildSliceK at *
  split at h
  · obtain ⟨h0, h⟩ := h
    split at h
    · rename_i cs hcs; exact ⟨_, _, h, h0, by simp only [hcs]; simp⟩
    · exact h.elim
  · exact h.elim
theorem makeSliceK_pick {t : TypeId} {n c : AV} (h : makeSliceK P t n c nid W) : ∃ v us, W v us ∧ makeSliceK P t n c nid (fun v' us' => v' = v ∧ us' = us) := by
  unfold makeSliceK at *
  split at h
  · exact ⟨_, _, h.2, h.1, rfl, rfl⟩
  · exact h.elim
theorem allocK_pick {t : TypeId} (h : allocK P t nid W) : ∃ v us, W v us ∧ allocK P t nid (fun v' us' => v' = v ∧ us' = us) := by
  unfold allocK at *
  split at h
  · exact ⟨_, _, h, rfl, rfl⟩
  · split at h
    · split at h
      · exact ⟨_, _, h, rfl, rfl⟩
      · exact h.elim
    · exact h.elim
theorem callK_pick {c : Option (FuncId × List AV)} (h : callK P c σ W) : ∃ v us, W v us ∧ ∀ σ' : Heap, (∀ q, q ∈ keys us → σ'.get q = σ.get q) → callK P c σ' (fun v' us' => v' = v ∧ us' = us) := by
  obtain ⟨f, as, Z, ps, r, h1, h2, h3, h4, h5, h6⟩ := h
  refine ⟨_, _, h6, fun σ' he => ?_⟩
  have he' : ∀ o, o ∈ Z → σ'.get o = σ.get o := fun o ho => he o (by simp [keys]; exact ho)
  refine ⟨f, as, Z, ps, r, h1, h2, fun o ho => by rw [he' o ho]; exact h3 o ho, h4.local he', h5, rfl, ?_⟩
  apply List.map_congr_left
  intro o ho
  rw [he' o ho]

theorem map_agree {ev ev' : Operand → AV} {l : List Operand} (h : ∀ x ∈ l, ev' x = ev x) : l.map ev' = l.map ev := List.map_congr_left h
theorem opt_agree {ev ev' : Operand → AV} {l : Option Operand} (h : ∀ x, l = some x → ev' x = ev x) : l.map ev' = l.map ev := by
  cases l with
  | none => rfl
  | some x => simp [h x rfl]
theorem parts_agree {ev ev' : Operand → AV} {l : List (Nat × Operand)} (h : ∀ x ∈ l.map (·.2), ev' x = ev x) : l.map (fun y => (y.1, ev' y.2)) = l.map fun y => (y.1, ev y.2) :=
  List.map_congr_left fun y hy => by rw [h y.2 (List.mem_map.2 ⟨y, hy, rfl⟩)]

theorem qK_pick {op : Op} {ev ev' : Operand → AV} (h : qK P op ev σ K) (hev : ∀ x ∈ op.operands.toList, ev' x = ev x)
    (he : ∀ q, q ∈ (op.operands.toList.map ev).flatMap objs → σ'.get q = σ.get q) : ∃ v, K v ∧ qK P op ev' σ' (· = v) := by
  cases op <;> simp only [qK] at h ⊢ <;> try exact h.elim
  case move x => exact ⟨_, h, hev x (by simp [Op.operands])⟩
  case assign x => exact ⟨_, h, hev x (by simp [Op.operands])⟩
  case pick c a b => rw [hev c (by simp [Op.operands]), hev a (by simp [Op.operands]), hev b (by simp [Op.operands])]; exact pickK_pick h
  case field t x f => rw [hev x (by simp [Op.operands])]; exact fieldK_pick h
  case load t a => rw [hev a (by simp [Op.operands])]; exact loadK_pick h fun q hq => he q (by simp [Op.operands, hq])
  case nilCheck x => rw [hev x (by simp [Op.operands])]; exact nilK_pick h
  case fieldAddr t x f => rw [hev x (by simp [Op.operands])]; exact faK_pick h
  case indexAddr t x i => rw [hev x (by simp [Op.operands]), hev i (by simp [Op.operands])]; exact iaK_pick h
  case index t x i => rw [hev x (by simp [Op.operands]), hev i (by simp [Op.operands])]; exact ixK_pick h
  case binOp op t x y _ => rw [hev x (by simp [Op.operands]), hev y (by simp [Op.operands])]; exact binK_pick h
  case unOp op _ x => rw [hev x (by simp [Op.operands])]; exact unK_pick h
  case extract x i => rw [hev x (by simp [Op.operands])]; exact exK_pick h
  case convert s d x => rw [hev x (by simp [Op.operands])]; exact convK_pick h fun q hq => he q (by simp [Op.operands, hq])
  case makeFunc f a b =>
    rw [map_agree (l := a.toList) (fun x hx => hev x (by simp [Op.operands, Array.mem_toList_iff.1 hx])), map_agree (l := b.toList) (fun x hx => hev x (by simp [Op.operands, Array.mem_toList_iff.1 hx]))]
    exact ⟨_, h, rfl⟩
  case slice t x lo hi mx =>
    rw [hev x (by simp [Op.operands]), opt_agree (l := lo) (fun y hy => hev y (by simp [Op.operands, hy])), opt_agree (l := hi) (fun y hy => hev y (by simp [Op.operands, hy])),
      opt_agree (l := mx) (fun y hy => hev y (by simp [Op.operands, hy]))]
    exact slK_pick h fun q hq => he q (by simp [Op.operands, hq])
  case makeInterface t x => rw [hev x (by simp [Op.operands])]; exact ifK_pick h
  case typeAssert x xt t c =>
    cases c with
    | false => simp only at h ⊢; rw [hev x (by simp [Op.operands])]; exact taK_pick h
    | true => exact h.elim
  case build t parts =>
    rw [parts_agree (l := parts.toList) (fun x hx => hev x (by simpa [Op.operands] using hx))]
    exact buildK_pick h
  case call c =>
    obtain ⟨callee, args, ats⟩ := c
    cases callee with
    | builtin b =>
      have hev' : ∀ x ∈ args.toList, ev' x = ev x := fun x hx => hev x (by simp [Op.operands, Call.operands, Array.mem_toList_iff.1 hx])
      cases b <;> simp only [] at h ⊢ <;> try exact h.elim
      · split at h
        · rename_i x t hx ht
          rw [hev' x (by rw [hx]; simp)]; exact lenK_pick h
        · exact h.elim
      · split at h
        · rename_i x r hx
          rw [hev' x (by rw [hx]; simp), map_agree (l := r) (fun y hy => hev' y (by rw [hx]; simp [hy]))]; exact minmaxK_pick h
        · exact h.elim
      · split at h
        · rename_i x r hx
          rw [hev' x (by rw [hx]; simp), map_agree (l := r) (fun y hy => hev' y (by rw [hx]; simp [hy]))]; exact minmaxK_pick h
        · exact h.elim
    | value f => exact h.elim
    | invoke x m => exact h.elim

theorem wK_pick {op : Op} {ev ev' : Operand → AV} (h : wK P op ev σ nid W) (hev : ∀ x ∈ op.operands.toList, ev' x = ev x)
    (he : ∀ q, q ∈ (op.operands.toList.map ev).flatMap objs → σ'.get q = σ.get q) : ∃ v us, W v us ∧ wK P op ev' σ' nid (fun v' us' => v' = v ∧ us' = us) := by
  cases op <;> simp only [wK] at h ⊢ <;> try exact h.elim
  case alloc t => exact allocK_pick h
  case box t x => rw [hev x (by simp [Op.operands])]; exact ⟨_, _, h.2, h.1, rfl, rfl⟩
  case store t a x => rw [hev x (by simp [Op.operands]), hev a (by simp [Op.operands])]; exact storeK_pick h fun q hq => he q (by simp [Op.operands, hq])
  case buildSlice t n parts =>
    rw [parts_agree (l := parts.toList) (fun x hx => hev x (by simpa [Op.operands] using hx))]
    exact buildSliceK_pick h
  case makeSlice t n c => rw [hev n (by simp [Op.operands]), hev c (by simp [Op.operands])]; exact makeSliceK_pick h
  case convert s d x => rw [hev x (by simp [Op.operands])]; exact strBytesK_pick h
  case call c =>
    obtain ⟨callee, args, ats⟩ := c
    split at h
    · rename_i x y t xt hcl harg h1 h2
      simp only at harg h1 h2
      have hx : ∀ z ∈ [x, y], ev' z = ev z := fun z hz => hev z (by simp only [Op.operands, Call.operands]; simp; right; rw [← Array.mem_toList_iff, harg]; exact hz)
      rw [hx x (by simp), hx y (by simp)]
      exact appendK_pick h fun q hq => he q (by simp only [Op.operands, Call.operands]; simp [harg]; right; exact hq)
    · rename_i x y t hcl harg h1
      simp only at harg h1
      have hx : ∀ z ∈ [x, y], ev' z = ev z := fun z hz => hev z (by simp only [Op.operands, Call.operands]; simp; right; rw [← Array.mem_toList_iff, harg]; exact hz)
      rw [hx x (by simp), hx y (by simp)]
      exact copyK_pick h fun q hq => he q (by simp only [Op.operands, Call.operands]; simp [harg]; right; exact hq)
    · exact h.elim

theorem callI_pick {c : Option (FuncId × List AV)} (h : callI P c σ nid W) : ∃ v us, W v us ∧ ∀ σ' : Heap, (∀ q, q ∈ keys us → σ'.get q = σ.get q) → callI P c σ' nid (fun v' us' => v' = v ∧ us' = us) := by
  obtain ⟨f, as, as0, σ0, r, σ1, ρ, hc, hent, has, hnd, hlive, hsame, hdead, hcov, hbd, hcall, hK⟩ := h
  refine ⟨_, _, hK, fun σ' he => ?_⟩
  have hk : ∀ i, i < ρ.length → σ'.get (ρ.getD i 0) = σ.get (ρ.getD i 0) := fun i hi => he _ (by
    rw [keys_ren]; exact List.mem_map.2 ⟨i, hcov i hi, if_pos hi⟩)
  refine ⟨f, as, as0, σ0, r, σ1, ρ, hc, hent, has, hnd, fun o ho => ?_, fun i hi => (hk i hi).trans (hsame i hi), hdead, hcov, hbd, hcall, rfl, rfl⟩
  obtain ⟨i, hi, rfl⟩ := List.getElem_of_mem ho
  have : ρ.getD i 0 = ρ[i] := by rw [List.getD_eq_getElem?_getD, List.getElem?_eq_getElem hi]; rfl
  rw [← this, hk i hi, this]; exact hlive _ ho
theorem callX_pick {c : Option (FuncId × List AV)} (h : callX P c σ nid W) : ∃ v us, W v us ∧ ∀ σ' : Heap, (∀ q, q ∈ keys us → σ'.get q = σ.get q) → callX P c σ' nid (fun v' us' => v' = v ∧ us' = us) := by
  rcases h.h with h | h | h
  · obtain ⟨v, us, h1, h2⟩ := callK_pick h
    exact ⟨v, us, h1, fun σ' he => ⟨.inl (h2 σ' he)⟩⟩
  · obtain ⟨v, us, h1, h2⟩ := callI_pick h
    exact ⟨v, us, h1, fun σ' he => ⟨.inr (.inl (h2 σ' he))⟩⟩
  · obtain ⟨f, a1, a2, o1, s1, i1, n1, o2, s2, i2, n2, l1, l2, hc, hf, e1, e2, hne, g1, g2, h0, hl, hK⟩ := h
    exact ⟨_, _, hK, fun σ' he => ⟨.inr (.inr ⟨f, a1, a2, o1, s1, i1, n1, o2, s2, i2, n2, l1, l2, hc, hf, e1, e2, hne, (he o1 (by simp [keys])).trans g1, (he o2 (by simp [keys])).trans g2, h0, hl, rfl, rfl⟩)⟩⟩

/-! ### Rows -/
theorem rowIx_pick {t : TypeId} {x i : AV} (h : rowIx P t x i K) : ∃ v, K v ∧ rowIx P t x i (· = v) := by
  cases x with
  | rsl o sz i0 len => simp only [rowIx] at *; split at h <;> first | exact h.elim | exact ⟨_, h.2, h.1, rfl⟩
  | eptr o sz i0 j => simp only [rowIx] at *; split at h <;> first | exact h.elim | exact ⟨_, h.2, h.1, rfl⟩
  | _ => simp only [rowIx] at h ⊢; exact iaK_pick h
theorem rowLoad_pick {t : TypeId} {a : AV} (h : rowLoad P t a σ K) (he : ∀ q, q ∈ objs a → σ'.get q = σ.get q) : ∃ v, K v ∧ rowLoad P t a σ' (· = v) := by
  cases a with
  | eptr o sz i j =>
    simp only [rowLoad] at *
    rw [he o (by simp [objs])]
    split at h
    · split at h
      · obtain ⟨h1, h2⟩ := h
        have hi := h1.2.2.2.2
        obtain ⟨v, h3, h4⟩ := partP_pick (h2 _ (List.getElem?_eq_getElem hi))
        refine ⟨v, h3, h1, fun p hp => ?_⟩
        rw [List.getElem?_eq_getElem hi] at hp; injection hp with hp; rw [← hp]; exact h4
      · exact ⟨_, h.2, h.1, rfl⟩
    · exact h.elim
  | _ => simp only [rowLoad] at h ⊢; exact loadK_pick h he
theorem rowFa_pick {t f : Nat} {x : AV} (h : rowFa P t f x K) : ∃ v, K v ∧ rowFa P t f x (· = v) := by
  cases x with
  | eptr o sz i0 j => simp only [rowFa] at *; split at h <;> first | exact h.elim | exact ⟨_, h.2, h.1, rfl⟩
  | _ => simp only [rowFa] at h ⊢; exact faK_pick h
theorem rowNil_pick {x : AV} (h : rowNil x K) : ∃ v, K v ∧ rowNil x (· = v) := by
  cases x with
  | eptr o sz i0 j => exact ⟨_, h, rfl⟩
  | _ => simp only [rowNil] at h ⊢; exact nilK_pick h
theorem rowConv_pick {s d : TypeId} {x : AV} (h : rowConv P s d x σ K) (he : ∀ q, q ∈ objs x → σ'.get q = σ.get q) : ∃ v, K v ∧ rowConv P s d x σ' (· = v) := by
  cases x with
  | rsl o sz i len =>
    simp only [rowConv] at *
    rw [he o (by simp [objs])]
    split at h
    · obtain ⟨h1, h⟩ := h
      split at h
      · obtain ⟨h2, q, h3, h4⟩ := h
        exact ⟨_, h4, h1, h2, q, h3, rfl⟩
      · exact h.elim
    · exact h.elim
  | _ => simp only [rowConv] at h ⊢; exact convK_pick h he
theorem rowSl_pick {t : TypeId} {x : AV} {lo hi mx : Option AV} (h : rowSl P t x lo hi mx σ K) (he : ∀ q, q ∈ objs x → σ'.get q = σ.get q) : ∃ v, K v ∧ rowSl P t x lo hi mx σ' (· = v) := by
  cases x with
  | rsl o sz i len =>
    simp only [rowSl] at *
    split at h
    · split at h
      · exact ⟨_, h.2, h.1, rfl⟩
      · exact ⟨_, h.2.2.2, h.1, h.2.1, h.2.2.1, rfl⟩
    · exact h.elim
  | eptr o sz i j =>
    simp only [rowSl] at *
    rw [he o (by simp [objs])]
    split at h
    · split at h
      · exact ⟨_, h.2, h.1, rfl⟩
      · exact h.elim
    · exact h.elim
  | _ => simp only [rowSl] at h ⊢; exact slK_pick h he
theorem rowLen_pick {x : AV} {t : TypeId} (h : rowLen x P t K) : ∃ v, K v ∧ rowLen x P t (· = v) := by
  cases x with
  | rsl o sz i len => exact ⟨_, h.2, h.1, rfl⟩
  | _ => simp only [rowLen] at h ⊢; exact lenK_pick h
theorem xQ_pick {op : Op} {ev ev' : Operand → AV} (h : xQ P op ev σ K) (hev : ∀ x ∈ op.operands.toList, ev' x = ev x)
    (he : ∀ q, q ∈ (op.operands.toList.map ev).flatMap objs → σ'.get q = σ.get q) : ∃ v, K v ∧ xQ P op ev' σ' (· = v) := by
  cases op <;> simp only [xQ] at h ⊢
  case load t a => rw [hev a (by simp [Op.operands])]; exact rowLoad_pick h fun q hq => he q (by simp [Op.operands, hq])
  case nilCheck x => rw [hev x (by simp [Op.operands])]; exact rowNil_pick h
  case fieldAddr t x f => rw [hev x (by simp [Op.operands])]; exact rowFa_pick h
  case indexAddr t x i => rw [hev x (by simp [Op.operands]), hev i (by simp [Op.operands])]; exact rowIx_pick h
  case convert s d x => rw [hev x (by simp [Op.operands])]; exact rowConv_pick h fun q hq => he q (by simp [Op.operands, hq])
  case slice t x lo hi mx =>
    rw [hev x (by simp [Op.operands]), opt_agree (l := lo) (fun y hy => hev y (by simp [Op.operands, hy])), opt_agree (l := hi) (fun y hy => hev y (by simp [Op.operands, hy])),
      opt_agree (l := mx) (fun y hy => hev y (by simp [Op.operands, hy]))]
    exact rowSl_pick h fun q hq => he q (by simp [Op.operands, hq])
  case call c =>
    obtain ⟨callee, args, ats⟩ := c
    cases callee with
    | builtin b =>
      have hev' : ∀ x ∈ args.toList, ev' x = ev x := fun x hx => hev x (by simp [Op.operands, Call.operands, Array.mem_toList_iff.1 hx])
      cases b with
      | len =>
        simp only [] at h ⊢
        split at h
        · rename_i x t hx ht
          rw [hev' x (by rw [hx]; simp)]; exact rowLen_pick h
        · exact h.elim
      | _ => exact qK_pick h hev he
    | _ => exact qK_pick h hev he
  all_goals exact qK_pick h hev he

theorem rowAlloc_pick {t : TypeId} (h : rowAlloc P t nid W) : ∃ v us, W v us ∧ rowAlloc P t nid (fun v' us' => v' = v ∧ us' = us) := by
  unfold rowAlloc at *
  split at h
  · exact ⟨_, _, h, rfl, rfl⟩
  · exact allocK_pick h
theorem rowBox_pick {t : TypeId} {x : AV} (h : rowBox P t x nid W) : ∃ v us, W v us ∧ rowBox P t x nid (fun v' us' => v' = v ∧ us' = us) := by
  unfold rowBox at *
  split at h
  · split at h
    · exact ⟨_, _, h.2, h.1, rfl, rfl⟩
    · exact h.elim
  · exact ⟨_, _, h.2, h.1, rfl, rfl⟩
theorem rowStore_pick {t : TypeId} {a x : AV} (h : rowStore P t a x σ W) (he : ∀ q, q ∈ objs a → σ'.get q = σ.get q) : ∃ v us, W v us ∧ rowStore P t a x σ' (fun v' us' => v' = v ∧ us' = us) := by
  cases a with
  | eptr o sz i j =>
    simp only [rowStore] at *
    rw [he o (by simp [objs])]
    split at h
    · split at h
      · split at h
        · exact ⟨_, _, h.2, h.1, rfl, rfl⟩
        · obtain ⟨h1, h2⟩ := h
          have hi := h1.2.2.2.1
          have h3 := h2 _ (List.getElem?_eq_getElem hi)
          split at h3
          · rename_i cs hcs
            refine ⟨_, _, h3, h1, fun p hp => ?_⟩
            rw [List.getElem?_eq_getElem hi, hcs] at hp; injection hp with hp; subst hp
            exact ⟨rfl, rfl⟩
          · exact h3.elim
        · split at h
          · exact ⟨_, _, h.2, h.1, rfl, rfl⟩
          · exact h.elim
      · exact h.elim
    · exact h.elim
  | _ => simp only [rowStore] at h ⊢; exact storeK_pick h he
theorem rowBuildSlice_pick {t : TypeId} {len : Nat} {parts : List (Nat × AV)} (h : rowBuildSlice P t len parts nid W) : ∃ v us, W v us ∧ rowBuildSlice P t len parts nid (fun v' us' => v' = v ∧ us' = us) := by
  unfold rowBuildSlice at *
  split at h
  · split at h
    · split at h
      · exact ⟨_, _, h.2, h.1, rfl, rfl⟩
      · exact h.elim
    · exact buildSliceK_pick h
  · exact buildSliceK_pick h
theorem rowMake_pick {t : TypeId} {n c : AV} (h : rowMake P t n c nid W) : ∃ v us, W v us ∧ rowMake P t n c nid (fun v' us' => v' = v ∧ us' = us) := by
  unfold rowMake at *
  split at h
  · exact ⟨_, _, h.2.2, h.1, h.2.1, rfl, rfl⟩
  · exact h.elim
theorem rowSrc_pick {x : AV} {s : Nat} {Kn : Nat → List PV → Prop} (h : rowSrc x s σ Kn) (he : ∀ q, q ∈ objs x → σ'.get q = σ.get q) :
    ∃ n new, Kn n new ∧ ∀ Kn' : Nat → List PV → Prop, Kn' n new → rowSrc x s σ' Kn' := by
  unfold rowSrc at *
  split at h
  · exact ⟨_, _, h.2, fun K' hk => ⟨h.1, hk⟩⟩
  · rename_i o sz i n
    obtain ⟨h1, h⟩ := h
    simp only [he o (by simp [objs])]
    split at h
    · exact ⟨_, _, h.2, fun K' hk => ⟨h1, h.1, hk⟩⟩
    · exact h.elim
  · exact ⟨_, _, h.2, fun K' hk => ⟨h.1, hk⟩⟩
  · exact h.elim
theorem rowAppend_pick {t xt : TypeId} {a x : AV} (h : rowAppend P t xt a x σ nid W) (he : ∀ q, q ∈ objs a ∨ q ∈ objs x → σ'.get q = σ.get q) :
    ∃ v us, W v us ∧ rowAppend P t xt a x σ' nid (fun v' us' => v' = v ∧ us' = us) := by
  unfold rowAppend at *
  split at h
  · exact appendK_pick h he
  · split at h
    · obtain ⟨h0, h⟩ := h
      obtain ⟨n, new, h1, h2⟩ := rowSrc_pick h fun q hq => he q (.inr hq)
      split at h1
      · rename_i o sz i len _
        split at h1
        · rename_i sz' l hcs
          rw [← he o (.inl (by simp [objs]))] at hcs
          exact ⟨_, _, h1.2, h0, h2 _ (by simp only [hcs]; exact ⟨h1.1, by simp⟩)⟩
        · exact h1.elim
      · obtain ⟨h3, h4, h5⟩ := h1
        rcases Nat.eq_zero_or_pos n with hn | hn
        · exact ⟨_, _, h4 hn, h0, h2 _ ⟨h3, fun _ => ⟨rfl, rfl⟩, fun h => by omega⟩⟩
        · exact ⟨_, _, h5 hn, h0, h2 _ ⟨h3, fun h => by omega, fun _ => ⟨rfl, rfl⟩⟩⟩
      · exact h1.elim
    · exact h.elim
theorem rowCopy_pick {t : TypeId} {a x : AV} (h : rowCopy P t a x σ W) (he : ∀ q, q ∈ objs a ∨ q ∈ objs x → σ'.get q = σ.get q) :
    ∃ v us, W v us ∧ rowCopy P t a x σ' (fun v' us' => v' = v ∧ us' = us) := by
  cases a with
  | rsl o sz i len =>
    simp only [rowCopy] at *
    split at h
    · obtain ⟨h0, h⟩ := h
      obtain ⟨n, new, h1, h2⟩ := rowSrc_pick h fun q hq => he q (.inr hq)
      split at h1
      · rename_i sz' l hcs
        rw [← he o (.inl (by simp [objs]))] at hcs
        exact ⟨_, _, h1.2, h0, h2 _ (by simp only [hcs]; exact ⟨h1.1, by simp⟩)⟩
      · exact h1.elim
    · exact h.elim
  | _ => simp only [rowCopy] at h ⊢; exact copyK_pick h he
theorem xW_pick {op : Op} {ev ev' : Operand → AV} (h : xW P op ev σ nid W) (hev : ∀ x ∈ op.operands.toList, ev' x = ev x)
    (he : ∀ q, q ∈ (op.operands.toList.map ev).flatMap objs → σ'.get q = σ.get q) : ∃ v us, W v us ∧ xW P op ev' σ' nid (fun v' us' => v' = v ∧ us' = us) := by
  cases op <;> simp only [xW] at h ⊢
  case alloc t => exact rowAlloc_pick h
  case box t x => rw [hev x (by simp [Op.operands])]; exact rowBox_pick h
  case store t a x => rw [hev x (by simp [Op.operands]), hev a (by simp [Op.operands])]; exact rowStore_pick h fun q hq => he q (by simp [Op.operands, hq])
  case buildSlice t n parts =>
    rw [parts_agree (l := parts.toList) (fun x hx => hev x (by simpa [Op.operands] using hx))]
    exact rowBuildSlice_pick h
  case makeSlice t n c => rw [hev n (by simp [Op.operands]), hev c (by simp [Op.operands])]; exact rowMake_pick h
  case call c =>
    obtain ⟨callee, args, ats⟩ := c
    split at h
    · rename_i x y t xt hcl harg h1 h2
      simp only at harg h1 h2
      have hx : ∀ z ∈ [x, y], ev' z = ev z := fun z hz => hev z (by simp only [Op.operands, Call.operands]; simp; right; rw [← Array.mem_toList_iff, harg]; exact hz)
      rw [hx x (by simp), hx y (by simp)]
      exact rowAppend_pick h fun q hq => he q (by simp only [Op.operands, Call.operands]; simp [harg]; right; exact hq)
    · rename_i x y t hcl harg h1
      simp only at harg h1
      have hx : ∀ z ∈ [x, y], ev' z = ev z := fun z hz => hev z (by simp only [Op.operands, Call.operands]; simp; right; rw [← Array.mem_toList_iff, harg]; exact hz)
      rw [hx x (by simp), hx y (by simp)]
      exact rowCopy_pick h fun q hq => he q (by simp only [Op.operands, Call.operands]; simp [harg]; right; exact hq)
    · exact h.elim
  all_goals exact wK_pick h hev he

/-! ### Structs, maps, capacities -/
theorem objs_uc (a : AV) : objs (uc a) = objs a := by cases a <;> rfl
theorem objs_ucm (l : List Operand) (ev : Operand → AV) : (l.map fun x => uc (ev x)).flatMap objs = (l.map ev).flatMap objs := by
  induction l with
  | nil => rfl
  | cons x l ih => simp [ih, objs_uc]
theorem zAV_pick {t : TypeId} (h : zAV P t K) : ∃ v, K v ∧ zAV P t (· = v) := by
  unfold zAV at *
  split at h
  · split at h
    · exact ⟨_, h, rfl⟩
    · exact h.elim
  · exact h.elim
theorem zAV_mono {t : TypeId} {K' : AV → Prop} (h : zAV P t K) (hk : ∀ v, K v → K' v) : zAV P t K' := by
  unfold zAV at *
  split at h
  · split at h
    · exact hk _ h
    · exact h.elim
  · exact h.elim
theorem lookK_pick {t : TypeId} {ok : Bool} {kt : KT} {m : List (PV × PV)} {k : AV} (h : lookK P t ok kt m k K) : ∃ v, K v ∧ lookK P t ok kt m k (· = v) := by
  unfold lookK at *
  split at h
  · rename_i kt' e key hT
    obtain ⟨h0, h⟩ := h
    cases ok with
    | true =>
      simp only at h ⊢
      cases hf : mfind key m with
      | none =>
        obtain ⟨z, h1, h2⟩ := zAV_pick (h.n hf)
        exact ⟨_, h1, h0, ⟨fun v e => (by cases e), fun _ => zAV_mono h2 fun v e => by rw [e]⟩⟩
      | some v => exact ⟨_, h.s v hf, h0, ⟨fun u e => by injection e with e; rw [e], fun e => by cases e⟩⟩
    | false =>
      simp only at h ⊢
      cases hf : mfind key m with
      | none =>
        obtain ⟨z, h1, h2⟩ := zAV_pick (h.n hf)
        exact ⟨_, h1, h0, ⟨fun v e => (by cases e), fun _ => h2⟩⟩
      | some v => exact ⟨_, h.s v hf, h0, ⟨fun u e => by injection e with e; rw [e], fun e => by cases e⟩⟩
  · exact h.elim
theorem lookupK_pick {t : TypeId} {x k : AV} {ok : Bool} (h : lookupK P t x k ok σ K) (he : ∀ q, q ∈ objs x → σ'.get q = σ.get q) : ∃ v, K v ∧ lookupK P t x k ok σ' (· = v) := by
  cases x with
  | mp o =>
    simp only [lookupK] at *
    rw [he o (by simp [objs])]
    split at h
    · exact lookK_pick h
    · exact h.elim
  | p q =>
    cases q with
    | mp kt m => simp only [lookupK] at *; exact lookK_pick h
    | _ => exact h.elim
  | _ => exact h.elim
theorem capK_pick {t : TypeId} {x : AV} (h : capK P t x K) : ∃ v, K v ∧ capK P t x (· = v) := by
  unfold capK at *
  split at h
  · exact ⟨_, h.2, h.1, rfl⟩
  · exact h.elim
theorem cslSl_pick {t : TypeId} {o sz i len cap : Nat} {lo hi mx : Option AV} (h : cslSl P t o sz i len cap lo hi mx K) : ∃ v, K v ∧ cslSl P t o sz i len cap lo hi mx (· = v) := by
  unfold cslSl at *
  split at h
  · exact ⟨_, h.2, h.1, rfl⟩
  · exact h.elim
theorem eqF1_pick {p q : PV} {K : Bool → Prop} (h : eqF1 p q K) : ∃ v, K v ∧ ∀ K' : Bool → Prop, K' v → eqF1 p q K' := by
  cases p <;> cases q <;> first | exact h.elim | exact ⟨_, h, fun _ h => h⟩
theorem eqF_pick : ∀ {a b : List PV} {K : Bool → Prop}, eqF a b K → ∃ v, K v ∧ ∀ K' : Bool → Prop, K' v → eqF a b K'
  | [], [], K, h => ⟨_, h, fun _ h => h⟩
  | [], _ :: _, K, h => h.elim
  | _ :: _, [], K, h => h.elim
  | p :: r, q :: s, K, h => by
    obtain ⟨v, h1, h2⟩ := eqF1_pick h
    cases r with
    | nil =>
      cases s with
      | nil => exact ⟨v, h1, fun K' h => h2 _ h⟩
      | cons _ _ => exact h1.elim
    | cons x r =>
      obtain ⟨u, h3, h4⟩ := eqF_pick (a := x :: r) (b := s) h1
      exact ⟨_, h3, fun K' h => h2 _ (h4 _ h)⟩
theorem eqAgg_pick {op : BinOp} {t : TypeId} {a b : List PV} (h : eqAgg P op t a b K) : ∃ v, K v ∧ eqAgg P op t a b (· = v) := by
  unfold eqAgg at *
  split at h
  · obtain ⟨h0, h⟩ := h
    cases op <;> simp only at h ⊢ <;> try exact h.elim
    · obtain ⟨v, h1, h2⟩ := eqF_pick h; exact ⟨_, h1, h0, h2 _ rfl⟩
    · obtain ⟨v, h1, h2⟩ := eqF_pick h; exact ⟨_, h1, h0, h2 _ rfl⟩
  · exact h.elim
theorem yLen_pick {t : TypeId} {x : AV} (h : yLen P t x σ K) (he : ∀ q, q ∈ objs x → σ'.get q = σ.get q) : ∃ v, K v ∧ yLen P t x σ' (· = v) := by
  cases x with
  | mp o =>
    simp only [yLen] at *
    rw [he o (by simp [objs])]
    split at h
    · exact ⟨_, h.2, h.1, rfl⟩
    · exact h.elim
  | p q =>
    cases q with
    | mp kt m => simp only [yLen] at *; exact ⟨_, h.2, h.1, rfl⟩
    | _ => unfold yLen at *; exact rowLen_pick h
  | _ => unfold yLen at *; exact rowLen_pick h
theorem yQ_pick {op : Op} {ev ev' : Operand → AV} (h : yQ P op ev σ K) (hev : ∀ x ∈ op.operands.toList, ev' x = ev x)
    (he : ∀ q, q ∈ (op.operands.toList.map ev).flatMap objs → σ'.get q = σ.get q) : ∃ v, K v ∧ yQ P op ev' σ' (· = v) := by
  have gen : xQ P op (fun x => uc (ev x)) σ K → ∃ v, K v ∧ xQ P op (fun x => uc (ev' x)) σ' (· = v) := fun h => xQ_pick h (fun x hx => by rw [hev x hx]) (fun q hq => he q (by rw [← objs_ucm]; exact hq))
  have gen2 : xQ P op ev σ K → ∃ v, K v ∧ xQ P op ev' σ' (· = v) := fun h => xQ_pick h hev he
  cases op <;> simp only [yQ] at h ⊢
  case move x => rw [hev x (by simp [Op.operands])]; exact ⟨_, h, rfl⟩
  case assign x => rw [hev x (by simp [Op.operands])]; exact ⟨_, h, rfl⟩
  case lookup t x i ok => rw [hev x (by simp [Op.operands]), hev i (by simp [Op.operands])]; exact lookupK_pick h fun q hq => he q (by simp [Op.operands, hq])
  case slice t x lo hi mx =>
    rw [hev x (by simp [Op.operands])]
    split at h
    · rename_i hx
      rw [opt_agree (l := lo) (fun y hy => hev y (by simp [Op.operands, hy])), opt_agree (l := hi) (fun y hy => hev y (by simp [Op.operands, hy])),
        opt_agree (l := mx) (fun y hy => hev y (by simp [Op.operands, hy]))]
      exact cslSl_pick h
    · exact gen2 h
  case binOp bop t x y z =>
    rw [hev x (by simp [Op.operands]), hev y (by simp [Op.operands])]
    split at h
    · exact eqAgg_pick h
    · exact gen2 h
  case call c =>
    obtain ⟨callee, args, ats⟩ := c
    have hev' : ∀ x ∈ args.toList, ev' x = ev x := fun x hx => hev x (by simp [Op.operands, Call.operands, Array.mem_toList_iff.1 hx])
    split at h
    · split at h
      · rename_i x t hx ht
        rw [hev' x (by simp only at hx; rw [hx]; simp)]; exact capK_pick h
      · exact h.elim
    · rename_i hc
      simp only at hc
      subst hc
      split at h
      · rename_i x t hx ht
        simp only at hx
        rw [hev' x (by rw [hx]; simp)]; exact yLen_pick h fun q hq => he q (by
          have : args = #[x] := by apply Array.ext'; simpa using hx
          subst this; simp [Op.operands, Call.operands, hq])
      · exact h.elim
    · exact gen2 h
  all_goals exact gen h
theorem rowSrc_mono {x : AV} {s : Nat} {Kn Kn' : Nat → List PV → Prop} (h : rowSrc x s σ Kn) (hk : ∀ n new, Kn n new → Kn' n new) : rowSrc x s σ Kn' := by
  unfold rowSrc at *
  split at h
  · exact ⟨h.1, hk _ _ h.2⟩
  · refine ⟨h.1, ?_⟩
    have h2 := h.2
    split at h2
    · exact ⟨h2.1, hk _ _ h2.2⟩
    · exact h2.elim
  · exact ⟨h.1, hk _ _ h.2⟩
  · exact h.elim
theorem appendK_mono {t xt : TypeId} {a x : AV} {W' : AV → Heap → Prop} (h : appendK P t xt a x σ nid W) (hk : ∀ v us, W v us → W' v us) : appendK P t xt a x σ nid W' := by
  unfold appendK at *
  split at h
  · refine ⟨h.1, srcK_mono h.2 fun n new h2 => ?_⟩
    split at h2
    · exact ⟨h2.1, fun hn => hk _ _ (h2.2.1 hn), fun hn => hk _ _ (h2.2.2 hn)⟩
    · split at h2
      · exact ⟨h2.1, fun hn => hk _ _ (h2.2.1 hn), fun hn => hk _ _ (h2.2.2 hn)⟩
      · exact h2.elim
    · exact h2.elim
  · exact h.elim
theorem rowAppend_mono {t xt : TypeId} {a x : AV} {W' : AV → Heap → Prop} (h : rowAppend P t xt a x σ nid W) (hk : ∀ v us, W v us → W' v us) : rowAppend P t xt a x σ nid W' := by
  unfold rowAppend at *
  split at h
  · exact appendK_mono h hk
  · split at h
    · refine ⟨h.1, rowSrc_mono h.2 fun n new h2 => ?_⟩
      split at h2
      · split at h2
        · exact ⟨h2.1, hk _ _ h2.2⟩
        · exact h2.elim
      · exact ⟨h2.1, fun hn => hk _ _ (h2.2.1 hn), fun hn => hk _ _ (h2.2.2 hn)⟩
      · exact h2.elim
    · exact h.elim
theorem appendZ_pick {t xt : TypeId} {a x : AV} (h : appendZ P t xt a x σ nid W) : ∃ v us, W v us ∧ ∀ σ' : Heap, (∀ q, q ∈ objs a ∨ q ∈ keys us → σ'.get q = σ.get q) → appendZ P t xt a x σ' nid (fun v' us' => v' = v ∧ us' = us) := by
  unfold appendZ at *
  obtain ⟨p, Z, h1, _, h3⟩ := (fz_pick 60).1 x [] _ h
  obtain ⟨v, us, g1, g2⟩ := rowAppend_pick (σ' := deadZ Z ++ σ) h1 (fun _ _ => rfl)
  refine ⟨v, _, g1, fun σ' he => (fz_mono 60).1 _ _ _ _ (fun p' Z' hp => ?_) (h3 σ' fun q hq => he q (.inr ?_))⟩
  · obtain ⟨rfl, rfl⟩ := hp
    obtain ⟨v2, us2, ⟨e1, e2⟩, g3⟩ := rowAppend_pick (σ' := deadZ Z' ++ σ') g2 (fun q hq => by
      rw [get_append, get_append]
      split
      · rfl
      · rcases hq with hq | hq
        · exact he q (.inl hq)
        · simp [objs] at hq)
    subst e1; subst e2
    obtain ⟨v3, us3, ⟨e1, e2⟩, g4⟩ := rowAppend_pick (σ' := deadZ Z' ++ σ') (W := fun v' us' => v' = v2 ∧ us' = us2) g3 (fun _ _ => rfl)
    exact rowAppend_mono g3 fun v' us' hh => ⟨hh.1, by rw [hh.2]⟩
  · simp only [keys, List.map_append, List.mem_append]
    right
    simp [deadZ, hq]
theorem rowStore_mono {t : TypeId} {o sz i j : Nat} {p : PV} {W' : AV → Heap → Prop} (h : rowStore P t (.eptr o sz i j) (.p p) σ W) (hk : ∀ v us, W v us → W' v us) : rowStore P t (.eptr o sz i j) (.p p) σ W' := by
  simp only [rowStore] at *
  split at h
  · split at h
    · exact ⟨h.1, hk _ _ h.2⟩
    · refine ⟨h.1, fun q hq => ?_⟩
      have := h.2 q hq
      split at this
      · exact hk _ _ this
      · exact this.elim
    · split at h
      · exact ⟨h.1, hk _ _ h.2⟩
      · exact h.elim
  · exact h.elim
theorem storeZ_pick {t : TypeId} {o sz i j : Nat} {x : AV} (h : storeZ P t (.eptr o sz i j) x σ W) : ∃ v us, W v us ∧ ∀ σ' : Heap, (∀ q, q = o ∨ q ∈ keys us → σ'.get q = σ.get q) → storeZ P t (.eptr o sz i j) x σ' (fun v' us' => v' = v ∧ us' = us) := by
  unfold storeZ at *
  obtain ⟨p, Z, h1, _, h3⟩ := (fz_pick 60).1 x [] _ h
  obtain ⟨v, us, g1, g2⟩ := rowStore_pick (σ' := deadZ Z ++ σ) h1 (fun _ _ => rfl)
  refine ⟨v, _, g1, fun σ' he => (fz_mono 60).1 _ _ _ _ (fun p' Z' hp => ?_) (h3 σ' fun q hq => he q (.inr ?_))⟩
  · obtain ⟨rfl, rfl⟩ := hp
    obtain ⟨v2, us2, ⟨e1, e2⟩, g3⟩ := rowStore_pick (σ' := deadZ Z' ++ σ') g2 (fun q hq => by
      rw [get_append, get_append]
      split
      · rfl
      · simp [objs] at hq; exact he q (.inl hq))
    subst e1; subst e2
    exact rowStore_mono g3 fun v' us' hh => ⟨hh.1, by rw [hh.2]⟩
  · simp only [keys, List.map_append, List.mem_append]
    right
    simp [deadZ, hq]
theorem selfCopy_pick {t : TypeId} {o sz i len sz2 i2 n : Nat} (h : selfCopy P t o sz i len sz2 i2 n σ W) (he : σ'.get o = σ.get o) : ∃ v us, W v us ∧ selfCopy P t o sz i len sz2 i2 n σ' (fun v' us' => v' = v ∧ us' = us) := by
  unfold selfCopy at *
  rw [he]
  split at h
  · exact ⟨_, _, h.2, h.1, rfl, rfl⟩
  · exact h.elim
theorem clearK_pick {t : TypeId} {x : AV} (h : clearK P t x σ W) (he : ∀ q, q ∈ objs x → σ'.get q = σ.get q) : ∃ v us, W v us ∧ clearK P t x σ' (fun v' us' => v' = v ∧ us' = us) := by
  unfold clearK at *
  split at h
  · rename_i o sz i len s g z hE hZ
    simp only
    rw [he o (by simp [objs])]
    split at h
    · exact ⟨_, _, h.2, h.1, rfl, rfl⟩
    · exact h.elim
  · exact h.elim
theorem putK_pick {t : TypeId} {m k v : AV} (h : putK P t m k v σ W) (he : ∀ q, q ∈ objs m → σ'.get q = σ.get q) : ∃ v' us, W v' us ∧ putK P t m k v σ' (fun v'' us' => v'' = v' ∧ us' = us) := by
  unfold putK at *
  split at h
  · rename_i o key val
    simp only
    rw [he o (by simp [objs])]
    split at h
    · exact ⟨_, _, h.2, h.1, rfl, rfl⟩
    · exact h.elim
  · exact h.elim
theorem growK_pick {t : TypeId} {a x : AV} (h : growK P t a x σ nid W) (he : ∀ q, q ∈ objs a → σ'.get q = σ.get q) : ∃ v us, W v us ∧ growK P t a x σ' nid (fun v' us' => v' = v ∧ us' = us) := by
  unfold growK at *
  split at h
  · rename_i o sz i len cap k n s g z bt hE hz hb
    simp only [hE, hz, hb]
    rw [he o (by simp [objs])]
    split at h
    · exact ⟨_, _, h.2, h.1, rfl, rfl⟩
    · exact h.elim
  · exact h.elim
theorem yW_pick {op : Op} {ev : Operand → AV} (h : yW P op ev σ nid W) : ∃ v us, W v us ∧ ∀ (ev' : Operand → AV) (σ' : Heap), (∀ x ∈ op.operands.toList, ev' x = ev x) →
    (∀ q, q ∈ (op.operands.toList.map ev).flatMap objs ∨ q ∈ keys us → σ'.get q = σ.get q) → yW P op ev' σ' nid (fun v' us' => v' = v ∧ us' = us) := by
  have gen : xW P op (fun x => uc (ev x)) σ nid W → ∃ v us, W v us ∧ ∀ (ev' : Operand → AV) (σ' : Heap), (∀ x ∈ op.operands.toList, ev' x = ev x) →
      (∀ q, q ∈ (op.operands.toList.map ev).flatMap objs ∨ q ∈ keys us → σ'.get q = σ.get q) → xW P op (fun x => uc (ev' x)) σ' nid (fun v' us' => v' = v ∧ us' = us) := fun h => by
    obtain ⟨v, us, h1, h2⟩ := xW_pick (ev' := fun x => uc (ev x)) (σ' := σ) h (fun _ _ => rfl) (fun _ _ => rfl)
    refine ⟨v, us, h1, fun ev' σ' hev he => ?_⟩
    obtain ⟨v', us', ⟨e1, e2⟩, h3⟩ := xW_pick (ev' := fun x => uc (ev' x)) (σ' := σ') h2 (fun x hx => by rw [hev x hx]) (fun q hq => he q (.inl (by rw [← objs_ucm]; exact hq)))
    subst e1; subst e2
    exact h3
  cases op <;> simp only [yW] at h
  case makeMap t n =>
    cases n with
    | none =>
      simp only at h
      split at h
      · rename_i hT
        exact ⟨_, _, h, fun _ _ _ _ => by simp only [yW, hT]; exact ⟨trivial, trivial⟩⟩
      · exact h.elim
    | some _ => exact h.elim
  case store t a x =>
    have hop : ∀ (ev' : Operand → AV), (∀ z ∈ (Op.store t a x).operands.toList, ev' z = ev z) → ev' a = ev a ∧ ev' x = ev x := fun ev' hev => ⟨hev a (by simp [Op.operands]), hev x (by simp [Op.operands])⟩
    unfold yStore at h
    split at h
    · rename_i ha hx
      cases hua : uc (ev a) <;> rw [hua] at ha <;> try (cases ha; done)
      rename_i o sz i j
      rw [hua] at h
      obtain ⟨v, us, g1, g2⟩ := storeZ_pick h
      refine ⟨v, us, g1, fun ev' σ' hev he => ?_⟩
      obtain ⟨e1, e2⟩ := hop ev' hev
      simp only [yW]
      rw [e1, e2, hua]
      unfold yStore
      rw [hx]
      refine g2 σ' fun q hq => he q ?_
      rcases hq with hq | hq
      · left
        have : q ∈ objs (ev a) := by rw [← objs_uc, hua]; simp [objs, hq]
        simp [Op.operands, this]
      · exact .inr hq
    · rename_i hne
      obtain ⟨v, us, g1, g2⟩ := rowStore_pick (σ' := σ) h (fun _ _ => rfl)
      refine ⟨v, us, g1, fun ev' σ' hev he => ?_⟩
      obtain ⟨e1, e2⟩ := hop ev' hev
      simp only [yW]
      rw [e1, e2]
      obtain ⟨v2, us2, ⟨e3, e4⟩, g3⟩ := rowStore_pick (σ' := σ') g2 (fun q hq => he q (.inl (by rw [objs_uc] at hq; simp [Op.operands, hq])))
      subst e3; subst e4
      unfold yStore
      split
      · rename_i hx hy; exact (hne hx hy).elim
      · exact g3
  case buildSlice t n parts =>
    split at h
    · rename_i hp
      unfold emptyLitK at h
      split at h
      · rename_i s g z hE hz
        refine ⟨_, _, h.2, fun ev' σ' hev he => ?_⟩
        simp only [yW, hp, emptyLitK, hE, hz]
        exact ⟨h.1, trivial, trivial⟩
      · exact h.elim
    · rename_i hne
      obtain ⟨v, us, g1, g2⟩ := gen (by simpa using h)
      refine ⟨v, us, g1, fun ev' σ' hev he => ?_⟩
      have := g2 ev' σ' hev he
      simp only [yW]
      first
      | simpa using this
      | (split
         · rename_i hp; exact (hne rfl hp).elim
         · simpa using this)
  case mapUpdate t m k v =>
    obtain ⟨v', us, h1, h2⟩ := putK_pick (σ' := σ) h (fun _ _ => rfl)
    refine ⟨v', us, h1, fun ev' σ' hev he => ?_⟩
    obtain ⟨v2, us2, ⟨e1, e2⟩, h3⟩ := putK_pick (σ' := σ') h2 (fun q hq => he q (.inl (by simp [Op.operands, hq])))
    subst e1; subst e2
    simp only [yW]
    rw [hev m (by simp [Op.operands]), hev k (by simp [Op.operands]), hev v (by simp [Op.operands])]
    exact h3
  case insert t m k v =>
    obtain ⟨v', us, h1, h2⟩ := putK_pick (σ' := σ) h (fun _ _ => rfl)
    refine ⟨v', us, h1, fun ev' σ' hev he => ?_⟩
    obtain ⟨v2, us2, ⟨e1, e2⟩, h3⟩ := putK_pick (σ' := σ') h2 (fun q hq => he q (.inl (by simp [Op.operands, hq])))
    subst e1; subst e2
    simp only [yW]
    rw [hev m (by simp [Op.operands]), hev k (by simp [Op.operands]), hev v (by simp [Op.operands])]
    exact h3
  case call c =>
    obtain ⟨callee, args, ats⟩ := c
    split at h
    · rename_i x y t xt hc harg h1 h2
      simp only at hc harg h1 h2
      subst hc
      have hargs : args = #[x, y] := by apply Array.ext'; simpa using harg
      subst hargs
      have hyw : ∀ (ev : Operand → AV) (σ' : Heap) (K : AV → Heap → Prop), yW P (.call { callee := .builtin .append, args := #[x, y], argTypes := ats }) ev σ' nid K = zAppend P t xt (ev x) (ev y) σ' nid K := fun ev σ' K => by simp [yW, h1, h2]
      have hop : ∀ (ev' : Operand → AV), (∀ z ∈ (Op.call { callee := .builtin .append, args := #[x, y], argTypes := ats }).operands.toList, ev' z = ev z) → ev' x = ev x ∧ ev' y = ev y := fun ev' hev =>
        ⟨hev x (by simp [Op.operands, Call.operands]), hev y (by simp [Op.operands, Call.operands])⟩
      cases hti : tIsInt P xt with
      | true =>
        simp only [zAppend, hti] at h
        obtain ⟨v, us, g1, g2⟩ := growK_pick (σ' := σ) h (fun _ _ => rfl)
        refine ⟨v, us, g1, fun ev' σ' hev he => ?_⟩
        obtain ⟨e1, e2⟩ := hop ev' hev
        rw [hyw, e1, e2]
        simp only [zAppend, hti]
        obtain ⟨v2, us2, ⟨e3, e4⟩, g3⟩ := growK_pick (σ' := σ') g2 (fun q hq => he q (.inl (by simp [Op.operands, Call.operands, hq])))
        subst e3; subst e4
        exact g3
      | false =>
      simp only [zAppend, hti] at h
      have yap : ∀ {b : AV}, (∀ q, q ∈ objs b → q ∈ objs (ev x)) → yAppend P t xt b (uc (ev y)) σ nid W → ∃ v us, W v us ∧ ∀ (σ' : Heap), (∀ q, q ∈ ((Op.call { callee := .builtin .append, args := #[x, y], argTypes := ats }).operands.toList.map ev).flatMap objs ∨ q ∈ keys us → σ'.get q = σ.get q) → yAppend P t xt b (uc (ev y)) σ' nid (fun v' us' => v' = v ∧ us' = us) := fun hb h => by
        unfold yAppend at h
        split at h
        · rename_i hx hy
          obtain ⟨v, us, g1, g2⟩ := appendZ_pick h
          refine ⟨v, us, g1, fun σ' he => ?_⟩
          unfold yAppend
          simp only [hx, hy]
          refine g2 σ' fun q hq => he q ?_
          rcases hq with hq | hq
          · exact .inl (by simp [Op.operands, Call.operands, hb q hq])
          · exact .inr hq
        · rename_i hne
          obtain ⟨v, us, g1, g2⟩ := rowAppend_pick (σ' := σ) h (fun _ _ => rfl)
          refine ⟨v, us, g1, fun σ' he => ?_⟩
          obtain ⟨v2, us2, ⟨e3, e4⟩, g3⟩ := rowAppend_pick (σ' := σ') g2 (fun q hq => he q (.inl (by
            rw [objs_uc] at hq
            rcases hq with hq | hq
            · simp [Op.operands, Call.operands, hb q hq]
            · simp [Op.operands, Call.operands, hq])))
          subst e3; subst e4
          unfold yAppend
          split
          · rename_i hx hy; exact (hne hx hy).elim
          · exact g3
      split at h
      · rename_i o sz i len cap hcs
        rcases h.h with h | h
        · obtain ⟨v, us, g1, g2⟩ := yap (fun q hq => by rw [hcs]; exact hq) h
          refine ⟨v, us, g1, fun ev' σ' hev he => ?_⟩
          obtain ⟨e1, e2⟩ := hop ev' hev
          rw [hyw, e1, e2]
          simp only [zAppend, hti, hcs]
          exact AltA.l (g2 σ' he)
        · unfold emptyK at h
          split at h
          · rename_i sz2 c hxx
            refine ⟨_, _, h.2, fun ev' σ' hev he => ?_⟩
            obtain ⟨e1, e2⟩ := hop ev' hev
            rw [hyw, e1, e2]
            simp only [zAppend, hti, hcs]
            refine AltA.r ?_
            simp only [emptyK, hxx]
            exact ⟨h.1, trivial, trivial⟩
          · exact h.elim
      · rename_i hncs
        obtain ⟨v, us, g1, g2⟩ := yap (fun q hq => by rwa [objs_uc] at hq) h
        refine ⟨v, us, g1, fun ev' σ' hev he => ?_⟩
        obtain ⟨e1, e2⟩ := hop ev' hev
        rw [hyw, e1, e2]
        simp only [zAppend, hti]
        first
        | exact g2 σ' he
        | (split
           · rename_i o sz i len cap hcs; exact (hncs _ _ _ _ _ hcs).elim
           · exact g2 σ' he)
    · rename_i x y t hc harg h1
      simp only at hc harg h1
      subst hc
      have hargs : args = #[x, y] := by apply Array.ext'; simpa using harg
      subst hargs
      have hyw : ∀ (ev : Operand → AV) (σ' : Heap) (K : AV → Heap → Prop), yW P (.call { callee := .builtin .copy, args := #[x, y], argTypes := ats }) ev σ' nid K = yCopy P t (uc (ev x)) (uc (ev y)) σ' K := fun ev σ' K => by simp [yW, h1]
      have hop : ∀ (ev' : Operand → AV), (∀ z ∈ (Op.call { callee := .builtin .copy, args := #[x, y], argTypes := ats }).operands.toList, ev' z = ev z) → ev' x = ev x ∧ ev' y = ev y := fun ev' hev =>
        ⟨hev x (by simp [Op.operands, Call.operands]), hev y (by simp [Op.operands, Call.operands])⟩
      have hoo : ∀ {σ' : Heap} {us : Heap}, (∀ q, q ∈ ((Op.call { callee := .builtin .copy, args := #[x, y], argTypes := ats }).operands.toList.map ev).flatMap objs ∨ q ∈ keys us → σ'.get q = σ.get q) → ∀ q, q ∈ objs (uc (ev x)) ∨ q ∈ objs (uc (ev y)) → σ'.get q = σ.get q := fun he q hq => he q (.inl (by
          rw [objs_uc, objs_uc] at hq
          rcases hq with hq | hq <;> simp [Op.operands, Call.operands, hq]))
      revert h hoo
      generalize hX : uc (ev x) = X
      generalize hY : uc (ev y) = Y
      intro h hoo
      have fin : ∀ {σ' : Heap}, (∀ q, q ∈ objs X ∨ q ∈ objs Y → σ'.get q = σ.get q) → ∀ {W : AV → Heap → Prop}, yCopy P t X Y σ W → ∃ v us, W v us ∧ yCopy P t X Y σ' (fun v' us' => v' = v ∧ us' = us) := by
        intro σ' he W h
        unfold yCopy at *
        split at h
        · split at h
          · exact selfCopy_pick h (he _ (.inl (by simp [objs])))
          · exact rowCopy_pick h he
        · exact rowCopy_pick h he
      obtain ⟨v, us, g1, g2⟩ := fin (σ' := σ) (fun _ _ => rfl) h
      refine ⟨v, us, g1, fun ev' σ' hev he => ?_⟩
      obtain ⟨e1, e2⟩ := hop ev' hev
      rw [hyw, e1, e2, hX, hY]
      obtain ⟨v2, us2, ⟨e3, e4⟩, g3⟩ := fin (σ' := σ') (hoo he) g2
      subst e3; subst e4; exact g3
    · rename_i x t hc harg h1
      simp only at hc harg h1
      subst hc
      have hargs : args = #[x] := by apply Array.ext'; simpa using harg
      subst hargs
      have hyw : ∀ (ev : Operand → AV) (σ' : Heap) (K : AV → Heap → Prop), yW P (.call { callee := .builtin .clear, args := #[x], argTypes := ats }) ev σ' nid K = clearK P t (uc (ev x)) σ' K := fun ev σ' K => by simp [yW, h1]
      obtain ⟨v', us, g1, g2⟩ := clearK_pick (σ' := σ) h (fun _ _ => rfl)
      refine ⟨v', us, g1, fun ev' σ' hev he => ?_⟩
      rw [hyw, hev x (by simp [Op.operands, Call.operands])]
      obtain ⟨v2, us2, ⟨e1, e2⟩, g3⟩ := clearK_pick (σ' := σ') g2 (fun q hq => he q (.inl (by rw [objs_uc] at hq; simp [Op.operands, Call.operands, hq])))
      subst e1; subst e2; exact g3
    · exact h.elim
  all_goals exact gen h
/-- What one operation yields hangs on its operands and on the objects that it meets. -/
theorem stK_pick {op : Op} {ev : Operand → AV} (h : stK P op ev σ nid W) : ∃ v us, W v us ∧ ∀ (ev' : Operand → AV) (σ' : Heap), (∀ x ∈ op.operands.toList, ev' x = ev x) →
    (∀ q, q ∈ (op.operands.toList.map ev).flatMap objs ∨ q ∈ keys us → σ'.get q = σ.get q) → stK P op ev' σ' nid (fun v' us' => v' = v ∧ us' = us) := by
  unfold stK at *
  cases hkd : kindOf P op with
  | quiet =>
    simp only [hkd] at h ⊢
    obtain ⟨v, h1, h2⟩ : ∃ v, W v [] ∧ yQ P op ev σ (· = v) := yQ_pick (ev' := ev) (σ' := σ) h (fun _ _ => rfl) (fun _ _ => rfl)
    refine ⟨v, [], h1, fun ev' σ' hev he => ?_⟩
    obtain ⟨v', e, h3⟩ := yQ_pick (ev' := ev') (σ' := σ') h2 hev (fun q hq => he q (.inl hq))
    subst e
    simpa using h3
  | write =>
    simp only [hkd] at h ⊢
    exact yW_pick h
  | call =>
    simp only [hkd] at h ⊢
    cases op <;> try exact h.elim
    rename_i c
    obtain ⟨callee, args, ats⟩ := c
    cases callee with
    | builtin b => exact h.elim
    | invoke r m => exact h.elim
    | value x =>
      simp only at h ⊢
      obtain ⟨v, us, h1, h2⟩ := callX_pick h
      refine ⟨v, us, h1, fun ev' σ' hev he => ?_⟩
      rw [hev x (by simp [Op.operands, Call.operands]), map_agree (l := args.toList) (fun y hy => hev y (by simp [Op.operands, Call.operands, Array.mem_toList_iff.1 hy]))]
      exact h2 σ' fun q hq => he q (.inr hq)
/-- The objects that an operation may look at. -/
def fpOp (op : Op) (ev : Operand → AV) : List Nat :=
  match op with
  | .move _ => []
  | .assign _ => []
  | op => (op.operands.toList.map ev).flatMap objs
theorem stK_pickF {op : Op} {ev : Operand → AV} (h : stK P op ev σ nid W) : ∃ v us, W v us ∧ ∀ (ev' : Operand → AV) (σ' : Heap), (∀ x ∈ op.operands.toList, ev' x = ev x) →
    (∀ q, q ∈ fpOp op ev ∨ q ∈ keys us → σ'.get q = σ.get q) → stK P op ev' σ' nid (fun v' us' => v' = v ∧ us' = us) := by
  cases op <;> first
  | exact stK_pick h
  | (rename_i x
     have h : W (ev x) [] := h
     refine ⟨ev x, [], h, fun ev' σ' hev _ => ?_⟩
     have e := hev x (by simp [Op.operands])
     exact ⟨e, rfl⟩)
end
end Go.Sg

namespace Go.Sg
open Go

def afterOn (o : Oper) : List Nat := (o.after.toList.filter fun e => Region.binds .any e).map (·.on)
def dedup : List Nat → List Nat
  | [] => []
  | x :: r => if (dedup r).contains x then dedup r else x :: dedup r
theorem mem_dedup {k : Nat} : ∀ {l : List Nat}, k ∈ dedup l → k ∈ l
  | [], h => by simp [dedup] at h
  | x :: r, h => by
    simp only [dedup] at h
    split at h
    · exact List.mem_cons_of_mem _ (mem_dedup h)
    · rcases List.mem_cons.1 h with h | h
      · subst h; simp
      · exact List.mem_cons_of_mem _ (mem_dedup h)
def ancs : List Oper → List (List Nat) → List (List Nat)
  | [], acc => acc
  | o :: r, acc => ancs r (acc ++ [dedup ((afterOn o).flatMap fun k => k :: acc.getD k [])])

def conf (ops : List Oper) (fps : List (List Nat × List Nat)) (i j : Nat) : Bool :=
  match ops[i]?, ops[j]? with
  | some x, some y => !(Oper.apart ops.toArray x y) || (fps.getD i ([], [])).2.any (fun q => (fps.getD j ([], [])).1.contains q || (fps.getD j ([], [])).2.contains q) ||
      (fps.getD j ([], [])).2.any (fun q => (fps.getD i ([], [])).1.contains q)
  | _, _ => false
def okR (ops : List Oper) (fps : List (List Nat × List Nat)) : Bool :=
  (List.range ops.length).all fun j => (match ops[j]? with | some o => (afterOn o).all fun k => decide (k < j) | none => true) &&
    (List.range j).all fun i => ((ancs ops []).getD j []).contains i || !conf ops fps i j

/-- The same, of the operations that have run; each later one comes after all before it. -/
def okC (ops : List Oper) (fps : List (List Nat × List Nat)) : Bool :=
  (List.range ops.length).all fun j => (match ops[j]? with | some o => (afterOn o).all fun k => decide (k < j) | none => true) &&
    (List.range j).all fun i => ((ancs ops []).getD j []).contains i || (decide (j < fps.length) && !conf ops fps i j)
theorem okC_of {ops : List Oper} {fps : List (List Nat × List Nat)} (h : okR ops fps = true) (hl : fps.length = ops.length) : okC ops fps = true := by
  unfold okR at h
  unfold okC
  rw [List.all_eq_true] at *
  intro j hj
  have := h j hj
  rw [hl, decide_eq_true (List.mem_range.1 hj)]
  simpa using this

/-- The same, where the last of the operations that have run panics; each later one comes after it. -/
def okX (ops : List Oper) (fps : List (List Nat × List Nat)) : Bool :=
  (List.range ops.length).all fun j => (match ops[j]? with | some o => (afterOn o).all fun k => decide (k < j) | none => true) &&
    (List.range j).all fun i => ((ancs ops []).getD j []).contains i || (decide (j < fps.length) && !conf ops fps i j) || (decide (fps.length ≤ j) && !decide (i + 1 = fps.length))
def drwK {P : Program} (G : Gam P) (ops : List Oper) (nx yk : Nat) : List Oper → Nat → Env → Heap → List (List Nat × List Nat) → (St → Prop) → (PV → St → Prop) → Prop
  | [], i, env, hp, fps, K, _ => okR ops fps = true ∧ K ⟨env, hp, nx + 64 * i, yk⟩
  | o :: r, i, env, hp, fps, K, KP => guardK ops o.guard env fun b env' => match b with
    | true => (match yieldOf (evalO env') o.op with
      | some _ => okC ops fps = true ∧ seqK G ops (o :: r) ⟨env', hp, nx + 64 * i, yk⟩ K KP
      | none => xalt o.op (stK P o.op (evalO env') hp (nx + 64 * i) fun v us => drwK G ops nx yk r (i + 1) (env'.put o.dst v) (us ++ hp) (fps ++ [(fpOp o.op (evalO env'), keys us)]) K KP) (panK P o.op (evalO env') hp (nx + 64 * i) fun p us => okX ops (fps ++ [([], keys us)]) = true ∧ KP p ⟨[], [], nx + 64 * ops.length, yk⟩))
    | false => drwK G ops nx yk r (i + 1) (env'.put o.dst undefA) hp (fps ++ [([], [])]) K KP

/-! ### What a set of operations leaves -/
structure Rec where
  ex : Bool
  fp : List Nat
  v : AV
  us : Heap
instance : Inhabited Rec := ⟨⟨false, [], .any, []⟩⟩
def dstOf (ops : List Oper) (k : Nat) : Option Nat := (ops[k]?).bind (·.dst)
def envF (ops : List Oper) (recs : Nat → Rec) (e0 : Nat → AV) (S : Nat → Bool) : Nat → Nat → AV
  | 0, t => e0 t
  | k + 1, t => if S k = true ∧ dstOf ops k = some t then (recs k).v else envF ops recs e0 S k t
def hpF (recs : Nat → Rec) (h0 : Nat → AObj) (S : Nat → Bool) : Nat → Nat → AObj
  | 0, q => h0 q
  | k + 1, q => if S k = true ∧ q ∈ keys (recs k).us then Heap.get (recs k).us q else hpF recs h0 S k q

section
variable {ops : List Oper} {recs recs' : Nat → Rec} {e0 : Nat → AV} {h0 : Nat → AObj} {S S' : Nat → Bool}
theorem envF_congr {n t : Nat} (hr : ∀ k, k < n → recs k = recs' k) (hS : ∀ k, k < n → S k = S' k) : envF ops recs e0 S n t = envF ops recs' e0 S' n t := by
  induction n with
  | zero => rfl
  | succ n ih => simp only [envF, hr n (by omega), hS n (by omega), ih (fun k hk => hr k (by omega)) (fun k hk => hS k (by omega))]
theorem hpF_congr {n q : Nat} (hr : ∀ k, k < n → recs k = recs' k) (hS : ∀ k, k < n → S k = S' k) : hpF recs h0 S n q = hpF recs' h0 S' n q := by
  induction n with
  | zero => rfl
  | succ n ih => simp only [hpF, hr n (by omega), hS n (by omega), ih (fun k hk => hr k (by omega)) (fun k hk => hS k (by omega))]
theorem envF_eq {j n t : Nat} (hj : j ≤ n) (h1 : ∀ i, i < j → dstOf ops i = some t → S i = true) (h2 : ∀ k, j ≤ k → k < n → dstOf ops k = some t → S k = false) :
    envF ops recs e0 S n t = envF ops recs e0 (fun _ => true) j t := by
  induction n with
  | zero => have : j = 0 := by omega
            subst this; rfl
  | succ n ih =>
    rcases Nat.lt_or_ge n j with h | h
    · have : j = n + 1 := by omega
      subst this
      clear ih h2 hj h
      generalize n + 1 = m at *
      induction m with
      | zero => rfl
      | succ m ih =>
        simp only [envF]
        by_cases e : dstOf ops m = some t
        · simp [e, h1 m (by omega) e]
        · simp [e, ih fun i hi he => h1 i (by omega) he]
    · simp only [envF]
      have : ¬ (S n = true ∧ dstOf ops n = some t) := fun ⟨h3, h4⟩ => by rw [h2 n h (by omega) h4] at h3; cases h3
      rw [if_neg this]
      exact ih h fun k hk hk' => h2 k hk (by omega)
theorem hpF_eq {j n q : Nat} (hj : j ≤ n) (h1 : ∀ i, i < j → q ∈ keys (recs i).us → S i = true) (h2 : ∀ k, j ≤ k → k < n → q ∈ keys (recs k).us → S k = false) :
    hpF recs h0 S n q = hpF recs h0 (fun _ => true) j q := by
  induction n with
  | zero => have : j = 0 := by omega
            subst this; rfl
  | succ n ih =>
    rcases Nat.lt_or_ge n j with h | h
    · have : j = n + 1 := by omega
      subst this
      clear ih h2 hj h
      generalize n + 1 = m at *
      induction m with
      | zero => rfl
      | succ m ih =>
        simp only [hpF]
        by_cases e : q ∈ keys (recs m).us
        · simp [e, h1 m (by omega) e]
        · simp [e, ih fun i hi he => h1 i (by omega) he]
    · simp only [hpF]
      have : ¬ (S n = true ∧ q ∈ keys (recs n).us) := fun ⟨h3, h4⟩ => by rw [h2 n h (by omega) h4] at h3; cases h3
      rw [if_neg this]
      exact ih h fun k hk hk' => h2 k hk (by omega)
theorem envF_set {j n t : Nat} (hj : j < n) (hS : ∀ k, S' k = if k = j then true else S k) (h2 : ∀ k, j < k → k < n → dstOf ops j = some t → dstOf ops k = some t → S k = false) :
    envF ops recs e0 S' n t = if dstOf ops j = some t then (recs j).v else envF ops recs e0 S n t := by
  induction n with
  | zero => omega
  | succ n ih =>
    simp only [envF]
    rcases Nat.lt_or_ge j n with h | h
    · have hn : S' n = S n := by rw [hS n, if_neg (by omega)]
      rw [ih h fun k hk hk' => h2 k hk (by omega), hn]
      by_cases e : dstOf ops j = some t <;> by_cases e' : dstOf ops n = some t
      · simp [h2 n h (by omega) e e']
      · simp [e']
      · simp [e]
      · simp [e']
    · have : j = n := by omega
      subst this
      rw [hS j, if_pos rfl]
      have hlow : envF ops recs e0 S' j t = envF ops recs e0 S j t := envF_congr (fun _ _ => rfl) fun k hk => by rw [hS k, if_neg (by omega)]
      by_cases e : dstOf ops j = some t
      · simp [e]
      · simp [e, hlow]
theorem hpF_set {j n q : Nat} (hj : j < n) (hS : ∀ k, S' k = if k = j then true else S k) (h2 : ∀ k, j < k → k < n → q ∈ keys (recs j).us → q ∈ keys (recs k).us → S k = false) :
    hpF recs h0 S' n q = if q ∈ keys (recs j).us then Heap.get (recs j).us q else hpF recs h0 S n q := by
  induction n with
  | zero => omega
  | succ n ih =>
    simp only [hpF]
    rcases Nat.lt_or_ge j n with h | h
    · have hn : S' n = S n := by rw [hS n, if_neg (by omega)]
      rw [ih h fun k hk hk' => h2 k hk (by omega), hn]
      by_cases e : q ∈ keys (recs j).us <;> by_cases e' : q ∈ keys (recs n).us
      · simp [h2 n h (by omega) e e']
      · simp [e']
      · simp [e]
      · simp [e']
    · have : j = n := by omega
      subst this
      rw [hS j, if_pos rfl]
      have hlow : hpF recs h0 S' j q = hpF recs h0 S j q := hpF_congr (fun _ _ => rfl) fun k hk => by rw [hS k, if_neg (by omega)]
      by_cases e : q ∈ keys (recs j).us
      · simp [e]
      · simp [e, hlow]
/-! ### The order -/
def Closed (ops : List Oper) (D : Nat → Prop) : Prop := ∀ j o, ops[j]? = some o → D j → ∀ k ∈ afterOn o, D k
theorem ancs_spec : ∀ (rest : List Oper) (acc : List (List Nat)) (base : Nat), (∀ j, ops[base + j]? = rest[j]?) → acc.length = base →
    (∀ (j : Nat) l o, acc[j]? = some l → ops[j]? = some o → ∀ D : Nat → Prop, Closed ops D → (∀ k ∈ afterOn o, D k) → ∀ k ∈ l, D k) →
    ∀ (j : Nat) l o, (ancs rest acc)[j]? = some l → ops[j]? = some o → ∀ D : Nat → Prop, Closed ops D → (∀ k ∈ afterOn o, D k) → ∀ k ∈ l, D k := by
  intro rest
  induction rest with
  | nil => intro acc base _ _ h; exact h
  | cons o r ih =>
    intro acc base hops hlen h
    refine ih _ (base + 1) (fun j => by have := hops (j + 1); rw [show base + 1 + j = base + (j + 1) by omega]; simpa using this) (by simp [hlen]) fun j l o' hj ho' D hD hk k hkl => ?_
    rw [List.getElem?_append] at hj
    split at hj
    · exact h j l o' hj ho' D hD hk k hkl
    · rename_i hge
      have hj0 : j = base := by
        have := (List.getElem?_eq_some_iff.1 hj).1
        simp at this; omega
      subst hj0
      rw [show j - acc.length = 0 by omega] at hj
      simp only [List.getElem?_cons_zero, Option.some.injEq] at hj
      subst hj
      have ho := hops 0
      simp only [Nat.add_zero, List.getElem?_cons_zero] at ho
      rw [ho'] at ho; injection ho with ho; subst ho
      have := mem_dedup hkl
      obtain ⟨m, hm, hkm⟩ := List.mem_flatMap.1 this
      rcases List.mem_cons.1 hkm with e | e
      · subst e; exact hk k hm
      · have hlt : m < acc.length := by
          rcases Nat.lt_or_ge m acc.length with h' | h'
          · exact h'
          · rw [List.getD_eq_getElem?_getD, List.getElem?_eq_none h'] at e; simp at e
        have hg : acc[m]? = some (acc.getD m []) := by rw [List.getD_eq_getElem?_getD, List.getElem?_eq_getElem hlt]; rfl
        have hm' : ∃ om, ops[m]? = some om := by
          have hjl := (List.getElem?_eq_some_iff.1 ho').1
          exact ⟨_, List.getElem?_eq_getElem (by omega)⟩
        obtain ⟨om, hom⟩ := hm'
        exact h m _ om hg hom D hD (hD m om hom (hk m hm)) k e
end

theorem mem_afterOn {o : Oper} {k : Nat} : k ∈ afterOn o ↔ ∃ e ∈ o.after, Region.binds .any e = true ∧ e.on = k := by
  simp only [afterOn, List.mem_map, List.mem_filter, Array.mem_toList_iff]
  exact ⟨fun ⟨e, ⟨h1, h2⟩, h3⟩ => ⟨e, h1, h2, h3⟩, fun ⟨e, h1, h2, h3⟩ => ⟨e, ⟨h1, h2⟩, h3⟩⟩

/-! ### The trace of the run in the text's order -/
def TrOk (P : Program) (ops : List Oper) (nx : Nat) (recs : Nat → Rec) (e0 : Nat → AV) (h0 : Nat → AObj) (i : Nat) (o : Oper) : Prop :=
  ((recs i).ex = true ∧
    (o.guard = none ∨ ∃ j want t, o.guard = some (j, want) ∧ dstOf ops j = some t ∧ envF ops recs e0 (fun _ => true) i t = .p (.bool want)) ∧
    ∀ (env' : Env) (σ' : Heap), (∀ t ∈ o.looksAt ops.toArray, env'.get t = envF ops recs e0 (fun _ => true) i t) →
      (∀ q, q ∈ (recs i).fp ∨ q ∈ keys (recs i).us → Heap.get σ' q = hpF recs h0 (fun _ => true) i q) → stK P o.op (evalO env') σ' (nx + 64 * i) (fun v us => v = (recs i).v ∧ us = (recs i).us)) ∨
  ((recs i).ex = false ∧ (recs i).v = undefA ∧ (recs i).us = [] ∧ (recs i).fp = [] ∧
    ∃ j want t, o.guard = some (j, want) ∧ dstOf ops j = some t ∧ (envF ops recs e0 (fun _ => true) i t = .p (.bool !want) ∨ envF ops recs e0 (fun _ => true) i t = .p (.tup [])))

section
variable {P : Program} {ops : List Oper} {nx yk : Nat} {e0 : Nat → AV} {h0 : Nat → AObj} {K : St → Prop} {KP : PV → St → Prop}
theorem TrOk.congr {recs recs' : Nat → Rec} {i : Nat} {o : Oper} (h : TrOk P ops nx recs e0 h0 i o) (e : ∀ k, k ≤ i → recs' k = recs k) : TrOk P ops nx recs' e0 h0 i o := by
  have hE : ∀ t, envF ops recs' e0 (fun _ => true) i t = envF ops recs e0 (fun _ => true) i t := fun t => envF_congr (fun k hk => e k (by omega)) (fun _ _ => rfl)
  have hH : ∀ t, hpF recs' h0 (fun _ => true) i t = hpF recs h0 (fun _ => true) i t := fun t => hpF_congr (fun k hk => e k (by omega)) (fun _ _ => rfl)
  unfold TrOk at *
  simp only [hE, hH, e i (Nat.le_refl _)]
  exact h

theorem guard_look {o : Oper} {j t : Nat} {want : Bool} (hg : o.guard = some (j, want)) (hd : dstOf ops j = some t) : t ∈ o.looksAt ops.toArray := by
  unfold Oper.looksAt
  rw [hg]
  simp only [List.mem_append]
  right
  have : (ops.toArray[j]?).bind (·.dst) = some t := by simpa [dstOf] using hd
  rw [this]; simp

theorem evalO_agree {env env' : Env} {o : Oper} (h : ∀ t ∈ o.looksAt ops.toArray, env'.get t = env.get t) : ∀ x ∈ o.op.operands.toList, evalO env' x = evalO env x := by
  intro x hx
  cases x with
  | tmp t =>
    refine h t ?_
    unfold Oper.looksAt
    simp only [List.mem_append, List.mem_filterMap]
    exact .inl ⟨.tmp t, hx, rfl⟩
  | const v => rfl
  | global g => rfl
  | func f => rfl

/-- Up to where a region runs in whatever order: to the point from which the order is fixed; or to an operation that panics. -/
def Cut (P : Program) (G : Gam P) (ops : List Oper) (nx yk : Nat) (e0 : Nat → AV) (h0 : Nat → AObj) (K : St → Prop) (KP : PV → St → Prop) : Prop :=
  ∃ (m : Nat) (recs' : Nat → Rec) (env' : Env) (hp' : Heap), m ≤ ops.length ∧
      (∀ t, env'.get t = envF ops recs' e0 (fun _ => true) m t) ∧ (∀ q, hp'.get q = hpF recs' h0 (fun _ => true) m q) ∧
      (∀ k o, k < m → ops[k]? = some o → TrOk P ops nx recs' e0 h0 k o) ∧
      ((okC ops ((List.range m).map (fun k => ((recs' k).fp, keys (recs' k).us))) = true ∧ seqK G ops (ops.drop m) ⟨env', hp', nx + 64 * m, yk⟩ K KP) ∨
       ∃ (o : Oper) (p : PV) (us : Heap), ops[m]? = some o ∧
        (o.guard = none ∨ ∃ j want t, o.guard = some (j, want) ∧ dstOf ops j = some t ∧ envF ops recs' e0 (fun _ => true) m t = .p (.bool want)) ∧
        okX ops ((List.range m).map (fun k => ((recs' k).fp, keys (recs' k).us)) ++ [([], keys us)]) = true ∧ KP p ⟨[], [], nx + 64 * ops.length, yk⟩ ∧
        ∀ (env'' : Env) (σ'' : Heap), (∀ t ∈ o.looksAt ops.toArray, env''.get t = envF ops recs' e0 (fun _ => true) m t) → (∀ q, q ∈ keys us → Heap.get σ'' q = hpF recs' h0 (fun _ => true) m q) →
          panK P o.op (evalO env'') σ'' (nx + 64 * m) (fun p' us' => p' = p ∧ us' = us))
theorem panK_pick {op : Op} {ev : Operand → AV} {σ : Heap} {nid : Nat} {W : PV → Heap → Prop} (h : panK P op ev σ nid W) : ∃ p us, W p us ∧ ∀ (ev' : Operand → AV) (σ' : Heap), (∀ x ∈ op.operands.toList, ev' x = ev x) →
    (∀ q, q ∈ keys us → σ'.get q = σ.get q) → panK P op ev' σ' nid (fun p' us' => p' = p ∧ us' = us) := by
  unfold panK at *
  cases op <;> try exact h.elim
  rename_i c
  obtain ⟨callee, args, ats⟩ := c
  cases callee with
  | builtin b => exact h.elim
  | invoke r m => exact h.elim
  | value x =>
    simp only at h ⊢
    obtain ⟨f, as, as0, σ0, ρ, p, hc, hent, has, hnd, hlive, hsame, hdead, hcall, hK⟩ := h.h
    refine ⟨p, _, hK, fun ev' σ' hev he => ?_⟩
    have he' : ∀ o ∈ ρ, σ'.get o = σ.get o := fun o ho => he o (by simp only [keys, List.map_map, List.mem_map]; exact ⟨o, ho, rfl⟩)
    rw [hev x (by simp [Op.operands, Call.operands]), map_agree (l := args.toList) (fun y hy => hev y (by simp [Op.operands, Call.operands, Array.mem_toList_iff.1 hy]))]
    refine ⟨f, as, as0, σ0, ρ, p, hc, hent, has, hnd, fun o ho => by rw [he' o ho]; exact hlive o ho, fun i hi => ?_, hdead, hcall, rfl, rfl⟩
    have hm : ρ.getD i 0 ∈ ρ := by rw [List.getD_eq_getElem?_getD, List.getElem?_eq_getElem hi]; exact List.getElem_mem hi
    rw [he' _ hm]; exact hsame i hi
theorem drwK_trace {G : Gam P} : ∀ (rest : List Oper) (i : Nat) (env : Env) (hp : Heap) (recs : Nat → Rec) (fps : List (List Nat × List Nat)), (∀ j, ops[i + j]? = rest[j]?) → i + rest.length = ops.length →
    (∀ t, env.get t = envF ops recs e0 (fun _ => true) i t) → (∀ q, hp.get q = hpF recs h0 (fun _ => true) i q) → (∀ k o, k < i → ops[k]? = some o → TrOk P ops nx recs e0 h0 k o) →
    fps = (List.range i).map (fun k => ((recs k).fp, keys (recs k).us)) → drwK G ops nx yk rest i env hp fps K KP →
    Cut P G ops nx yk e0 h0 K KP := by
  intro rest
  induction rest with
  | nil =>
    intro i env hp recs fps hops hlen hE hH hT hf h
    simp at hlen
    subst hlen
    simp only [drwK] at h
    exact ⟨ops.length, recs, env, hp, Nat.le_refl _, hE, hH, fun k o hk hk' => hT k o hk hk', .inl ⟨by rw [← hf]; exact okC_of h.1 (by rw [hf]; simp), by rw [List.drop_length]; exact h.2⟩⟩
  | cons o r ih =>
    intro i env hp recs fps hops hlen hE hH hT hf h
    simp only [drwK] at h
    have hoi : ops[i]? = some o := by simpa using hops 0
    have hops' : ∀ j, ops[i + 1 + j]? = r[j]? := fun j => by have := hops (j + 1); rw [show i + 1 + j = i + (j + 1) by omega]; simpa using this
    have hlen' : i + 1 + r.length = ops.length := by simp at hlen; omega
    -- what one operation's record makes of it all
    have next : ∀ (x : Rec) (env1 : Env), (∀ t, env1.get t = env.get t) →
        (TrOk P ops nx (fun k => if k = i then x else recs k) e0 h0 i o) →
        drwK G ops nx yk r (i + 1) (env1.put o.dst x.v) (x.us ++ hp) (fps ++ [(x.fp, keys x.us)]) K KP →
        Cut P G ops nx yk e0 h0 K KP := by
      intro x env1 h1 h2 h3
      have hlow : ∀ t, envF ops (fun k => if k = i then x else recs k) e0 (fun _ => true) i t = envF ops recs e0 (fun _ => true) i t := fun t => envF_congr (fun k hk => if_neg (by omega)) (fun _ _ => rfl)
      have hlow2 : ∀ t, hpF (fun k => if k = i then x else recs k) h0 (fun _ => true) i t = hpF recs h0 (fun _ => true) i t := fun t => hpF_congr (fun k hk => if_neg (by omega)) (fun _ _ => rfl)
      refine ih (i + 1) _ _ (fun k => if k = i then x else recs k) _ hops' hlen' (fun t => ?_) (fun q => ?_) (fun k o' hk hk' => ?_) ?_ h3
      · simp only [envF, hlow, if_true, true_and, dstOf, hoi, Option.bind_some]
        cases hd : o.dst with
        | none => simp [Env.put, h1, hE]
        | some d =>
          simp only [Env.put, Env.get, h1, hE, Option.some.injEq]
      · simp only [hpF, hlow2, if_true, true_and]
        rw [get_append, hH]
      · rcases Nat.lt_or_ge k i with hlt | hge
        · exact (hT k o' hlt hk').congr fun m hm => if_neg (by omega)
        · have : k = i := by omega
          subst this
          rw [hoi] at hk'; injection hk' with hk'; subst hk'
          exact h2
      · rw [hf, List.range_succ, List.map_append]
        simp only [List.map_cons, List.map_nil, if_true]
        congr 1
        apply List.map_congr_left
        intro k hk
        have : k ≠ i := by have := List.mem_range.1 hk; omega
        simp [this]
    -- a run operation
    have run : ∀ env1 : Env, (∀ t, env1.get t = env.get t) →
        (o.guard = none ∨ ∃ j want t, o.guard = some (j, want) ∧ dstOf ops j = some t ∧ envF ops recs e0 (fun _ => true) i t = .p (.bool want)) →
        (match yieldOf (evalO env1) o.op with
          | some _ => okC ops fps = true ∧ seqK G ops (o :: r) ⟨env1, hp, nx + 64 * i, yk⟩ K KP
          | none => xalt o.op (stK P o.op (evalO env1) hp (nx + 64 * i) fun v us => drwK G ops nx yk r (i + 1) (env1.put o.dst v) (us ++ hp) (fps ++ [(fpOp o.op (evalO env1), keys us)]) K KP) (panK P o.op (evalO env1) hp (nx + 64 * i) fun p us => okX ops (fps ++ [([], keys us)]) = true ∧ KP p ⟨[], [], nx + 64 * ops.length, yk⟩)) →
        Cut P G ops nx yk e0 h0 K KP := by
      intro env1 h1 hg hst
      cases hy : yieldOf (evalO env1) o.op with
      | some y =>
        rw [hy] at hst
        refine ⟨i, recs, env1, hp, by simp at hlen; omega, fun t => by rw [h1, hE], hH, hT, .inl ⟨by rw [← hf]; exact hst.1, ?_⟩⟩
        have : ops.drop i = o :: r := by
          refine List.ext_getElem? fun j => ?_
          rw [List.getElem?_drop]; exact hops j
        rw [this]; exact hst.2
      | none =>
      rw [hy] at hst
      simp only at hst
      rcases xalt_or hst with hst | hst
      rotate_left
      · obtain ⟨p, us, ⟨k1, k1'⟩, k2⟩ := panK_pick hst
        refine ⟨i, recs, env1, hp, by simp at hlen; omega, fun t => by rw [h1, hE], hH, hT, .inr ⟨o, p, us, hoi, hg, by rw [← hf]; exact k1, k1', fun env' σ' he hh => ?_⟩⟩
        exact k2 (evalO env') σ' (evalO_agree fun t ht => by rw [he t ht, h1, hE]) fun q hq => by rw [hh q hq, hH]
      obtain ⟨v, us, k1, k2⟩ := stK_pickF hst
      refine next ⟨true, fpOp o.op (evalO env1), v, us⟩ env1 h1 (.inl ?_) k1
      have hlow : ∀ t, envF ops (fun k => if k = i then (⟨true, fpOp o.op (evalO env1), v, us⟩ : Rec) else recs k) e0 (fun _ => true) i t = envF ops recs e0 (fun _ => true) i t :=
        fun t => envF_congr (fun k hk => if_neg (by omega)) (fun _ _ => rfl)
      have hlow2 : ∀ t, hpF (fun k => if k = i then (⟨true, fpOp o.op (evalO env1), v, us⟩ : Rec) else recs k) h0 (fun _ => true) i t = hpF recs h0 (fun _ => true) i t :=
        fun t => hpF_congr (fun k hk => if_neg (by omega)) (fun _ _ => rfl)
      simp only [if_true, hlow, hlow2, true_and]
      refine ⟨hg, fun env' σ' he hh => k2 (evalO env') σ' (evalO_agree fun t ht => by rw [he t ht, h1, hE]) fun q hq => by rw [hh q hq, hH]⟩
    unfold guardK at h
    cases hg : o.guard with
    | none => rw [hg] at h; exact run env (fun _ => rfl) (.inl hg) h
    | some g =>
      obtain ⟨j, want⟩ := g
      rw [hg] at h
      simp only at h
      cases hd : (ops[j]?).bind (·.dst) with
      | none => rw [hd] at h; exact h.elim
      | some t =>
        rw [hd] at h
        simp only at h
        have hdt : dstOf ops j = some t := hd
        have hlowg : ∀ (x : Rec), envF ops (fun k => if k = i then x else recs k) e0 (fun _ => true) i t = envF ops recs e0 (fun _ => true) i t := fun x => envF_congr (fun k hk => if_neg (by omega)) (fun _ _ => rfl)
        split at h
        · rename_i b hb
          have env1 : ∀ c, b = c → ∀ u, Env.get ((t, .p (.bool c)) :: env) u = env.get u := fun c hc u => by
            simp only [Env.get]
            split
            · rename_i e; rw [← e, hb, hc]
            · rfl
          by_cases hw : b = want
          · refine run ((t, .p (.bool want)) :: env) (env1 want hw) (.inr ⟨j, want, t, hg, hdt, ?_⟩) (h.1 hw)
            rw [← hE, hb, hw]
          · have hb' : b = !want := by cases b <;> cases want <;> simp_all
            refine next ⟨false, [], undefA, []⟩ ((t, .p (.bool !want)) :: env) (env1 _ hb') (.inr ?_) (h.2 hw)
            simp only [if_true, true_and]
            exact ⟨j, want, t, hg, hdt, .inl (by rw [hlowg, ← hE, hb, hb'])⟩
        · rename_i hb
          refine next ⟨false, [], undefA, []⟩ env (fun _ => rfl) (.inr ?_) h
          simp only [if_true, true_and]
          exact ⟨j, want, t, hg, hdt, .inr (by rw [hlowg, ← hE, hb])⟩
        · exact h.elim
end
end Go.Sg

namespace Go.Sg
open Go

section
variable {P : Program} {N : Nat} {ops : List Oper} {nx : Nat} {e0 : Nat → AV} {h0 : Nat → AObj} {recs : Nat → Rec}

def lst (listed : Array Bool) (k : Nat) : Bool := listed.getD k false
theorem lst_set {listed : Array Bool} {j : Nat} (hj : j < listed.size) (k : Nat) : lst (listed.setIfInBounds j true) k = if k = j then true else lst listed k := by
  unfold lst
  split
  · rename_i e; subst e; simp [hj]
  · rename_i e; exact getD_set_ne false (fun h => e h.symm)

theorem okR_spec {fps : List (List Nat × List Nat)} (h : okR ops fps = true) :
    (∀ j o, ops[j]? = some o → ∀ k ∈ afterOn o, k < j) ∧ ∀ i j, i < j → j < ops.length → conf ops fps i j = true → ∀ (o : Oper), ops[j]? = some o → ∀ D : Nat → Prop, Closed ops D → (∀ k ∈ afterOn o, D k) → D i := by
  unfold okR at h
  simp only [List.all_eq_true, List.mem_range, Bool.and_eq_true] at h
  refine ⟨fun j o ho k hk => ?_, fun i j hij hj hc o ho D hD hk => ?_⟩
  · have hj := (List.getElem?_eq_some_iff.1 ho).1
    have := (h j hj).1
    rw [ho] at this
    simpa using List.all_eq_true.1 this k hk
  · have := (h j hj).2 i hij
    rw [hc] at this
    simp only [Bool.not_true, Bool.or_false] at this
    have hlen : j < (ancs ops []).length := by
      rcases Nat.lt_or_ge j (ancs ops []).length with h' | h'
      · exact h'
      · rw [List.getD_eq_getElem?_getD, List.getElem?_eq_none h'] at this; simp at this
    have hg : (ancs ops [])[j]? = some ((ancs ops []).getD j []) := by rw [List.getD_eq_getElem?_getD, List.getElem?_eq_getElem hlen]; rfl
    exact ancs_spec ops [] 0 (by simp) rfl (by simp) j _ o hg ho D hD hk i (by simpa using this)

theorem okC_spec {fps : List (List Nat × List Nat)} (h : okC ops fps = true) :
    (∀ j o, ops[j]? = some o → ∀ k ∈ afterOn o, k < j) ∧ ∀ i j, i < j → j < ops.length → (fps.length ≤ j ∨ conf ops fps i j = true) → ∀ (o : Oper), ops[j]? = some o → ∀ D : Nat → Prop, Closed ops D → (∀ k ∈ afterOn o, D k) → D i := by
  unfold okC at h
  simp only [List.all_eq_true, List.mem_range, Bool.and_eq_true] at h
  refine ⟨fun j o ho k hk => ?_, fun i j hij hj hc o ho D hD hk => ?_⟩
  · have hj := (List.getElem?_eq_some_iff.1 ho).1
    have := (h j hj).1
    rw [ho] at this
    simpa using List.all_eq_true.1 this k hk
  · have := (h j hj).2 i hij
    have e : (decide (j < fps.length) && !conf ops fps i j) = false := by
      rcases hc with hc | hc
      · rw [decide_eq_false (by omega)]; rfl
      · rw [hc]; simp
    rw [e] at this
    simp only [Bool.or_false] at this
    have hlen : j < (ancs ops []).length := by
      rcases Nat.lt_or_ge j (ancs ops []).length with h' | h'
      · exact h'
      · rw [List.getD_eq_getElem?_getD, List.getElem?_eq_none h'] at this; simp at this
    have hg : (ancs ops [])[j]? = some ((ancs ops []).getD j []) := by rw [List.getD_eq_getElem?_getD, List.getElem?_eq_getElem hlen]; rfl
    exact ancs_spec ops [] 0 (by simp) rfl (by simp) j _ o hg ho D hD hk i (by simpa using this)

/-- How the state stands, when the operations of 'listed' have run. -/
structure InvD (P : Program) (N : Nat) (ops : List Oper) (nx : Nat) (e0 : Nat → AV) (h0 : Nat → AObj) (recs : Nat → Rec) (m : Nat) (listed : Array Bool) (F : Nat → Prop) (μ : Num) (a : Act) (w : World) : Prop where
  sz : listed.size = ops.length
  dc : Closed ops (fun k => lst listed k = true)
  lo : ∀ k, m ≤ k → lst listed k = false
  sim : ∃ hp : Heap, SimH F μ hp w ∧ ∀ q, hp.get q = hpF recs h0 (lst listed) m q
  env : ∃ en : Env, (∀ t, RV F μ w (a.tmps[t]?.getD undef) (en.get t)) ∧ ∀ t, en.get t = envF ops recs e0 (lst listed) m t
  size : a.tmps.size = N
  fresh : ∀ o, nx + 64 * m ≤ o → μ o = none
  win : ∀ j, j < m → lst listed j = false → ∀ o, nx + 64 * j ≤ o → o < nx + 64 * j + 64 → μ o = none

def unl (n : Nat) (listed : Array Bool) : Nat := ((List.range n).filter fun j => !lst listed j).length
theorem unl_lt {n j : Nat} {listed : Array Bool} (hj : j < n) (hs : j < listed.size) (h : lst listed j = false) : unl n (listed.setIfInBounds j true) < unl n listed := by
  unfold unl
  have e : (List.range n).filter (fun k => !lst (listed.setIfInBounds j true) k) = ((List.range n).filter fun k => !lst listed k).filter (fun k => decide (k ≠ j)) := by
    rw [List.filter_filter]
    apply List.filter_congr
    intro k _
    rw [lst_set hs]
    by_cases e : k = j <;> simp [e]
  rw [e]
  exact List.length_filter_lt_length_iff_exists.2 ⟨j, by simp [hj, h], by simp⟩
theorem unl_zero {n : Nat} {listed : Array Bool} (h : unl n listed = 0) (j : Nat) (hj : j < n) : lst listed j = true := by
  unfold unl at h
  have := List.length_eq_zero_iff.1 h
  cases hl : lst listed j with
  | true => rfl
  | false =>
    have hm : j ∈ (List.range n).filter fun j => !lst listed j := by simp [hj, hl]
    rw [this] at hm; simp at hm

theorem keys_of_looks {o : Oper} {d : Nat} : True := trivial

theorem conf_tmp {i j t : Nat} {x y : Oper} {fps : List (List Nat × List Nat)} (hx : ops[i]? = some x) (hy : ops[j]? = some y) (h : (x.dst = some t ∧ (t ∈ y.looksAt ops.toArray ∨ y.dst = some t)) ∨ (y.dst = some t ∧ t ∈ x.looksAt ops.toArray)) :
    conf ops fps i j = true := by
  unfold conf
  rw [hx, hy]
  simp only [Bool.or_eq_true, Bool.not_eq_true']
  left; left
  cases ha : Oper.apart ops.toArray x y with
  | false => rfl
  | true =>
    obtain ⟨h1, h2, h3⟩ := Oper.apart_spec ha
    rcases h with ⟨hd, h | h⟩ | ⟨hd, h⟩
    · exact absurd h (h1 t hd)
    · exact absurd h (h2 t hd)
    · exact absurd h (h3 t hd)
theorem conf_obj {i j q n : Nat} {x y : Oper} (hx : ops[i]? = some x) (hy : ops[j]? = some y) (hi : i < n) (hj : j < n)
    (h : (q ∈ keys (recs i).us ∧ (q ∈ (recs j).fp ∨ q ∈ keys (recs j).us)) ∨ (q ∈ keys (recs j).us ∧ q ∈ (recs i).fp)) :
    conf ops ((List.range n).map (fun k => ((recs k).fp, keys (recs k).us))) i j = true := by
  unfold conf
  rw [hx, hy]
  have hg : ∀ k, k < n → ((List.range n).map (fun k => ((recs k).fp, keys (recs k).us))).getD k ([], []) = ((recs k).fp, keys (recs k).us) := fun k hk => by
    rw [List.getD_eq_getElem?_getD, List.getElem?_map, List.getElem?_range hk]; rfl
  simp only [hg i hi, hg j hj, Bool.or_eq_true, List.any_eq_true, List.contains_eq_mem, decide_eq_true_eq]
  rcases h with ⟨h1, h⟩ | ⟨h1, h2⟩
  · exact .inl (.inr ⟨q, h1, h⟩)
  · exact .inr ⟨q, h1, h2⟩

theorem ready_lst (listed : Array Bool) (j : Nat) (hs : listed.size = ops.length) : (j ∈ Region.ready .any ops.toArray listed ↔ j < ops.length ∧ lst listed j = false ∧ ∃ o, ops[j]? = some o ∧ ∀ k ∈ afterOn o, lst listed k = true) := by
    rw [mem_ready]
    constructor
    · rintro ⟨h1, o, h2, h3⟩
      have h2' : ops[j]? = some o := by simpa using h2
      have hj := (List.getElem?_eq_some_iff.1 h2').1
      refine ⟨hj, ?_, o, h2', fun k hk => ?_⟩
      · unfold lst; rw [Array.getD_eq_getD_getElem?, Array.getElem?_eq_getElem (by omega)] at h1 ⊢; exact h1
      · obtain ⟨e, he, hb, rfl⟩ := mem_afterOn.1 hk
        exact h3 e he hb
    · rintro ⟨hj, h1, o, h2, h3⟩
      refine ⟨?_, o, by simpa using h2, fun e he hb => h3 e.on (mem_afterOn.2 ⟨e, he, hb, rfl⟩)⟩
      unfold lst at h1; rw [Array.getD_eq_getD_getElem?, Array.getElem?_eq_getElem (by omega)] at h1 ⊢; exact h1

theorem drwK_core {ro : Option Nat} {n : Nat} {Q : Exit → Act → World → Prop} {w0 : World} {F0 : Nat → Prop} {μ0 : Num} {a0 : Act} (hok : okOps N ops = true) {m : Nat} (hm : m ≤ ops.length)
    (hlow : ∀ j o, ops[j]? = some o → ∀ k ∈ afterOn o, k < j)
    (hanc : ∀ i j, i < j → j < m → conf ops ((List.range m).map (fun k => ((recs k).fp, keys (recs k).us))) i j = true → ∀ (o : Oper), ops[j]? = some o → ∀ D : Nat → Prop, Closed ops D → (∀ k ∈ afterOn o, D k) → D i)
    (hT : ∀ k o, k < m → ops[k]? = some o → TrOk P ops nx recs e0 h0 k o)
    (done : ∀ (fuel : Nat) (listed : Array Bool) (F : Nat → Prop) (μ : Num) (a : Act) (w : World), ops.length - m ≤ fuel → (∀ j, j < m → lst listed j = true) → Step F0 μ0 w0 F μ w → InvD P N ops nx e0 h0 recs m listed F μ a w → a.defers = a0.defers → wpAnyIn (fc ro) n P .any ops.toArray Q fuel listed a w)
    (beyond : ∀ (fuel : Nat) (listed : Array Bool) (F : Nat → Prop) (μ : Num) (a : Act) (w : World) (j : Nat) (o : Oper), m ≤ j → j < ops.length → lst listed j = false → ops[j]? = some o → (∀ k ∈ afterOn o, lst listed k = true) → (∃ j, j < m ∧ lst listed j = false) →
      Step F0 μ0 w0 F μ w → InvD P N ops nx e0 h0 recs m listed F μ a w → a.defers = a0.defers → wpOpIn (fc ro) n P ops.toArray Q j (wpAnyIn (fc ro) n P .any ops.toArray Q fuel (listed.setIfInBounds j true)) a w) :
    ∀ (fuel : Nat) (listed : Array Bool) (F : Nat → Prop) (μ : Num) (a : Act) (w : World), unl m listed + (ops.length - m) ≤ fuel → Step F0 μ0 w0 F μ w → InvD P N ops nx e0 h0 recs m listed F μ a w → a.defers = a0.defers →
      wpAnyIn (fc ro) n P .any ops.toArray Q fuel listed a w := by
  intro fuel
  induction fuel with
  | zero =>
    intro listed F μ a w hu hst hI hdf
    exact done 0 listed F μ a w (by omega) (unl_zero (by omega)) hst hI hdf
  | succ fuel ih =>
    intro listed F μ a w hu hst hI hdf
    rcases Nat.eq_zero_or_pos (unl m listed) with hz | hpos
    · exact done (fuel + 1) listed F μ a w (by omega) (unl_zero hz) hst hI hdf
    have hex : ∃ j, j < m ∧ lst listed j = false := by
      rcases Classical.em (∃ j, j < m ∧ lst listed j = false) with h | h
      · exact h
      · have : unl m listed = 0 := by
          unfold unl
          rw [List.length_eq_zero_iff, List.filter_eq_nil_iff]
          intro j hj
          have hj := List.mem_range.1 hj
          cases hl : lst listed j with
          | true => simp
          | false => exact absurd ⟨j, hj, hl⟩ h
        omega
    refine ⟨fun hnil => ?_, fun j hj => ?_⟩
    · exfalso
      obtain ⟨j0, hj0, hl0⟩ := hex
      have all : ∀ j, j < m → lst listed j = true := fun j => by
        induction j using Nat.strongRecOn with
        | _ j ihj =>
          intro hj
          cases hl : lst listed j with
          | true => rfl
          | false =>
            have hoj : ops[j]? = some (ops[j]'(by omega)) := List.getElem?_eq_getElem _
            have : j ∈ Region.ready .any ops.toArray listed := (ready_lst listed j hI.sz).2 ⟨by omega, hl, _, hoj, fun k hk => ihj k (hlow j _ hoj k hk) (by have := hlow j _ hoj k hk; omega)⟩
            rw [hnil] at this; simp at this
      rw [all j0 hj0] at hl0; cases hl0
    · obtain ⟨hjl', hun, o, ho, haf⟩ := (ready_lst listed j hI.sz).1 hj
      rcases Nat.lt_or_ge j m with hjl | hge
      rotate_left
      · exact beyond fuel listed F μ a w j o hge hjl' hun ho haf hex hst hI hdf
      have hjs : j < listed.size := by rw [hI.sz]; exact hjl'
      have hgo : ∀ k, k < m → ∃ x, ops[k]? = some x := fun k hk => ⟨_, List.getElem?_eq_getElem (by omega)⟩
      -- the order's two facts
      have fA : ∀ i, i < j → conf ops ((List.range m).map (fun k => ((recs k).fp, keys (recs k).us))) i j = true → lst listed i = true := fun i hij hc => hanc i j hij hjl hc o ho _ hI.dc haf
      have fB : ∀ k, j < k → k < m → conf ops ((List.range m).map (fun k => ((recs k).fp, keys (recs k).us))) j k = true → lst listed k = false := fun k hjk hk hc => by
        obtain ⟨x, hx⟩ := hgo k hk
        cases hl : lst listed k with
        | false => rfl
        | true =>
          have := hanc j k hjk hk hc x hx _ hI.dc (hI.dc k x hx hl)
          rw [hun] at this; cases this
      have dst_of : ∀ {k t}, dstOf ops k = some t → ∃ x, ops[k]? = some x ∧ x.dst = some t := fun {k t} h => by
        unfold dstOf at h
        obtain ⟨x, h1, h2⟩ := Option.bind_eq_some_iff.1 h
        exact ⟨x, h1, h2⟩
      have hE : ∀ t ∈ o.looksAt ops.toArray, envF ops recs e0 (lst listed) m t = envF ops recs e0 (fun _ => true) j t := fun t ht => by
        refine envF_eq (Nat.le_of_lt hjl) (fun i hij hd => ?_) (fun k hjk hk hd => ?_)
        · obtain ⟨x, h1, h2⟩ := dst_of hd
          exact fA i hij (conf_tmp h1 ho (.inl ⟨h2, .inl ht⟩))
        · rcases Nat.lt_or_ge j k with h | h
          · obtain ⟨x, h1, h2⟩ := dst_of hd
            exact fB k h hk (conf_tmp ho h1 (.inr ⟨h2, ht⟩))
          · have : k = j := by omega
            subst this; exact hun
      have hH : ∀ q, q ∈ (recs j).fp ∨ q ∈ keys (recs j).us → hpF recs h0 (lst listed) m q = hpF recs h0 (fun _ => true) j q := fun q hq => by
        refine hpF_eq (Nat.le_of_lt hjl) (fun i hij hd => ?_) (fun k hjk hk hd => ?_)
        · obtain ⟨x, h1⟩ := hgo i (by omega)
          exact fA i hij (conf_obj h1 ho (by omega) hjl (.inl ⟨hd, hq⟩))
        · rcases Nat.lt_or_ge j k with h | h
          · obtain ⟨x, h1⟩ := hgo k hk
            refine fB k h hk (conf_obj (q := q) ho h1 hjl hk ?_)
            rcases hq with hq | hq
            · exact .inr ⟨hd, hq⟩
            · exact .inl ⟨hq, .inr hd⟩
          · have : k = j := by omega
            subst this; exact hun
      have hdst : ∀ d, o.dst = some d → d < N := okOps_spec hok o (List.mem_of_getElem? ho)
      have hdf' : ∀ v, (a.put o.dst v).defers = a0.defers := fun v => by rw [← hdf]; cases o.dst <;> rfl
      obtain ⟨en, e1, e2⟩ := hI.env
      obtain ⟨hp, s1, s2⟩ := hI.sim
      -- what follows, once the operation has run
      have go : ∀ (v : Value) (w' : World) (F' : Nat → Prop) (μ' : Num), Step F μ w F' μ' w' → SimH F' μ' ((recs j).us ++ hp) w' → RV F' μ' w' v (recs j).v →
          (∀ q, q < nx + 64 * j ∨ nx + 64 * j + 64 ≤ q → μ' q = μ q) → wpAnyIn (fc ro) n P .any ops.toArray Q fuel (listed.setIfInBounds j true) (a.put o.dst v) w' := by
        intro v w' F' μ' k1 k2 k3 k4
        refine ih _ F' μ' _ w' ?_ (hst.trans k1) ?_ (hdf' v)
        · have := unl_lt hjl hjs hun; omega
        · refine ⟨by simp [hI.sz], fun k x hx hk m' hm' => ?_, fun k hk => ?_, ⟨_, k2, fun q => ?_⟩, ⟨en.put o.dst (recs j).v, put_env (fun t => (e1 t).step k1) (fun d hd => by rw [hI.size]; exact hdst d hd) k3, fun t => ?_⟩,
            by cases o.dst <;> simp [Act.put, hI.size], fun q hq => ?_, fun k hk hl q h1 h2 => ?_⟩
          · have hk : lst (listed.setIfInBounds j true) k = true := hk
            show lst (listed.setIfInBounds j true) m' = true
            rw [lst_set hjs] at hk ⊢
            by_cases e : m' = j
            · rw [if_pos e]
            · rw [if_neg e]
              by_cases e' : k = j
              · subst e'; rw [ho] at hx; injection hx with hx; subst hx; exact haf m' hm'
              · rw [if_neg e'] at hk; exact hI.dc k x hx hk m' hm'
          · rw [lst_set hjs, if_neg (by omega)]; exact hI.lo k hk
          · rw [get_append, s2 q, hpF_set hjl (lst_set hjs) fun k hjk hk h1 h2 => ?_]
            obtain ⟨x, hx⟩ := hgo k hk
            exact fB k hjk hk (conf_obj ho hx hjl hk (.inl ⟨h1, .inr h2⟩))
          · rw [envF_set hjl (lst_set hjs) fun k hjk hk h1 h2 => ?_, ← e2]
            · have hdj : dstOf ops j = o.dst := by simp [dstOf, ho]
              rw [hdj]
              cases o.dst with
              | none => simp [Env.put]
              | some d => simp only [Env.put, Env.get, Option.some.injEq]
            · obtain ⟨x, hx, hxd⟩ := dst_of h2
              obtain ⟨y, hy, hyd⟩ := dst_of h1
              rw [ho] at hy; injection hy with hy; subst hy
              exact fB k hjk hk (conf_tmp ho hx (.inl ⟨hyd, .inr hxd⟩))
          · rw [k4 q (by omega)]; exact hI.fresh q hq
          · rw [lst_set hjs] at hl
            by_cases e : k = j
            · rw [if_pos e] at hl; cases hl
            · rw [if_neg e] at hl
              rw [k4 q (by omega)]; exact hI.win k hk hl q h1 h2
      -- the guard
      have yv : ∀ {g : Nat} {want : Bool} {t : Nat}, o.guard = some (g, want) → dstOf ops g = some t → ∃ v, yielded ops.toArray a.tmps g = (match v with | .bool b => some b | _ => none) ∧ RV F μ w v (envF ops recs e0 (fun _ => true) j t) := by
        intro g want t hg hd
        obtain ⟨x, hx, hxd⟩ := dst_of hd
        have hlt : t < a.tmps.size := by rw [hI.size]; exact okOps_spec hok x (List.mem_of_getElem? hx) t hxd
        refine ⟨a.tmps[t]?.getD undef, ?_, ?_⟩
        · unfold yielded
          have : (ops.toArray[g]?).bind (·.dst) = some t := by simpa [dstOf] using hd
          rw [this]
          simp only [Option.bind_some]
          rw [Array.getElem?_eq_getElem hlt, Option.getD_some]
          cases a.tmps[t] <;> rfl
        · rw [← hE t (guard_look hg hd), ← e2]; exact e1 t
      unfold wpOpIn
      have ho' : ops.toArray[j]? = some o := by simpa using ho
      simp only [ho']
      rcases hT j o hjl ho with ⟨hex, hg, hst'⟩ | ⟨hex, hv, hus, hfp, g, want, t, hg, hd, hval⟩
      · have hw : Region.wanted o (yielded ops.toArray a.tmps) = true := by
          unfold Region.wanted
          rcases hg with hg | ⟨g, want, t, hg, hd, hval⟩
          · rw [hg]
          · rw [hg]
            obtain ⟨v, y1, y2⟩ := yv hg hd
            rw [hval] at y2
            have := pbool_inv y2
            subst this
            simp [y1]
        rw [hw]
        simp only [if_true]
        have hst'' := hst' en hp (fun t ht => by rw [e2, hE t ht]) (fun q hq => by rw [s2, hH q hq])
        refine stK_sound s1 (fun q h1 h2 => hI.win j hjl hun q h1 h2) (eval_rv e1) hst'' fun av us v w' F' μ' k1 k2 k3 k4 k5 => ?_
        obtain ⟨rfl, rfl⟩ := k1
        exact go v w' F' μ' k2 k3 k4 k5
      · have hw : Region.wanted o (yielded ops.toArray a.tmps) = false := by
          unfold Region.wanted
          rw [hg]
          obtain ⟨v, y1, y2⟩ := yv hg hd
          rcases hval with hval | hval
          · rw [hval] at y2
            have := pbool_inv y2
            subst this
            simp [y1]
          · rw [hval] at y2
            have := tup_nil_inv y2
            subst this
            simp [y1]
        rw [hw]
        simp only [Bool.false_eq_true, if_false]
        refine ⟨about_any o a w, go undef w F μ (Step.refl F μ w) (by rw [hus]; exact s1) (by rw [hv]; exact undef_rv) (fun _ _ => rfl)⟩

theorem drwK_any {ro : Option Nat} {n : Nat} {Q : Exit → Act → World → Prop} {w0 : World} {F0 : Nat → Prop} {μ0 : Num} {a0 : Act} (hok : okOps N ops = true) {m : Nat} (hm : m ≤ ops.length)
    (hR : okC ops ((List.range m).map (fun k => ((recs k).fp, keys (recs k).us))) = true) (hT : ∀ k o, k < m → ops[k]? = some o → TrOk P ops nx recs e0 h0 k o)
    (hend : ∀ F' μ' a' w' (hp : Heap) (en : Env), Step F0 μ0 w0 F' μ' w' → SimH F' μ' hp w' → (∀ q, hp.get q = hpF recs h0 (fun _ => true) m q) → (∀ t, RV F' μ' w' (a'.tmps[t]?.getD undef) (en.get t)) →
      (∀ t, en.get t = envF ops recs e0 (fun _ => true) m t) → a'.tmps.size = N → (∀ o, nx + 64 * m ≤ o → μ' o = none) → a'.defers = a0.defers → wpListIn (fc ro) n P ops.toArray Q (ops.drop m) a' w') :
    ∀ (fuel : Nat) (listed : Array Bool) (F : Nat → Prop) (μ : Num) (a : Act) (w : World), unl m listed + (ops.length - m) ≤ fuel → Step F0 μ0 w0 F μ w → InvD P N ops nx e0 h0 recs m listed F μ a w → a.defers = a0.defers →
      wpAnyIn (fc ro) n P .any ops.toArray Q fuel listed a w := by
  obtain ⟨hlow, hanc'⟩ := okC_spec hR
  have hanc : ∀ i j, i < j → j < m → conf ops ((List.range m).map (fun k => ((recs k).fp, keys (recs k).us))) i j = true → ∀ (o : Oper), ops[j]? = some o → ∀ D : Nat → Prop, Closed ops D → (∀ k ∈ afterOn o, D k) → D i := fun i j h1 h2 h3 => hanc' i j h1 (by omega) (.inr h3)
  have htail : ∀ i j, i < j → j < ops.length → m ≤ j → ∀ (o : Oper), ops[j]? = some o → ∀ D : Nat → Prop, Closed ops D → (∀ k ∈ afterOn o, D k) → D i := fun i j h1 h2 h3 => hanc' i j h1 h2 (.inl (by simpa using h3))
  -- once they have all run, the rest comes one by one
  have tail : ∀ (fuel k : Nat) (listed : Array Bool) (a : Act) (w : World), ops.length - k ≤ fuel → m ≤ k → k ≤ ops.length → listed.size = ops.length → (∀ i, lst listed i = decide (i < k)) → wpListIn (fc ro) n P ops.toArray Q (ops.drop k) a w →
      wpAnyIn (fc ro) n P .any ops.toArray Q fuel listed a w := by
    intro fuel
    induction fuel with
    | zero =>
      intro k listed a w hf hmk hk hs hl hw
      have e : k = ops.length := by omega
      subst e
      rw [List.drop_length] at hw
      refine ⟨?_, hw⟩
      rw [List.eq_nil_iff_forall_not_mem]
      intro j hj
      obtain ⟨h1, h2, _⟩ := (ready_lst listed j hs).1 hj
      rw [hl j, decide_eq_true h1] at h2; cases h2
    | succ fuel ih =>
      intro k listed a w hf hmk hk hs hl hw
      rcases Nat.lt_or_ge k ops.length with hlt | hge
      · have hok : ops[k]? = some ops[k] := List.getElem?_eq_getElem hlt
        refine ⟨fun hnil => ?_, fun j hj => ?_⟩
        · have : k ∈ Region.ready .any ops.toArray listed := (ready_lst listed k hs).2 ⟨hlt, by rw [hl k]; simp, _, hok, fun i hi => by rw [hl i]; exact decide_eq_true (hlow k _ hok i hi)⟩
          rw [hnil] at this; simp at this
        · obtain ⟨h1, h2, o, ho, h3⟩ := (ready_lst listed j hs).1 hj
          have hjk : j = k := by
            rw [hl j] at h2
            have h2 := of_decide_eq_false h2
            rcases Nat.lt_or_ge k j with h | h
            · have hcl : Closed ops (fun i => lst listed i = true) := fun j' o' ho' hj' i hi => by
                have hj' : lst listed j' = true := hj'
                show lst listed i = true
                rw [hl] at hj' ⊢
                have := hlow j' o' ho' i hi
                exact decide_eq_true (by have := of_decide_eq_true hj'; omega)
              have := htail k j h h1 (by omega) o ho _ hcl h3
              have this : lst listed k = true := this
              rw [hl k] at this
              have := of_decide_eq_true this
              omega
            · omega
          subst hjk
          have hd : ops.drop j = o :: ops.drop (j + 1) := by
            rw [List.drop_eq_getElem_cons hlt]; congr 1
            rw [hok] at ho; injection ho
          rw [hd] at hw
          have ho' : ops.toArray[j]? = some o := by simpa using ho
          have nxt : ∀ a w, wpListIn (fc ro) n P ops.toArray Q (ops.drop (j + 1)) a w → wpAnyIn (fc ro) n P .any ops.toArray Q fuel (listed.setIfInBounds j true) a w := fun a w h => by
            refine ih (j + 1) _ a w (by omega) (by omega) (by omega) (by simp [hs]) (fun i => ?_) h
            rw [lst_set (by omega), hl i]
            split
            · rename_i e; subst e; exact (decide_eq_true (by omega)).symm
            · rename_i e
              by_cases h' : i < j
              · rw [decide_eq_true h', decide_eq_true (by omega)]
              · rw [decide_eq_false h', decide_eq_false (by omega)]
          refine wpOpIn_mono nxt ?_
          unfold wpOpIn
          simp only [ho']
          exact hw
      · have e : k = ops.length := by omega
        subst e
        rw [List.drop_length] at hw
        refine ⟨fun _ => hw, fun j hj => ?_⟩
        obtain ⟨h1, h2, _⟩ := (ready_lst listed j hs).1 hj
        rw [hl j, decide_eq_true h1] at h2; cases h2
  have done : ∀ (fuel : Nat) (listed : Array Bool) (F : Nat → Prop) (μ : Num) (a : Act) (w : World), ops.length - m ≤ fuel → (∀ j, j < m → lst listed j = true) → Step F0 μ0 w0 F μ w → InvD P N ops nx e0 h0 recs m listed F μ a w → a.defers = a0.defers → wpAnyIn (fc ro) n P .any ops.toArray Q fuel listed a w := by
    intro fuel listed F μ a w hfu hall hst hI hdf
    obtain ⟨hp, s1, s2⟩ := hI.sim
    obtain ⟨en, e1, e2⟩ := hI.env
    refine tail fuel m listed a w hfu (Nat.le_refl _) hm hI.sz (fun i => ?_) (hend F μ a w hp en hst s1 (fun q => (s2 q).trans (hpF_congr (fun _ _ => rfl) fun k hk => hall k hk)) e1 (fun t => (e2 t).trans (envF_congr (fun _ _ => rfl) fun k hk => hall k hk)) hI.size hI.fresh hdf)
    by_cases h : i < m
    · rw [hall i h, decide_eq_true h]
    · rw [hI.lo i (by omega), decide_eq_false h]
  refine drwK_core hok hm hlow hanc hT done fun fuel listed F μ a w j o hge hjl hun ho haf hex hst hI hdf => ?_
  exfalso
  obtain ⟨j0, hj0, hl0⟩ := hex
  have := htail j0 j (by omega) hjl hge o ho _ hI.dc haf
  have this : lst listed j0 = true := this
  rw [this] at hl0; cases hl0

theorem okX_spec {fps : List (List Nat × List Nat)} (h : okX ops fps = true) :
    (∀ j o, ops[j]? = some o → ∀ k ∈ afterOn o, k < j) ∧ ∀ i j, i < j → j < ops.length → ((j < fps.length ∧ conf ops fps i j = true) ∨ (fps.length ≤ j ∧ i + 1 = fps.length)) → ∀ (o : Oper), ops[j]? = some o → ∀ D : Nat → Prop, Closed ops D → (∀ k ∈ afterOn o, D k) → D i := by
  unfold okX at h
  simp only [List.all_eq_true, List.mem_range, Bool.and_eq_true] at h
  refine ⟨fun j o ho k hk => ?_, fun i j hij hj hc o ho D hD hk => ?_⟩
  · have hj := (List.getElem?_eq_some_iff.1 ho).1
    have := (h j hj).1
    rw [ho] at this
    simpa using List.all_eq_true.1 this k hk
  · have := (h j hj).2 i hij
    have e1 : (decide (j < fps.length) && !conf ops fps i j) = false := by
      rcases hc with ⟨_, hc⟩ | ⟨hc, _⟩
      · rw [hc]; simp
      · rw [decide_eq_false (by omega)]; rfl
    have e2 : (decide (fps.length ≤ j) && !decide (i + 1 = fps.length)) = false := by
      rcases hc with ⟨hc, _⟩ | ⟨_, hc⟩
      · rw [decide_eq_false (by omega)]; rfl
      · rw [decide_eq_true hc]; simp
    rw [e1, e2] at this
    simp only [Bool.or_false] at this
    have hlen : j < (ancs ops []).length := by
      rcases Nat.lt_or_ge j (ancs ops []).length with h' | h'
      · exact h'
      · rw [List.getD_eq_getElem?_getD, List.getElem?_eq_none h'] at this; simp at this
    have hg : (ancs ops [])[j]? = some ((ancs ops []).getD j []) := by rw [List.getD_eq_getElem?_getD, List.getElem?_eq_getElem hlen]; rfl
    exact ancs_spec ops [] 0 (by simp) rfl (by simp) j _ o hg ho D hD hk i (by simpa using this)

theorem conf_app {l : List (List Nat × List Nat)} {x : List Nat × List Nat} {i j : Nat} (hi : i < l.length) (hj : j < l.length) : conf ops (l ++ [x]) i j = conf ops l i j := by
  have g : ∀ k, k < l.length → (l ++ [x]).getD k ([], []) = l.getD k ([], []) := fun k hk => by
    rw [List.getD_eq_getElem?_getD, List.getD_eq_getElem?_getD, List.getElem?_append_left hk]
  unfold conf
  rw [g i hi, g j hj]
theorem conf_last {l : List (List Nat × List Nat)} {ks : List Nat} {i q : Nat} {x y : Oper} (hi : i < l.length) (hx : ops[i]? = some x) (hy : ops[l.length]? = some y) (h1 : q ∈ (l.getD i ([], [])).2) (h2 : q ∈ ks) : conf ops (l ++ [([], ks)]) i l.length = true := by
  have g : (l ++ [(([] : List Nat), ks)]).getD i ([], []) = l.getD i ([], []) := by
    rw [List.getD_eq_getElem?_getD, List.getD_eq_getElem?_getD, List.getElem?_append_left hi]
  have g2 : (l ++ [(([] : List Nat), ks)]).getD l.length ([], []) = ([], ks) := by
    rw [List.getD_eq_getElem?_getD, List.getElem?_append_right (Nat.le_refl _)]; simp
  unfold conf
  rw [hx, hy, g, g2]
  simp only [Bool.or_eq_true, List.any_eq_true]
  refine .inl (.inr ⟨q, h1, .inr ?_⟩)
  simpa [List.contains_eq_mem] using h2

/-- An operation that panics, whichever of the others have run before it. -/
theorem drwX_any {ro : Option Nat} {n : Nat} {Q : Exit → Act → World → Prop} {w0 : World} {F0 : Nat → Prop} {μ0 : Num} {a0 : Act} (hok : okOps N ops = true) {m : Nat} {om : Oper} {p : PV} {us : Heap} (hom : ops[m]? = some om)
    (hgd : om.guard = none ∨ ∃ j want t, om.guard = some (j, want) ∧ dstOf ops j = some t ∧ envF ops recs e0 (fun _ => true) m t = .p (.bool want))
    (hX : okX ops ((List.range m).map (fun k => ((recs k).fp, keys (recs k).us)) ++ [([], keys us)]) = true) (hT : ∀ k o, k < m → ops[k]? = some o → TrOk P ops nx recs e0 h0 k o)
    (hpk : ∀ (env'' : Env) (σ'' : Heap), (∀ t ∈ om.looksAt ops.toArray, env''.get t = envF ops recs e0 (fun _ => true) m t) → (∀ q, q ∈ keys us → Heap.get σ'' q = hpF recs h0 (fun _ => true) m q) →
          panK P om.op (evalO env'') σ'' (nx + 64 * m) (fun p' us' => p' = p ∧ us' = us))
    (hend : ∀ F' μ' a' w' v, Step F0 μ0 w0 F' μ' w' → SimH F' μ' [] w' → a'.tmps.size = N → (∀ o, nx + 64 * ops.length ≤ o → μ' o = none) → a'.defers = a0.defers → RP F' w' v p → Q (.panic [{ v, recovered := false }]) a' w') :
    ∀ (fuel : Nat) (listed : Array Bool) (F : Nat → Prop) (μ : Num) (a : Act) (w : World), unl m listed + (ops.length - m) ≤ fuel → Step F0 μ0 w0 F μ w → InvD P N ops nx e0 h0 recs m listed F μ a w → a.defers = a0.defers →
      wpAnyIn (fc ro) n P .any ops.toArray Q fuel listed a w := by
  obtain ⟨hlow, hanc'⟩ := okX_spec hX
  have hml : m < ops.length := (List.getElem?_eq_some_iff.1 hom).1
  have hlen : ((List.range m).map (fun k => ((recs k).fp, keys (recs k).us))).length = m := by simp
  have hanc : ∀ i j, i < j → j < m → conf ops ((List.range m).map (fun k => ((recs k).fp, keys (recs k).us))) i j = true → ∀ (o : Oper), ops[j]? = some o → ∀ D : Nat → Prop, Closed ops D → (∀ k ∈ afterOn o, D k) → D i := fun i j h1 h2 h3 =>
    hanc' i j h1 (by omega) (.inl ⟨by simp; omega, by rw [conf_app (by simp; omega) (by simp; omega)]; exact h3⟩)
  have hafter : ∀ j, m < j → j < ops.length → ∀ (o : Oper), ops[j]? = some o → ∀ D : Nat → Prop, Closed ops D → (∀ k ∈ afterOn o, D k) → D m := fun j h1 h2 => hanc' m j h1 h2 (.inr ⟨by simp; omega, by simp⟩)
  have hbef : ∀ i, i < m → conf ops ((List.range m).map (fun k => ((recs k).fp, keys (recs k).us)) ++ [([], keys us)]) i m = true → ∀ D : Nat → Prop, Closed ops D → (∀ k ∈ afterOn om, D k) → D i := fun i h1 h3 => hanc' i m h1 hml (.inl ⟨by simp, h3⟩) om hom
  -- the operation itself
  have pan : ∀ (K : Act → World → Prop) (listed : Array Bool) (F : Nat → Prop) (μ : Num) (a : Act) (w : World), lst listed m = false → (∀ k ∈ afterOn om, lst listed k = true) → Step F0 μ0 w0 F μ w → InvD P N ops nx e0 h0 recs m listed F μ a w → a.defers = a0.defers →
      wpOpIn (fc ro) n P ops.toArray Q m K a w := by
    intro K listed F μ a w hun haf hst hI hdf
    have fA : ∀ i, i < m → conf ops ((List.range m).map (fun k => ((recs k).fp, keys (recs k).us)) ++ [([], keys us)]) i m = true → lst listed i = true := fun i hij hc => hbef i hij hc _ hI.dc haf
    have dst_of : ∀ {k t}, dstOf ops k = some t → ∃ x, ops[k]? = some x ∧ x.dst = some t := fun {k t} h => by
      unfold dstOf at h
      obtain ⟨x, h1, h2⟩ := Option.bind_eq_some_iff.1 h
      exact ⟨x, h1, h2⟩
    have hE : ∀ t ∈ om.looksAt ops.toArray, envF ops recs e0 (lst listed) m t = envF ops recs e0 (fun _ => true) m t := fun t ht => by
      refine envF_eq (Nat.le_refl m) (fun i hij hd => ?_) (fun k hjk hk hd => by omega)
      obtain ⟨x, h1, h2⟩ := dst_of hd
      exact fA i hij (conf_tmp h1 hom (.inl ⟨h2, .inl ht⟩))
    have hH : ∀ q, q ∈ keys us → hpF recs h0 (lst listed) m q = hpF recs h0 (fun _ => true) m q := fun q hq => by
      refine hpF_eq (Nat.le_refl m) (fun i hij hd => ?_) (fun k hjk hk hd => by omega)
      refine fA i hij ?_
      have h1 : ops[i]? = some (ops[i]'(by omega)) := List.getElem?_eq_getElem _
      have := conf_last (l := (List.range m).map (fun k => ((recs k).fp, keys (recs k).us))) (ks := keys us) (i := i) (q := q) (by simp; omega) h1 (by rw [hlen]; exact hom) (by rw [List.getD_eq_getElem?_getD, List.getElem?_map, List.getElem?_range hij]; exact hd) hq
      rw [hlen] at this
      exact this
    obtain ⟨en, e1, e2⟩ := hI.env
    obtain ⟨hp, s1, s2⟩ := hI.sim
    have yv : ∀ {g : Nat} {want : Bool} {t : Nat}, om.guard = some (g, want) → dstOf ops g = some t → ∃ v, yielded ops.toArray a.tmps g = (match v with | .bool b => some b | _ => none) ∧ RV F μ w v (envF ops recs e0 (fun _ => true) m t) := by
      intro g want t hg hd
      obtain ⟨x, hx, hxd⟩ := dst_of hd
      have hlt : t < a.tmps.size := by rw [hI.size]; exact okOps_spec hok x (List.mem_of_getElem? hx) t hxd
      refine ⟨a.tmps[t]?.getD undef, ?_, ?_⟩
      · unfold yielded
        have : (ops.toArray[g]?).bind (·.dst) = some t := by simpa [dstOf] using hd
        rw [this]
        simp only [Option.bind_some]
        rw [Array.getElem?_eq_getElem hlt, Option.getD_some]
        cases a.tmps[t] <;> rfl
      · rw [← hE t (guard_look hg hd), ← e2]; exact e1 t
    unfold wpOpIn
    have ho' : ops.toArray[m]? = some om := by simpa using hom
    simp only [ho']
    have hw : Region.wanted om (yielded ops.toArray a.tmps) = true := by
      unfold Region.wanted
      rcases hgd with hg | ⟨g, want, t, hg, hd, hval⟩
      · rw [hg]
      · rw [hg]
        obtain ⟨v, y1, y2⟩ := yv hg hd
        rw [hval] at y2
        have := pbool_inv y2
        subst this
        simp [y1]
    rw [hw]
    simp only [if_true]
    have hpk' := hpk en hp (fun t ht => by rw [e2, hE t ht]) (fun q hq => by rw [s2, hH q hq])
    refine panK_sound s1 (fun q h1 h2 => hI.fresh q h1) (eval_rv e1) hpk' fun p' us' v w' k1 k2 k3 k4 => ?_
    obtain ⟨rfl, rfl⟩ := k1
    refine hend F μ a w' v (hst.trans k2) ⟨k3.fb, k3.mb, fun o ho => absurd rfl ho, fun o b _ => trivial, fun o b ho => absurd rfl ho, fun i j b ho => absurd rfl ho⟩ hI.size (fun q hq => hI.fresh q ?_) hdf k4
    have : 64 * m ≤ 64 * ops.length := Nat.mul_le_mul_left _ (Nat.le_of_lt hml)
    omega
  refine drwK_core hok (Nat.le_of_lt hml) hlow hanc hT (fun fuel listed F μ a w hfu hall hst hI hdf => ?_) fun fuel listed F μ a w j o hge hjl hun ho haf hex hst hI hdf => ?_
  · obtain ⟨fuel, rfl⟩ : ∃ f, fuel = f + 1 := ⟨fuel - 1, by omega⟩
    have hlo := hI.lo m (Nat.le_refl m)
    have hafm : ∀ k ∈ afterOn om, lst listed k = true := fun k hk => hall k (hlow m om hom k hk)
    refine ⟨fun hnil => ?_, fun j hj => ?_⟩
    · exfalso
      have : m ∈ Region.ready .any ops.toArray listed := (ready_lst listed m hI.sz).2 ⟨hml, hlo, om, hom, hafm⟩
      rw [hnil] at this; simp at this
    · obtain ⟨h1, h2, o, ho, h3⟩ := (ready_lst listed j hI.sz).1 hj
      have hjm : j = m := by
        rcases Nat.lt_trichotomy j m with h | h | h
        · rw [hall j h] at h2; cases h2
        · exact h
        · have := hafter j h h1 o ho _ hI.dc h3
          have this : lst listed m = true := this
          rw [hlo] at this; cases this
      subst hjm
      exact pan _ listed F μ a w hlo hafm hst hI hdf
  · have hlo := hI.lo m (Nat.le_refl m)
    have hjm : j = m := by
      rcases Nat.lt_or_ge m j with h | h
      · have := hafter j h hjl o ho _ hI.dc haf
        have this : lst listed m = true := this
        rw [hlo] at this; cases this
      · omega
    subst hjm
    rw [hom] at ho; injection ho with ho; subst ho
    exact pan _ listed F μ a w hlo haf hst hI hdf

/-- A region whose order is drawn. -/
theorem drwK_sound {C : Cx P} {d0 : D0} {n id : Nat} {Q : Exit → Act → World → Prop} {K : St → Prop} {KP : PV → St → Prop} {s : St} {F : Nat → Prop} {μ : Num} {a : Act} {w : World} (hm : P.follows .mixedOrders = true) (hok : okOps C.N ops = true)
    (hs : Sim C d0 F μ s a w) (h : drwK C.G ops s.nx s.yk ops 0 s.env s.hp [] K KP)
    (hk : ∀ s' F' μ' a' w', K s' → Rl C.G F μ w F' μ' w' → Kp C.kp μ μ' → Sim C d0 F' μ' s' a' w' → Q .normal a' w')
    (hp0 : ∀ s' F' μ' a' w' p ch, KP p s' → Rl C.G F μ w F' μ' w' → Kp C.kp μ μ' → Sim C d0 F' μ' s' a' w' → OnePanic F' w' ch p → Q (.panic ch) a' w') : (Code.region id ops.toArray true).wpIn (fc d0.ro) n P Q a w := by
  obtain ⟨m, recs, env', hp', hml, hE, hH, hT, hcut⟩ := drwK_trace (e0 := s.env.get) (h0 := Heap.get s.hp) ops 0 s.env s.hp (fun _ => default) [] (by simp) (by simp) (fun t => rfl) (fun q => rfl) (fun k o hk => by omega) (by simp) h
  refine wpIn_region_any hm ?_
  obtain ⟨d1, d2⟩ := drawn_step hs.h (w.drawn + 1)
  have hlst : ∀ k, lst (Array.replicate ops.toArray.size false) k = false := fun k => by
    unfold lst
    rw [Array.getD_eq_getD_getElem?]
    by_cases e : k < ops.toArray.size
    · simp at e; simp [e]
    · simp at e; simp [e]
  have hfu : unl m (Array.replicate ops.toArray.size false) + (ops.length - m) ≤ ops.toArray.size := by
    unfold unl
    have := List.length_filter_le (fun j => !lst (Array.replicate ops.toArray.size false) j) (List.range m)
    simp only [List.length_range] at this
    simp only [List.size_toArray] at *
    omega
  have hinv : InvD P C.N ops s.nx s.env.get (Heap.get s.hp) recs m (Array.replicate ops.toArray.size false) F μ a { w with drawn := w.drawn + 1 } := by
    have e0' : ∀ n t, envF ops recs s.env.get (lst (Array.replicate ops.toArray.size false)) n t = s.env.get t := fun n t => by
      induction n with
      | zero => rfl
      | succ n ih => simp only [envF, hlst, ih]; simp
    have h0' : ∀ n t, hpF recs (Heap.get s.hp) (lst (Array.replicate ops.toArray.size false)) n t = s.hp.get t := fun n t => by
      induction n with
      | zero => rfl
      | succ n ih => simp only [hpF, hlst, ih]; simp
    refine ⟨by simp, fun k x hx hk => absurd hk (by show ¬ lst (Array.replicate ops.toArray.size false) k = true; rw [hlst]; simp), fun k _ => hlst k, ⟨s.hp, d2, fun q => (h0' _ q).symm⟩, ⟨s.env, fun t => (hs.env t).step d1, fun t => (e0' _ t).symm⟩, hs.size, fun o ho => hs.fresh o (by omega), fun j _ _ o h1 _ => hs.fresh o (by omega)⟩
  rcases hcut with ⟨hR, hK⟩ | ⟨o, p, us, hom, hgd, hX, hKP, hpk⟩
  · refine drwK_any (F0 := F) (μ0 := μ) (w0 := w) (a0 := a) (e0 := s.env.get) (h0 := Heap.get s.hp) (nx := s.nx) hok hml hR hT (fun F' μ' a' w' hp en k1 k2 k3 k4 k5 k6 k7 k8 => ?_) _ _ F μ a _ hfu d1 hinv rfl
    refine seqK_sound (C := C) (ops := ops.toArray) hok _ ⟨env', hp', s.nx + 64 * m, s.yk⟩ F' μ' a' w' (fun o ho => List.mem_of_mem_drop ho) ⟨k2.congr fun i => by rw [hH, k3], k7, k6, fun t => by rw [hE, ← k5]; exact k4 t, hs.mks.base k1.base k8, hs.rd.base k1.base, hs.itro, C.G.cl hs.j k1.base⟩ hK (fun s' F2 μ2 a2 w2 e1 e2 e3 e4 => hk s' F2 μ2 a2 w2 e1 ((Rl.of k1.base).trans e2) ((Kp.step k1).trans e3) e4) (fun s' F2 μ2 a2 w2 p ch e1 e2 e3 e4 e5 => hp0 s' F2 μ2 a2 w2 p ch e1 ((Rl.of k1.base).trans e2) ((Kp.step k1).trans e3) e4 e5)
  · refine drwX_any (F0 := F) (μ0 := μ) (w0 := w) (a0 := a) (e0 := s.env.get) (h0 := Heap.get s.hp) (nx := s.nx) hok hom hgd hX hT hpk (fun F' μ' a' w' v k1 k2 k3 k4 k5 k6 => ?_) _ _ F μ a _ hfu d1 hinv rfl
    exact hp0 ⟨[], [], s.nx + 64 * ops.length, s.yk⟩ F' μ' a' w' p _ hKP (Rl.of k1.base) (Kp.step k1) ⟨k2, k4, k3, fun t => .any _, hs.mks.base k1.base k5, hs.rd.base k1.base, hs.itro, C.G.cl hs.j k1.base⟩ ⟨v, rfl, k6⟩
end
end Go.Sg

namespace Go.Sg
open Go

def okc (N : Nat) : Code → Bool
  | .region _ ops _ => okOps N ops.toList
  | .seq a b => okc N a && okc N b
  | .cond _ a b => okc N a && okc N b
  | .block _ c => okc N c
  | .loop c => okc N c
  | .scope c => okc N c
  | .rangeFunc _ _ a b => okc N a && okc N b
  | _ => true

/-- What is to hold at each way out. -/
structure Kt where
  n : St → Prop
  e : Nat → St → Prop
  r : St → Prop
  p : PV → St → Prop
def kOf (K : Kt) (F : Nat → Prop) (w : World) : Exit → St → Prop
  | .normal, s => K.n s
  | .exit j, s => K.e j s
  | .ret, s => K.r s
  | .panic ch, s => ∃ p, K.p p s ∧ OnePanic F w ch p
  | _, _ => False

def Wpc {P : Program} (C : Cx P) (c : Code) (s : St) (K : Kt) : Prop :=
  okc C.N c = true → ∀ (n : Nat) (Q : Exit → Act → World → Prop) (d0 : D0) (F : Nat → Prop) (μ : Num) (a : Act) (w : World), Sim C d0 F μ s a w →
    (∀ e s' F' μ' a' w', kOf K F' w' e s' → Rl C.G F μ w F' μ' w' → Kp C.kp μ μ' → Sim C d0 F' μ' s' a' w' → Q e a' w') → c.wpIn (fc d0.ro) n P Q a w

/-! ### Forcing -/
def frc : AV → (AV → Prop) → Prop
  | .any, K => K .any
  | .p v, K => K (.p v)
  | .ptr o f, K => K (.ptr o f)
  | .msl o s f l, K => K (.msl o s f l)
  | .rsl o s f l, K => K (.rsl o s f l)
  | .csl o s f l c, K => K (.csl o s f l c)
  | .eptr o s i j, K => K (.eptr o s i j)
  | .mp o, K => K (.mp o)
  | .ch o, K => K (.ch o)
  | .agg l, K => K (.agg l)
  | .tup l, K => K (.tup l)
  | .fn f a b, K => K (.fn f a b)
theorem frc_eq (v : AV) (K : AV → Prop) : frc v K = K v := by cases v <;> rfl
def natF : Nat → (Nat → Prop) → Prop
  | 0, K => K 0
  | n + 1, K => K (n + 1)
theorem natF_eq (n : Nat) (K : Nat → Prop) : natF n K = K n := by cases n <;> rfl
def putF (dst : Option Nat) (v : AV) (env : Env) (K : Env → Prop) : Prop :=
  match dst with
  | some d => K ((d, v) :: env)
  | none => K env
theorem putF_eq (dst : Option Nat) (v : AV) (env : Env) (K : Env → Prop) : putF dst v env K = K (env.put dst v) := by cases dst <;> rfl
def frcs : List AV → (List AV → Prop) → Prop
  | [], K => K []
  | a :: l, K => frc a fun a => frcs l fun l => K (a :: l)
theorem frcs_eq : ∀ (l : List AV) (K : List AV → Prop), frcs l K = K l
  | [], _ => rfl
  | a :: l, K => by rw [frcs, frc_eq, frcs_eq l]
def obF (x : AObj) (K : AObj → Prop) : Prop :=
  match x with
  | .cells cs => frcs cs fun cs => K (.cells cs)
  | .dead => K .dead
  | .row sz l => K (.row sz l)
  | .map kt m => K (.map kt m)
  | .chan c b => K (.chan c b)
  | .iter m c => K (.iter m c)
theorem obF_eq (x : AObj) (K : AObj → Prop) : obF x K = K x := by cases x <;> simp [obF, frcs_eq]
def appF : Heap → Heap → (Heap → Prop) → Prop
  | [], h, K => K h
  | (o, x) :: r, h, K => obF x fun x => appF r h fun h' => K ((o, x) :: h')
theorem appF_eq : ∀ (us h : Heap) (K : Heap → Prop), appF us h K = K (us ++ h)
  | [], _, _ => rfl
  | (o, x) :: r, h, K => by rw [appF, obF_eq, appF_eq r]; rfl
/-- Either way. -/
structure Br (b : Bool) (A B : Prop) : Prop where
  t : b = true → A
  f : b = false → B
theorem Br.mono {b : Bool} {A B A' B' : Prop} (h : Br b A B) (ha : A → A') (hb : B → B') : Br b A' B' := ⟨fun e => ha (h.t e), fun e => hb (h.f e)⟩
theorem Br.dec {p : Prop} [Decidable p] {A B : Prop} (h1 : p → A) (h2 : ¬ p → B) : Br (decide p) A B := ⟨fun h => h1 (of_decide_eq_true h), fun h => h2 (of_decide_eq_false h)⟩
theorem Br.tt {A B : Prop} (h : A) : Br true A B := ⟨fun _ => h, fun e => Bool.noConfusion e⟩
theorem Br.ff {A B : Prop} (h : B) : Br false A B := ⟨fun e => Bool.noConfusion e, fun _ => h⟩
theorem Br.not {b : Bool} {A B : Prop} (h : Br b B A) : Br (!b) A B := ⟨fun e => h.f (by simpa using e), fun e => h.t (by simpa using e)⟩
theorem Br.not' {b : Bool} {A B : Prop} (h : Br b B A) : Br (Bool.not b) A B := h.not
def gdF (ops : List Oper) (g : Option (Nat × Bool)) (env : Env) (A B : Env → Prop) : Prop :=
  match g with
  | none => A env
  | some (j, want) => (match (ops[j]?).bind (·.dst) with
    | none => False
    | some t => (match env.get t with
      | .p (.bool b) => (match want with
        | true => Br b (A ((t, .p (.bool true)) :: env)) (B ((t, .p (.bool false)) :: env))
        | false => Br b (B ((t, .p (.bool true)) :: env)) (A ((t, .p (.bool false)) :: env)))
      | .p (.tup []) => B env
      | _ => False))
theorem Br.eq_and (b : Bool) (A B : Prop) : Br b A B = ((b = true → A) ∧ (b = false → B)) := propext ⟨fun h => ⟨h.t, h.f⟩, fun h => ⟨h.1, h.2⟩⟩
theorem gdF_eq (ops : List Oper) (g : Option (Nat × Bool)) (env : Env) (A B : Env → Prop) : gdF ops g env A B = guardK ops g env fun b env' => match b with | true => A env' | false => B env' := by
  unfold gdF guardK
  cases g with
  | none => rfl
  | some g =>
    obtain ⟨j, want⟩ := g
    simp only
    cases hd : (ops[j]?).bind (·.dst) with
    | none => rfl
    | some t =>
      simp only
      generalize env.get t = v
      cases v with
      | p q =>
        cases q with
        | bool b =>
          cases want with
          | true => exact propext ⟨fun h => ⟨h.t, fun e => h.f (by simpa using e)⟩, fun h => ⟨h.1, fun e => h.2 (by simp [e])⟩⟩
          | false => exact propext ⟨fun h => ⟨h.f, fun e => h.t (by simpa using e)⟩, fun h => ⟨fun e => h.2 (by simp [e]), h.1⟩⟩
        | tup l => cases l <;> rfl
        | _ => rfl
      | _ => rfl

/-- One operation, its operands and what it yields forced. -/
def opF {P : Program} (G : Gam P) (op : Op) (dst : Option Nat) (env : Env) (hp : Heap) (nx yk : Nat) (K : Env → Heap → Nat → Nat → Prop) (KP : PV → St → Prop) : Prop :=
  match panicOf op with
  | some x => (match evalO env x with | .p (.iface t v) => KP (.iface t v) ⟨env, hp, nx, yk⟩ | _ => False)
  | none => (match yieldOf (evalO env) op with
    | some (l, as) => (G.it = true ∧ l = G.l ∧ yk < G.xs.length ∧ yk ≤ G.stop ∧ as = (G.xs.getD yk []).map .p) ∧ putF dst (.p (.bool (decide (yk ≠ G.stop)))) env fun env' => K env' hp nx (yk + 1)
    | none => xalt op (stS P op (evalO env) hp nx fun v us => frc v fun v => natF (nx + 64) fun nx' => putF dst v env fun env' => appF us hp fun hp' => K env' hp' nx' yk) (panK P op (evalO env) hp nx fun p us => appF us hp fun hp' => KP p ⟨env, hp', nx, yk⟩))
theorem opF_eq {P : Program} (G : Gam P) (op : Op) (dst : Option Nat) (env : Env) (hp : Heap) (nx yk : Nat) (K : Env → Heap → Nat → Nat → Prop) (KP : PV → St → Prop) : opF G op dst env hp nx yk K KP =
    opS G op dst env hp nx yk (fun s => K s.env s.hp s.nx s.yk) KP := by
  unfold opF opS
  cases panicOf op with
  | some x =>
    first
    | rfl
    | (simp only
       generalize evalO env x = v
       cases v with
       | p q => cases q <;> rfl
       | _ => rfl)
  | none =>
    cases yieldOf (evalO env) op with
    | some y => simp only [putF_eq]
    | none => simp only [putF_eq, frc_eq, natF_eq, appF_eq]
noncomputable def sq {P : Program} (G : Gam P) (ops : List Oper) (l : List Oper) : Env → Heap → Nat → Nat → (Env → Heap → Nat → Nat → Prop) → (PV → St → Prop) → Prop :=
  List.rec (motive := fun _ => Env → Heap → Nat → Nat → (Env → Heap → Nat → Nat → Prop) → (PV → St → Prop) → Prop) (fun env hp nx yk K _ => K env hp nx yk)
    (fun o _ ih env hp nx yk K KP => gdF ops o.guard env (fun env => opF G o.op o.dst env hp nx yk (fun env hp nx yk => ih env hp nx yk K KP) KP)
      (fun env => putF o.dst undefA env fun env => ih env hp nx yk K KP)) l
theorem sq_nil {P : Program} (G : Gam P) (ops : List Oper) (env : Env) (hp : Heap) (nx yk : Nat) (K : Env → Heap → Nat → Nat → Prop) (KP : PV → St → Prop) : sq G ops [] env hp nx yk K KP = K env hp nx yk := rfl
theorem sq_cons {P : Program} (G : Gam P) (ops : List Oper) (o : Oper) (r : List Oper) (env : Env) (hp : Heap) (nx yk : Nat) (K : Env → Heap → Nat → Nat → Prop) (KP : PV → St → Prop) : sq G ops (o :: r) env hp nx yk K KP =
    gdF ops o.guard env (fun env => opF G o.op o.dst env hp nx yk (fun env hp nx yk => sq G ops r env hp nx yk K KP) KP) (fun env => putF o.dst undefA env fun env => sq G ops r env hp nx yk K KP) := rfl
theorem sq_eq {P : Program} (G : Gam P) (ops : List Oper) (K : Env → Heap → Nat → Nat → Prop) (KP : PV → St → Prop) : ∀ (l : List Oper) (env : Env) (hp : Heap) (nx yk : Nat), sq G ops l env hp nx yk K KP =
    seqK G ops l ⟨env, hp, nx, yk⟩ (fun s => K s.env s.hp s.nx s.yk) KP
  | [], _, _, _, _ => rfl
  | o :: r, env, hp, nx, yk => by
    simp only [sq_cons, seqK, gdF_eq, opF_eq, putF_eq]
    congr 1
    funext b env'
    cases b with
    | true =>
      simp only
      congr 1
      funext s
      exact sq_eq G ops K KP r s.env s.hp s.nx s.yk
    | false => exact sq_eq G ops K KP r _ hp nx yk
/-- Closed, for the kernel. -/
structure OkR (ops : List Oper) (fps : List (List Nat × List Nat)) : Prop where
  h : okR ops fps = true
theorem OkR.eq (ops : List Oper) (fps : List (List Nat × List Nat)) : OkR ops fps = (okR ops fps = true) := propext ⟨fun h => h.h, fun h => ⟨h⟩⟩
structure OkC (ops : List Oper) (fps : List (List Nat × List Nat)) : Prop where
  h : okC ops fps = true
theorem OkC.eq (ops : List Oper) (fps : List (List Nat × List Nat)) : OkC ops fps = (okC ops fps = true) := propext ⟨fun h => h.h, fun h => ⟨h⟩⟩
structure OkX (ops : List Oper) (fps : List (List Nat × List Nat)) : Prop where
  h : okX ops fps = true
theorem OkX.eq (ops : List Oper) (fps : List (List Nat × List Nat)) : OkX ops fps = (okX ops fps = true) := propext ⟨fun h => h.h, fun h => ⟨h⟩⟩
def fpF : List Nat → (List Nat → Prop) → Prop
  | [], K => K []
  | x :: l, K => natF x fun x => fpF l fun l => K (x :: l)
theorem fpF_eq : ∀ (l : List Nat) (K : List Nat → Prop), fpF l K = K l
  | [], _ => rfl
  | x :: l, K => by rw [fpF, natF_eq, fpF_eq l]
noncomputable def dq {P : Program} (G : Gam P) (ops : List Oper) (nx yk : Nat) (l : List Oper) : Nat → Env → Heap → List (List Nat × List Nat) → (Env → Heap → Nat → Nat → Prop) → (PV → St → Prop) → Prop :=
  List.rec (motive := fun _ => Nat → Env → Heap → List (List Nat × List Nat) → (Env → Heap → Nat → Nat → Prop) → (PV → St → Prop) → Prop) (fun i env hp fps K _ => OkR ops fps ∧ natF (nx + 64 * i) fun nx' => K env hp nx' yk)
    (fun o r ih i env hp fps K KP => gdF ops o.guard env
      (fun env => match yieldOf (evalO env) o.op with | some _ => OkC ops fps ∧ natF (nx + 64 * i) fun nx' => sq G ops (o :: r) env hp nx' yk K KP | none => xalt o.op (stK P o.op (evalO env) hp (nx + 64 * i) fun v us => fpF (fpOp o.op (evalO env)) fun fp => fpF (keys us) fun ks => frc v fun v => putF o.dst v env fun env' => appF us hp fun hp' => ih (i + 1) env' hp' (fps ++ [(fp, ks)]) K KP) (panK P o.op (evalO env) hp (nx + 64 * i) fun p us => fpF (keys us) fun ks => OkX ops (fps ++ [([], ks)]) ∧ KP p ⟨[], [], nx + 64 * ops.length, yk⟩))
      (fun env => putF o.dst undefA env fun env' => ih (i + 1) env' hp (fps ++ [([], [])]) K KP)) l
theorem dq_nil {P : Program} (G : Gam P) (ops : List Oper) (nx yk i : Nat) (env : Env) (hp : Heap) (fps : List (List Nat × List Nat)) (K : Env → Heap → Nat → Nat → Prop) (KP : PV → St → Prop) : dq G ops nx yk [] i env hp fps K KP = (OkR ops fps ∧ natF (nx + 64 * i) fun nx' => K env hp nx' yk) := rfl
theorem dq_cons {P : Program} (G : Gam P) (ops : List Oper) (nx yk : Nat) (o : Oper) (r : List Oper) (i : Nat) (env : Env) (hp : Heap) (fps : List (List Nat × List Nat)) (K : Env → Heap → Nat → Nat → Prop) (KP : PV → St → Prop) : dq G ops nx yk (o :: r) i env hp fps K KP = gdF ops o.guard env
      (fun env => match yieldOf (evalO env) o.op with | some _ => OkC ops fps ∧ natF (nx + 64 * i) fun nx' => sq G ops (o :: r) env hp nx' yk K KP | none => xalt o.op (stK P o.op (evalO env) hp (nx + 64 * i) fun v us => fpF (fpOp o.op (evalO env)) fun fp => fpF (keys us) fun ks => frc v fun v => putF o.dst v env fun env' => appF us hp fun hp' => dq G ops nx yk r (i + 1) env' hp' (fps ++ [(fp, ks)]) K KP) (panK P o.op (evalO env) hp (nx + 64 * i) fun p us => fpF (keys us) fun ks => OkX ops (fps ++ [([], ks)]) ∧ KP p ⟨[], [], nx + 64 * ops.length, yk⟩))
      (fun env => putF o.dst undefA env fun env' => dq G ops nx yk r (i + 1) env' hp (fps ++ [([], [])]) K KP) := rfl
theorem dq_eq {P : Program} (G : Gam P) (ops : List Oper) (nx yk : Nat) (K : Env → Heap → Nat → Nat → Prop) (KP : PV → St → Prop) : ∀ (l : List Oper) (i : Nat) (env : Env) (hp : Heap) (fps : List (List Nat × List Nat)), dq G ops nx yk l i env hp fps K KP =
    drwK G ops nx yk l i env hp fps (fun s => K s.env s.hp s.nx s.yk) KP
  | [], _, _, _, _ => by simp only [dq_nil, drwK, natF_eq, OkR.eq]
  | o :: r, i, env, hp, fps => by
    simp only [dq_cons, drwK, gdF_eq, putF_eq, frc_eq, appF_eq, fpF_eq, OkC.eq, OkX.eq, natF_eq, sq_eq]
    congr 1
    funext b env'
    cases b with
    | true =>
      simp only
      cases yieldOf (evalO env') o.op with
      | some _ => rfl
      | none =>
      simp only
      congr 1
      congr 1
      funext v us
      exact dq_eq G ops nx yk K KP r (i + 1) _ _ _
    | false => exact dq_eq G ops nx yk K KP r (i + 1) _ hp _

/-! ### From one state to a vaguer one -/
def FZ (σ : Heap) (Z : Nat → Prop) (F : Nat → Prop) (μ : Num) (b : Nat) : Prop := F b ∨ ∃ o, Z o ∧ σ.get o ≠ .dead ∧ μ o = some b
def ZOk (σ : Heap) (Z : Nat → Prop) (F : Nat → Prop) (μ : Num) (w : World) : Prop := ∀ o b, Z o → σ.get o ≠ .dead → μ o = some b → RO F μ w b (σ.get o)
/-- 'ρ': for each new number the old one; 'Z': the objects that are frozen. -/
def VLe (σ : Heap) (Z : Nat → Prop) (ρ : Nat → Option Nat) (a a' : AV) : Prop :=
  ∀ (F : Nat → Prop) (μ : Num) (w : World) (v : Value), ZOk σ Z F μ w → RV F μ w v a → RV (FZ σ Z F μ) (fun o => (ρ o).bind μ) w v a'
section
variable {σ : Heap} {Z : Nat → Prop} {ρ : Nat → Option Nat}
theorem FZ.of {F : Nat → Prop} {μ : Num} {b : Nat} (h : F b) : FZ σ Z F μ b := .inl h
theorem VLe.any (a : AV) : VLe σ Z ρ a .any := fun _ _ _ v _ _ => .any v
theorem VLe.p {p q : PV} (h : PV.le p q) : VLe σ Z ρ (.p p) (.p q) := fun F μ w v _ hv => by
  cases hv with
  | p hv => exact .p ((h F w v hv).mono (fun _ => .inl) (fun _ _ => rfl))
theorem VLe.refl (p : PV) : VLe σ Z ρ (.p p) (.p p) := VLe.p (PV.le_refl p)
theorem VLe.frz {a : AV} {p : PV} (h : Frz σ Z a p) : VLe σ Z ρ a (.p p) := fun F μ w v hz hv => .p (h F μ w v hz hv)
theorem VLe.ptr {o o' off : Nat} (h : ρ o' = some o) : VLe σ Z ρ (.ptr o off) (.ptr o' off) := fun F μ w v _ hv => by
  cases hv with
  | ptr _ _ b hm => exact .ptr o' off b (by rw [h]; exact hm)
theorem VLe.msl {o o' sz off len : Nat} (h : ρ o' = some o) : VLe σ Z ρ (.msl o sz off len) (.msl o' sz off len) := fun F μ w v _ hv => by
  cases hv with
  | msl _ _ _ off' _ cap b t n hm h0 h1 h2 h3 h4 => exact .msl o' sz off off' len cap b t n (by show (ρ o').bind μ = some b; rw [h]; exact hm) h0 h1 h2 h3 h4
theorem VLe.mp {o o' : Nat} (h : ρ o' = some o) : VLe σ Z ρ (.mp o) (.mp o') := fun F μ w v _ hv => by
  cases hv with
  | mp _ b hm => exact .mp o' b (by show (ρ o').bind μ = some b; rw [h]; exact hm)
theorem VLe.ch {o o' : Nat} (h : ρ o' = some o) : VLe σ Z ρ (.ch o) (.ch o') := fun F μ w v _ hv => by
  cases hv with
  | ch _ b hm => exact .ch o' b (by show (ρ o').bind μ = some b; rw [h]; exact hm)
inductive VLeL (σ : Heap) (Z : Nat → Prop) (ρ : Nat → Option Nat) : List AV → List AV → Prop
  | nil : VLeL σ Z ρ [] []
  | cons {a a' : AV} {l l' : List AV} : VLe σ Z ρ a a' → VLeL σ Z ρ l l' → VLeL σ Z ρ (a :: l) (a' :: l')
theorem VLeL.get {l l' : List AV} (h : VLeL σ Z ρ l l') : l.length = l'.length ∧ ∀ (i : Nat) a', l'[i]? = some a' → ∃ a, l[i]? = some a ∧ VLe σ Z ρ a a' := by
  induction h with
  | nil => simp
  | cons h _ ih =>
    refine ⟨by simp [ih.1], fun i p hp => ?_⟩
    cases i with
    | zero => simp at hp; subst hp; exact ⟨_, rfl, h⟩
    | succ i => simp at hp; simpa using ih.2 i p hp
theorem VLeL.pure (l : List PV) : VLeL σ Z ρ (l.map .p) (l.map .p) := by
  induction l with
  | nil => exact .nil
  | cons p l ih => exact .cons (VLe.refl p) ih
theorem VLe.agg {l l' : List AV} (h : VLeL σ Z ρ l l') : VLe σ Z ρ (.agg l) (.agg l') := fun F μ w v hz hv => by
  cases hv with
  | agg cs _ h1 h2 => exact .agg cs l' (h1.trans h.get.1) fun i p hp => let ⟨a, h3, h4⟩ := h.get.2 i p hp; h4 F μ w _ hz (h2 i a h3)
theorem VLe.tup {l l' : List AV} (h : VLeL σ Z ρ l l') : VLe σ Z ρ (.tup l) (.tup l') := fun F μ w v hz hv => by
  cases hv with
  | tup cs _ h1 h2 => exact .tup cs l' (h1.trans h.get.1) fun i p hp => let ⟨a, h3, h4⟩ := h.get.2 i p hp; h4 F μ w _ hz (h2 i a h3)
theorem VLe.fn {f : Fn} {l l' m m' : List AV} (h : VLeL σ Z ρ l l') (k : VLeL σ Z ρ m m') : VLe σ Z ρ (.fn f l m) (.fn f l' m') := fun F μ w v hz hv => by
  cases hv with
  | fn _ as bs _ _ h1 h2 h3 h4 =>
    refine .fn f as bs l' m' (h1.trans h.get.1) (h2.trans k.get.1) (fun i p hp => ?_) (fun i p hp => ?_)
    · obtain ⟨a, h5, h6⟩ := h.get.2 i p hp
      exact h6 F μ w _ hz (h3 i a h5)
    · obtain ⟨a, h5, h6⟩ := k.get.2 i p hp
      exact h6 F μ w _ hz (h4 i a h5)

/-- Of objects. -/
def OLe (σ : Heap) (Z : Nat → Prop) (ρ : Nat → Option Nat) : AObj → AObj → Prop
  | .cells l, .cells l' => VLeL σ Z ρ l l'
  | x, y => ∀ (F : Nat → Prop) (μ : Num) (w : World) (b : Nat), ZOk σ Z F μ w → RO F μ w b x → RO (FZ σ Z F μ) (fun o => (ρ o).bind μ) w b y
theorem OLe.spec {x y : AObj} (h : OLe σ Z ρ x y) {F : Nat → Prop} {μ : Num} {w : World} {b : Nat} (hz : ZOk σ Z F μ w) (hr : RO F μ w b x) : RO (FZ σ Z F μ) (fun o => (ρ o).bind μ) w b y := by
  unfold OLe at h
  split at h
  · rename_i l l'
    obtain ⟨cur, t, h1, h2, h3⟩ := hr
    refine ⟨cur, t, h1, by rw [← h.get.1]; exact h2, fun i c hc => ?_⟩
    obtain ⟨a, h4, h5⟩ := h.get.2 i c hc
    exact h5 F μ w _ hz (h3 i a h4)
  · exact h F μ w b hz hr
def EnvLe (σ : Heap) (Z : Nat → Prop) (ρ : Nat → Option Nat) (env : Env) : Env → Prop
  | [] => True
  | (t, v) :: r => VLe σ Z ρ (env.get t) v ∧ EnvLe σ Z ρ env r
theorem EnvLe.get {env : Env} : ∀ {env' : Env}, EnvLe σ Z ρ env env' → ∀ t, VLe σ Z ρ (env.get t) (env'.get t)
  | [], _, t => VLe.any _
  | (u, v) :: r, h, t => by
    simp only [Env.get]
    split
    · rename_i e; subst e; exact h.1
    · exact EnvLe.get h.2 t
def HpLe (σ : Heap) (Z : Nat → Prop) (ρ : Nat → Option Nat) : Heap → Prop
  | [] => True
  | (o', x) :: r => (x = .dead ∨ ∃ o, ρ o' = some o ∧ ¬ Z o ∧ σ.get o ≠ .dead ∧ OLe σ Z ρ (σ.get o) x) ∧ HpLe σ Z ρ r
theorem HpLe.get : ∀ {σ' : Heap}, HpLe σ Z ρ σ' → ∀ o', Heap.get σ' o' ≠ .dead → ∃ o, ρ o' = some o ∧ ¬ Z o ∧ σ.get o ≠ .dead ∧ OLe σ Z ρ (σ.get o) (Heap.get σ' o')
  | [], _, o', h => absurd rfl h
  | (u, x) :: r, h, o', hd => by
    simp only [Heap.get] at hd ⊢
    split
    · rename_i e; subst e; rw [if_pos rfl] at hd; exact h.1.resolve_left hd
    · rename_i e; rw [if_neg e] at hd; exact HpLe.get h.2 o' hd
end

def rget (R : List (Nat × Nat)) (o : Nat) : Option Nat := (R.find? fun x => x.1 == o).map Prod.snd
theorem rget_mem {R : List (Nat × Nat)} {i o : Nat} (h : rget R i = some o) : (i, o) ∈ R := by
  unfold rget at h
  obtain ⟨⟨x, y⟩, h1, h2⟩ := Option.map_eq_some_iff.1 h
  have h3 := List.find?_some h1
  have h4 := List.mem_of_find?_eq_some h1
  simp at h3 h2
  subst h3; subst h2; exact h4
theorem rget_inj : ∀ {R : List (Nat × Nat)}, (R.map Prod.snd).Nodup → ∀ {i j o : Nat}, (i, o) ∈ R → (j, o) ∈ R → i = j
  | [], _, i, j, o, h, _ => by simp at h
  | x :: r, hn, i, j, o, hi, hj => by
    simp only [List.map_cons, List.nodup_cons] at hn
    rcases List.mem_cons.1 hi with hi | hi <;> rcases List.mem_cons.1 hj with hj | hj
    · rw [← hj] at hi; injection hi
    · exact absurd (List.mem_map.2 ⟨_, hj, by rw [← hi]⟩) hn.1
    · exact absurd (List.mem_map.2 ⟨_, hi, by rw [← hj]⟩) hn.1
    · exact rget_inj hn.2 hi hj

def Ent {P : Program} (C : Cx P) (s s' : St) : Prop := ∀ (d0 : D0) (F : Nat → Prop) (μ : Num) (a : Act) (w : World), Sim C d0 F μ s a w → ∃ F' μ', Sim C d0 F' μ' s' a w ∧ Base F μ w F' μ' w ∧ Kp C.kp μ μ'
section
variable {P : Program} {C : Cx P}
theorem Ent.refl (s : St) : Ent C s s := fun _ F μ _ w h => ⟨F, μ, h, Base.refl F μ w, Kp.refl _ _⟩
theorem Ent.trans {s s1 s2 : St} (h : Ent C s s1) (k : Ent C s1 s2) : Ent C s s2 := fun d0 F μ a w hs =>
  let ⟨F1, μ1, h1, h2, h3⟩ := h d0 F μ a w hs
  let ⟨F2, μ2, k1, k2, k3⟩ := k d0 F1 μ1 a w h1
  ⟨F2, μ2, k1, h2.trans k2, h3.trans k3⟩
theorem SimH.ent {σ σ' : Heap} {F : Nat → Prop} {μ : Num} {w : World} (h : SimH F μ σ w) (Z : List Nat) (R : List (Nat × Nat)) (hH : HpLe σ (· ∈ Z) (rget R) σ') (hn : (R.map Prod.snd).Nodup) :
    SimH (FZ σ (· ∈ Z) F μ) (fun o => (rget R o).bind μ) σ' w ∧ Base F μ w (FZ σ (· ∈ Z) F μ) (fun o => (rget R o).bind μ) w := by
  have hz : ZOk σ (· ∈ Z) F μ w := fun o b _ _ hm => h.obj o b hm
  refine ⟨⟨?_, ?_, ?_, ?_, ?_, ?_⟩, ?_⟩
  · rintro b (hb | ⟨o, _, _, hb⟩)
    · exact h.fb b hb
    · exact h.mb b ⟨o, hb⟩
  · rintro b ⟨o, ho⟩
    obtain ⟨o1, _, h2⟩ := Option.bind_eq_some_iff.1 ho
    exact h.mb b ⟨o1, h2⟩
  · intro o' hd
    obtain ⟨o, h1, _, h2, _⟩ := hH.get o' hd
    obtain ⟨b, hb⟩ := h.has o h2
    exact ⟨b, by rw [h1]; exact hb⟩
  · intro o' b hm
    rcases Classical.em (Heap.get σ' o' = .dead) with hd | hd
    · rw [hd]; trivial
    · obtain ⟨o, h1, _, _, h3⟩ := hH.get o' hd
      rw [h1] at hm
      exact h3.spec hz (h.obj o b hm)
  · intro o' b hd hm hf
    obtain ⟨o, h1, h2, h3, _⟩ := hH.get o' hd
    rw [h1] at hm
    rcases hf with hf | ⟨z, z1, z2, z3⟩
    · exact h.live o b h3 hm hf
    · have := h.inj o z b h3 z2 hm z3
      subst this; exact h2 z1
  · intro i j b hi hj hmi hmj
    obtain ⟨oi, i1, _, i3, _⟩ := hH.get i hi
    obtain ⟨oj, j1, _, j3, _⟩ := hH.get j hj
    rw [i1] at hmi; rw [j1] at hmj
    have := h.inj oi oj b i3 j3 hmi hmj
    subst this
    exact rget_inj hn (rget_mem i1) (rget_mem j1)
  · refine ⟨rfl, rfl, rfl, Nat.le_refl _, fun _ _ => rfl, fun _ _ _ => rfl, fun _ _ h => h, fun _ => .inl, ?_, ?_⟩
    · rintro b (hb | ⟨o, _, _, hb⟩)
      · exact .inl hb
      · exact .inr (.inl ⟨o, hb⟩)
    · rintro b ⟨o, ho⟩
      obtain ⟨o1, _, h2⟩ := Option.bind_eq_some_iff.1 ho
      exact .inl ⟨o1, h2⟩
theorem Ent.of {s s' : St} (Z : List Nat) (R : List (Nat × Nat)) (hE : EnvLe s.hp (· ∈ Z) (rget R) s.env s'.env) (hH : HpLe s.hp (· ∈ Z) (rget R) s'.hp)
    (hn : (R.map Prod.snd).Nodup) (hx : ∀ x ∈ R, x.1 < s'.nx) (hk : ∀ o ∈ C.kp, rget R o = some o) (hy : s'.yk = s.yk) : Ent C s s' := fun d0 F μ a w hs => by
  have hz : ZOk s.hp (· ∈ Z) F μ w := fun o b _ _ hm => hs.h.obj o b hm
  obtain ⟨h1, h2⟩ := hs.h.ent Z R hH hn
  refine ⟨_, _, ⟨h1, fun o ho => ?_, hs.size, fun t => hE.get t F μ w _ hz (hs.env t), hs.mks.base h2 rfl, hs.rd.base h2, hs.itro, by rw [hy]; exact C.G.cl hs.j h2⟩, h2, fun o ho b hb => by show (rget R o).bind μ = some b; rw [hk o ho]; exact hb⟩
  show (rget R o).bind μ = none
  cases hr : rget R o with
  | none => rfl
  | some x => have h3 := hx _ (rget_mem hr); simp only at h3; omega

/-- Only these tmps are read any more. -/
def prE (V : List Nat) (env : Env) : Env := V.map fun t => (t, env.get t)
def prF : List Nat → Env → (Env → Prop) → Prop
  | [], _, K => K []
  | t :: V, env, K => frc (env.get t) fun v => (match v with | .any => prF V env K | v => prF V env fun e => K ((t, v) :: e))
theorem Ent.env {env env' : Env} {hp : Heap} {nx yk : Nat} (h : ∀ t, env'.get t = env.get t ∨ env'.get t = .any) : Ent C ⟨env, hp, nx, yk⟩ ⟨env', hp, nx, yk⟩ := fun d0 F μ a w hs =>
  ⟨F, μ, ⟨hs.h, hs.fresh, hs.size, fun t => by
    rcases h t with e | e
    · rw [show (St.mk env' hp nx yk).env.get t = _ from e]; exact hs.env t
    · rw [show (St.mk env' hp nx yk).env.get t = _ from e]; exact .any _, hs.mks, hs.rd, hs.itro, hs.j⟩, Base.refl F μ w, Kp.refl _ _⟩
theorem prF_spec : ∀ (V : List Nat) (env : Env) (K : Env → Prop), prF V env K → ∃ env', K env' ∧ ∀ t, env'.get t = env.get t ∨ env'.get t = .any
  | [], env, K, h => ⟨[], h, fun _ => .inr rfl⟩
  | t :: V, env, K, h => by
    simp only [prF, frc_eq] at h
    split at h
    · exact prF_spec V env K h
    · obtain ⟨env', h1, h2⟩ := prF_spec V env _ h
      refine ⟨_, h1, fun u => ?_⟩
      simp only [Env.get]
      split
      · rename_i e; subst e; exact .inl rfl
      · exact h2 u

/-! ### The heap, each live object once -/
def hasH : Heap → Nat → Bool
  | [], _ => false
  | (u, _) :: r, t => (match Nat.beq u t with | true => true | false => hasH r t)
/-- The live objects of the heap, each once, but for those of 'oh'. -/
def keepH (oh : Heap) : Heap → Heap → Heap
  | [], _ => oh
  | (o, x) :: r, S => (match hasH S o with
    | true => keepH oh r S
    | false => (match hasH oh o with
      | true => keepH oh r ((o, x) :: S)
      | false => (match x with
        | .dead => keepH oh r ((o, x) :: S)
        | x => (o, x) :: keepH oh r ((o, x) :: S))))
def lpH (oh : Heap) : Heap → Heap → (Heap → Prop) → Prop
  | [], _, K => K oh
  | (o, x) :: r, S, K => (match hasH S o with
    | true => lpH oh r S K
    | false => (match hasH oh o with
      | true => lpH oh r ((o, x) :: S) K
      | false => (match x with
        | .dead => lpH oh r ((o, x) :: S) K
        | x => lpH oh r ((o, x) :: S) fun h => K ((o, x) :: h))))
theorem lpH_eq (oh : Heap) : ∀ (r S : Heap) (K : Heap → Prop), lpH oh r S K = K (keepH oh r S)
  | [], _, K => rfl
  | (o, x) :: r, S, K => by
    simp only [lpH, keepH]
    cases hasH S o with
    | true => exact lpH_eq oh r S K
    | false =>
      simp only
      cases hasH oh o with
      | true => exact lpH_eq oh r _ K
      | false =>
        simp only
        cases x <;> simp only [lpH_eq oh r]
theorem keepH_seen : ∀ (r S : Heap) (i : Nat), hasH S i = true → Heap.get (keepH [] r S) i = .dead
  | [], S, i, _ => rfl
  | (o, x) :: r, S, i, h => by
    have h2 : ∀ y, hasH ((o, y) :: S) i = true := fun y => by simp only [hasH]; split <;> first | rfl | exact h
    simp only [keepH]
    split
    · exact keepH_seen r S i h
    · rename_i hs
      have hoi : o ≠ i := fun e => by subst e; rw [h] at hs; cases hs
      simp only [hasH]
      cases x <;> simp only [] <;> first | exact keepH_seen r _ i (h2 _) | (rw [Heap.get_cons, if_neg hoi]; exact keepH_seen r _ i (h2 _))
theorem keepH_get : ∀ (r S : Heap) (i : Nat), hasH S i = false → Heap.get (keepH [] r S) i = Heap.get r i
  | [], S, i, _ => rfl
  | (o, x) :: r, S, i, h => by
    simp only [keepH]
    split
    · rename_i hs
      have hoi : o ≠ i := fun e => by subst e; rw [h] at hs; cases hs
      rw [keepH_get r S i h, Heap.get_cons, if_neg hoi]
    · simp only [hasH]
      by_cases hoi : o = i
      · subst hoi
        have hs : ∀ y, hasH ((o, y) :: S) o = true := fun y => by simp [hasH]
        rw [Heap.get_cons, if_pos rfl]
        cases x <;> simp only [] <;> first | exact keepH_seen r _ o (hs _) | (rw [Heap.get_cons, if_pos rfl])
      · have hs : ∀ y, hasH ((o, y) :: S) i = false := fun y => by
          simp only [hasH]
          have : Nat.beq o i = false := by
            cases hb : Nat.beq o i with
            | false => rfl
            | true => exact absurd (Nat.eq_of_beq_eq_true hb) hoi
          rw [this]; exact h
        rw [Heap.get_cons, if_neg hoi]
        cases x <;> simp only [] <;> first | exact keepH_get r _ i (hs _) | (rw [Heap.get_cons, if_neg hoi]; exact keepH_get r _ i (hs _))
theorem Ent.hp {env : Env} {hp : Heap} {nx yk : Nat} : Ent C ⟨env, hp, nx, yk⟩ ⟨env, keepH [] hp [], nx, yk⟩ := fun d0 F μ a w hs =>
  ⟨F, μ, ⟨hs.h.congr fun i => keepH_get hp [] i rfl, hs.fresh, hs.size, hs.env, hs.mks, hs.rd, hs.itro, hs.j⟩, Base.refl F μ w, Kp.refl _ _⟩
/-! ### Code, by forced states -/
/-- Between two statements: the state may be made vaguer. -/
structure Sq (C : Cx P) (V : List Nat) (id : Nat) (Q : St → Prop) (s : St) : Prop where
  ex : ∃ s', Ent C s s' ∧ Q s'
theorem Sq.go {V : List Nat} {id : Nat} {Q : St → Prop} {s : St} (h : Q s) : Sq C V id Q s := ⟨s, Ent.refl s, h⟩
theorem Sq.ent {V : List Nat} {id : Nat} {Q : St → Prop} {s : St} (s' : St) (h : Ent C s s') (k : Sq C V id Q s') : Sq C V id Q s := let ⟨t, h1, h2⟩ := k.ex; ⟨t, h.trans h1, h2⟩
theorem Sq.pr {V : List Nat} {id : Nat} {Q : St → Prop} {env : Env} {hp : Heap} {nx yk : Nat} (h : prF V env fun env' => lpH [] hp [] fun hp' => Q ⟨env', hp', nx, yk⟩) : Sq C V id Q ⟨env, hp, nx, yk⟩ := by
  obtain ⟨env', h1, h2⟩ := prF_spec V env _ h
  rw [lpH_eq] at h1
  exact ⟨_, (Ent.env h2).trans Ent.hp, h1⟩

def rid : Code → Nat
  | .region id _ _ => id
  | .seq x _ => rid x
  | .block _ c => rid c
  | .loop c => rid c
  | .scope c => rid c
  | .cond _ x _ => rid x
  | _ => 0
def cdF (x : AV) (A B : Prop) : Prop :=
  match x with
  | .p (.bool b) => Br b A B
  | _ => False
def exF (id : Nat) (A : Prop) (B : Nat → Prop) (j : Nat) : Prop :=
  match Nat.beq j id with
  | true => A
  | false => B j
theorem exF_eq (id : Nat) (A : Prop) (B : Nat → Prop) (j : Nat) : exF id A B j = if j = id then A else B j := by
  unfold exF
  split
  · rename_i h; rw [if_pos (Nat.eq_of_beq_eq_true h)]
  · rename_i h; rw [if_neg (Nat.ne_of_beq_eq_false h)]

/-- A loop, a range over a function: here the walk stops. -/
structure Lp (C : Cx P) (c : Code) (s : St) (K : Kt) : Prop where
  w : Wpc C c s K
def awR (C : Cx P) (ops : Array Oper) (draw : Bool) (s : St) (K : Kt) : Prop :=
  match draw, s with
  | true, ⟨env, hp, nx, yk⟩ => dq C.G ops.toList nx yk ops.toList 0 env hp [] (fun env hp nx yk => K.n ⟨env, hp, nx, yk⟩) K.p
  | false, ⟨env, hp, nx, yk⟩ => sq C.G ops.toList ops.toList env hp nx yk (fun env hp nx yk => K.n ⟨env, hp, nx, yk⟩) K.p
def Kt.sq (C : Cx P) (V : List Nat) (id : Nat) (f : St → Kt → Prop) (K : Kt) : Kt := { K with n := fun s' => Sq C V id (fun s2 => f s2 K) s' }
def Kt.bl (id : Nat) (K : Kt) : Kt := { K with e := fun j s' => exF id (K.n s') (fun j => K.e j s') j }
def Kt.nx (K : Kt) (f : St → Prop) : Kt := { K with n := f }
noncomputable def aw (C : Cx P) (V : List Nat) (c : Code) : St → Kt → Prop :=
  Code.rec (motive := fun _ => St → Kt → Prop)
    (skip := fun s K => K.n s)
    (region := fun _ ops draw s K => awR C ops draw s K)
    (seq := fun _ y ihx ihy s K => ihx s (Kt.sq C V (rid y) ihy K))
    (cond := fun c _ _ ihx ihy s K => cdF (evalO s.env c) (ihx s K) (ihy s K))
    (block := fun id _ ih s K => ih s (Kt.bl id K))
    (loop := fun c _ s K => Lp C (.loop c) s K)
    (rangeFunc := fun f ps x y _ _ s K => Lp C (.rangeFunc f ps x y) s K)
    (exit := fun j s K => K.e j s)
    (scope := fun c _ s K => Lp C (.scope c) s K)
    (label := fun _ s K => K.n s)
    (goto := fun l s K => Lp C (.goto l) s K)
    (ret := fun s K => K.r s)
    (refuse := fun w s K => Lp C (.refuse w) s K) c
theorem aw_t (C : Cx P) (V : List Nat) (id : Nat) (ops : Array Oper) (env : Env) (hp : Heap) (nx yk : Nat) (K : Kt) : aw C V (.region id ops true) ⟨env, hp, nx, yk⟩ K = dq C.G ops.toList nx yk ops.toList 0 env hp [] (fun env hp nx yk => K.n ⟨env, hp, nx, yk⟩) K.p := rfl
theorem aw_f (C : Cx P) (V : List Nat) (id : Nat) (ops : Array Oper) (env : Env) (hp : Heap) (nx yk : Nat) (K : Kt) : aw C V (.region id ops false) ⟨env, hp, nx, yk⟩ K = sq C.G ops.toList ops.toList env hp nx yk (fun env hp nx yk => K.n ⟨env, hp, nx, yk⟩) K.p := rfl
theorem aw_cond (C : Cx P) (V : List Nat) (c : Operand) (x y : Code) (s : St) (K : Kt) : aw C V (.cond c x y) s K = cdF (evalO s.env c) (aw C V x s K) (aw C V y s K) := rfl

theorem aw_sound (hm : P.follows .mixedOrders = true) (V : List Nat) (c : Code) : ∀ (s : St) (K : Kt), aw C V c s K → Wpc C c s K := by
  induction c with
  | skip => intro s K h _ n Q d0 F μ a w hs hk; exact wpIn_skip (hk .normal s F μ a w h (Rl.refl F μ w) (Kp.refl _ _) hs)
  | exit j => intro s K h _ n Q d0 F μ a w hs hk; exact wpIn_exit (hk (.exit j) s F μ a w h (Rl.refl F μ w) (Kp.refl _ _) hs)
  | ret => intro s K h _ n Q d0 F μ a w hs hk; exact wpIn_ret (hk .ret s F μ a w h (Rl.refl F μ w) (Kp.refl _ _) hs)
  | label l => intro s K h _ n Q d0 F μ a w hs hk; exact wpIn_label (hk .normal s F μ a w h (Rl.refl F μ w) (Kp.refl _ _) hs)
  | region id ops draw =>
    intro s K h hok n Q d0 F μ a w hs hk
    obtain ⟨env, hp, nx, yk⟩ := s
    cases draw with
    | true =>
      rw [aw_t, dq_eq] at h
      have := drwK_sound (n := n) (id := id) (Q := Q) hm hok hs h (fun s' F' μ' a' w' h1 h2 h3 h4 => hk .normal s' F' μ' a' w' h1 h2 h3 h4)
        fun s' F' μ' a' w' p ch h1 h2 h3 h4 h5 => hk (.panic ch) s' F' μ' a' w' ⟨p, h1, h5⟩ h2 h3 h4
      simpa using this
    | false =>
      rw [aw_f, sq_eq] at h
      exact wpIn_region_list (seqK_sound hok _ _ F μ a w (fun o ho => ho) hs h (fun s' F' μ' a' w' h1 h2 h3 h4 => hk .normal s' F' μ' a' w' h1 h2 h3 h4)
        fun s' F' μ' a' w' p ch h1 h2 h3 h4 h5 => hk (.panic ch) s' F' μ' a' w' ⟨p, h1, h5⟩ h2 h3 h4)
  | seq x y ihx ihy =>
    intro s K h hok n Q d0 F μ a w hs hk
    simp only [okc, Bool.and_eq_true] at hok
    refine wpIn_seq (ihx s _ h hok.1 n _ d0 F μ a w hs fun e s' F' μ' a' w' h1 h2 h3 h4 => ?_)
    cases e with
    | normal =>
      obtain ⟨s2, e1, e2⟩ := h1.ex
      obtain ⟨F2, μ2, g1, g2, g3⟩ := e1 d0 F' μ' a' w' h4
      exact ihy s2 K e2 hok.2 n Q d0 F2 μ2 a' w' g1 fun e s3 F3 μ3 a3 w3 k1 k2 k3 k4 => hk e s3 F3 μ3 a3 w3 k1 (h2.trans ((Rl.of g2).trans k2)) (h3.trans (g3.trans k3)) k4
    | exit j => exact hk _ s' F' μ' a' w' h1 h2 h3 h4
    | ret => exact hk _ s' F' μ' a' w' h1 h2 h3 h4
    | goto l => exact h1.elim
    | panic ch => exact hk _ s' F' μ' a' w' h1 h2 h3 h4
    | outgrown => exact h1.elim
  | cond c x y ihx ihy =>
    intro s K h hok n Q d0 F μ a w hs hk
    simp only [okc, Bool.and_eq_true] at hok
    rw [aw_cond] at h
    simp only [cdF] at h
    have hc := eval_rv hs.env c
    split at h
    · rename_i b hb
      rw [hb] at hc
      exact wpIn_cond_split (pbool_inv hc) (fun e => ihx s K (h.t e) hok.1 n Q d0 F μ a w hs hk) (fun e => ihy s K (h.f e) hok.2 n Q d0 F μ a w hs hk)
    · exact h.elim
  | block id c ih =>
    intro s K h hok n Q d0 F μ a w hs hk
    refine wpIn_block (ih s _ h hok n _ d0 F μ a w hs fun e s' F' μ' a' w' h1 h2 h3 h4 => ?_)
    cases e with
    | normal => exact hk .normal s' F' μ' a' w' h1 h2 h3 h4
    | exit j =>
      simp only [kOf, Kt.bl, exF_eq] at h1
      simp only [Exit.inBlock]
      split
      · rename_i e; rw [if_pos e] at h1; exact hk .normal s' F' μ' a' w' h1 h2 h3 h4
      · rename_i e; rw [if_neg e] at h1; exact hk (.exit j) s' F' μ' a' w' h1 h2 h3 h4
    | ret => exact hk .ret s' F' μ' a' w' h1 h2 h3 h4
    | goto l => exact h1.elim
    | panic ch => exact hk _ s' F' μ' a' w' h1 h2 h3 h4
    | outgrown => exact h1.elim
  | loop c ih => intro s K h; exact h.w
  | rangeFunc f params assign body _ _ => intro s K h; exact h.w
  | scope c _ => intro s K h; exact h.w
  | goto l => intro s K h; exact h.w
  | refuse why => intro s K h; exact h.w

variable {s s' : St} {K : Kt} {c : Code}
theorem Wpc.ent (h : Ent C s s') (k : Wpc C c s' K) : Wpc C c s K := fun hok n Q d0 F μ a w hs hk => by
  obtain ⟨F', μ', h1, h2, h3⟩ := h d0 F μ a w hs
  exact k hok n Q d0 F' μ' a w h1 fun e s2 F2 μ2 a2 w2 k1 k2 k3 k4 => hk e s2 F2 μ2 a2 w2 k1 ((Rl.of h2).trans k2) (h3.trans k3) k4

theorem wpIn_loop_nat {F : Fence} {n : Nat} {c : Code} {Q : Exit → Act → World → Prop} (I : Nat → Act → World → Prop)
    (round : ∀ j a w, I j a w → c.wpIn F n P (Exit.then (fun a' w' => ∃ j', j' < j ∧ I j' a' w') Q) a w) {j : Nat} {a : Act} {w : World} (h0 : I j a w) : (Code.loop c).wpIn F n P Q a w := by
  intro b k cs hro hb hr
  have key : ∀ j a w, I j a w →
      ∃ e a' w', Q e a' w' ∧ ArrivesIn (Machine.fenced P F) P (lone (b.atR a (.code c :: .inLoop c :: k)) cs w) b k cs e a' w' := by
    intro j
    induction j using Nat.strongRecOn with
    | _ j ih =>
      intro a w hI
      obtain ⟨e, a₁, w₁, hq, harr⟩ := round j a w hI b (.inLoop c :: k) cs hro hb hr
      cases e with
      | normal =>
        obtain ⟨j', hlt, hI₁⟩ := hq
        obtain ⟨e₂, a₂, w₂, hq₂, harr₂⟩ := ih j' hlt a₁ w₁ hI₁
        exact ⟨e₂, a₂, w₂, hq₂, .of_steps (StepsIn.trans harr (.one (fenced_calm hb hr rfl) stepR_inLoop)) harr₂⟩
      | exit id => exact ⟨_, a₁, w₁, hq, .pass (x := .inLoop c) rfl (fun _ _ => .inl (by simp)) harr⟩
      | goto l => exact ⟨_, a₁, w₁, hq, .pass (x := .inLoop c) rfl (fun _ _ => .inl (by simp)) harr⟩
      | ret => exact ⟨_, a₁, w₁, hq, .pass (x := .inLoop c) rfl (fun _ _ => .inl (by simp)) harr⟩
      | panic ch => exact ⟨_, a₁, w₁, hq, .pass (x := .inLoop c) rfl (fun _ _ => .inl (by simp)) harr⟩
      | outgrown => exact ⟨_, a₁, w₁, hq, .pass (x := .inLoop c) rfl (fun _ _ => .inl (by simp)) harr⟩
  obtain ⟨e, a', w', hq, harr⟩ := key _ a w h0
  exact ⟨e, a', w', hq, .of_steps (.one (fenced_calm hb hr rfl) stepR_loop) harr⟩

/-- A loop: 'I': the states at its head. -/
theorem Wpc.loop {α : Type} (hm : P.follows .mixedOrders = true) (V : List Nat) (I : α → St) (m : α → Nat) (i0 : α) (h0 : Ent C s (I i0))
    (hstep : ∀ i, aw C V c (I i) (Kt.nx K fun s' => ∃ j, m j < m i ∧ Ent C s' (I j))) : Lp C (.loop c) s K := ⟨fun hok n Q d0 F μ a w hs hk => by
  obtain ⟨F0, μ0, h1, h2, h3⟩ := h0 d0 F μ a w hs
  refine wpIn_loop_nat (fun k a' w' => ∃ (i : α) (F' : Nat → Prop) (μ' : Num), m i = k ∧ Rl C.G F μ w F' μ' w' ∧ Kp C.kp μ μ' ∧ Sim C d0 F' μ' (I i) a' w') (fun k a1 w1 hI => ?_) (j := m i0) ⟨i0, F0, μ0, rfl, .of h2, h3, h1⟩
  obtain ⟨i, F1, μ1, hk1, b1, b2, s1⟩ := hI
  refine aw_sound hm V c (I i) _ (hstep i) hok n _ d0 F1 μ1 a1 w1 s1 fun e s' F' μ' a' w' k1 k2 k3 k4 => ?_
  cases e with
  | normal =>
    obtain ⟨j, hj, he⟩ := k1
    obtain ⟨F2, μ2, e1, e2, e3⟩ := he d0 F' μ' a' w' k4
    exact ⟨m j, by omega, j, F2, μ2, rfl, (b1.trans k2).trans (.of e2), (b2.trans k3).trans e3, e1⟩
  | exit j => exact hk _ s' F' μ' a' w' k1 (b1.trans k2) (b2.trans k3) k4
  | ret => exact hk _ s' F' μ' a' w' k1 (b1.trans k2) (b2.trans k3) k4
  | goto l => exact k1.elim
  | panic ch => exact hk _ s' F' μ' a' w' k1 (b1.trans k2) (b2.trans k3) k4
  | outgrown => exact k1.elim⟩
end

end Go.Sg

namespace Go.Sg
open Go

/-! ### Calls, from contracts -/
section
variable {P : Program} {f : FuncId} {σ : Heap} {nid : Nat} {K : AV → Heap → Prop} {ps : List PV} {r : PV} {c : Option (FuncId × List AV)}
theorem PV.le_of {p q : PV} (h : p = q) : PV.le p q := by subst h; exact PV.le_refl p
theorem PV.leL_refl : ∀ l : List PV, PV.leL l l
  | [] => PV.leL_nil
  | _ :: l => PV.leL_cons (PV.le_refl _) (PV.leL_refl l)
theorem PCalls.le {as bs : List PV} {r q : PV} (h : PCalls P f as r) (ha : PV.leL bs as) (hr : PV.le r q) : PCalls P f bs q := fun F w vs hF hs hv =>
  Calls.mono (h F w vs hF (hs.trans ha.1) fun i p hp => by
    have hi : i < bs.length := by rw [ha.1]; exact (List.getElem?_eq_some_iff.1 hp).1
    exact ha.2 i _ p (List.getElem?_eq_getElem hi) hp F w _ (hv i _ (List.getElem?_eq_getElem hi))) fun e w' ⟨v, F', h1, h2, h3, h4⟩ => ⟨v, F', h1, h2, h3, hr F' w' v h4⟩
/-- Of pure arguments. -/
theorem call_p (hp : PCalls P f ps r) (he : enters P f = true) (hc : c = some (f, ps.map AV.p)) (hk : K (.p r) []) : callX P c σ nid K :=
  ⟨.inl ⟨f, _, [], ps, r, hc, he, by simp, FrzL.refl ps, hp, by simpa using hk⟩⟩
theorem call_ple {ps' : List PV} (hp : PCalls P f ps r) (he : enters P f = true) (hc : c = some (f, ps'.map AV.p)) (hl : PV.leL ps' ps) (hk : K (.p r) []) : callX P c σ nid K :=
  call_p (hp.le hl (PV.le_refl r)) he hc hk
/-- Of arguments that lead to objects of the caller's own. -/
theorem call_z {as : List AV} (hp : PCalls P f ps r) (he : enters P f = true) (hc : c = some (f, as)) (hz : fzL σ 60 as [] fun qs Z => PV.leL qs ps ∧ K (.p r) (Z.map fun o => (o, if flatP r then σ.get o else .dead))) : callX P c σ nid K := by
  obtain ⟨qs, Z, ⟨h1, h2⟩, _, h3, h4⟩ := (fz_both 60).2 as [] _ (by simp [liveZ]) hz
  exact ⟨.inl ⟨f, as, Z, qs, r, hc, he, h3, h4, hp.le h1 (PV.le_refl r), h2⟩⟩
/-- A call that changes the caller's objects. -/
theorem call_i {as as0 : List AV} {σ0 σ1 : Heap} {r : AV} (ρ : List Nat) (hi : ICalls P f ρ.length σ0 as0 r σ1) (he : enters P f = true) (hc : c = some (f, as)) (ha : as = renL (rn ρ nid) as0) (hn : ρ.Nodup)
    (hl : ∀ o ∈ ρ, σ.get o ≠ .dead) (hs : ∀ i, i < ρ.length → σ.get (ρ.getD i 0) = renO (rn ρ nid) (σ0.get i)) (hd : ∀ i, ρ.length ≤ i → σ0.get i = .dead) (hcov : ∀ i, i < ρ.length → i ∈ keys σ1)
    (hb : ∀ k ∈ keys σ1, k < ρ.length + 64) (hk : K (renV (rn ρ nid) r) (σ1.map fun x => (rn ρ nid x.1, renO (rn ρ nid) x.2))) : callX P c σ nid K :=
  ⟨.inr (.inl ⟨f, as, as0, σ0, r, σ1, ρ, hc, he, ha, hn, hl, hs, hd, hcov, hb, hi, hk⟩)⟩
/-- A call that panics. -/
theorem call_x {as as0 : List AV} {σ0 : Heap} {p : PV} {KX : PV → Heap → Prop} (ρ : List Nat) (hi : XCalls P f ρ.length σ0 as0 p) (he : enters P f = true) (hc : c = some (f, as)) (ha : as = renL (rn ρ nid) as0) (hn : ρ.Nodup)
    (hl : ∀ o ∈ ρ, σ.get o ≠ .dead) (hs : ∀ i, i < ρ.length → σ.get (ρ.getD i 0) = renO (rn ρ nid) (σ0.get i)) (hd : ∀ i, ρ.length ≤ i → σ0.get i = .dead) (hk : KX p (ρ.map fun o => (o, .dead))) : callP P c σ nid KX :=
  ⟨f, as, as0, σ0, ρ, p, hc, he, ha, hn, hl, hs, hd, hi, hk⟩
/-- 'slices.overlaps' of two rows of the run's own. -/
theorem call_e {a1 a2 : AV} {o1 s1 i1 n1 o2 s2 i2 n2 : Nat} {l1 l2 : List PV} (ho : OvFact P f) (hc : c = some (f, [a1, a2])) (e1 : uc a1 = .rsl o1 s1 i1 n1) (e2 : uc a2 = .rsl o2 s2 i2 n2) (hne : o1 ≠ o2) (g1 : σ.get o1 = .row s1 l1) (g2 : σ.get o2 = .row s2 l2)
    (h0 : 0 < s2) (hl : 0 < l2.length) (hk : K (.p (.bool false)) [(o1, .row s1 l1), (o2, .row s2 l2)]) : callX P c σ nid K :=
  ⟨.inr (.inr ⟨f, a1, a2, o1, s1, i1, n1, o2, s2, i2, n2, l1, l2, hc, ho, e1, e2, hne, g1, g2, h0, hl, hk⟩)⟩
end

structure LeG (p q : PV) : Prop where
  le : PV.le p q
@[simp] theorem LeG.refl (p : PV) : LeG p p := ⟨PV.le_refl p⟩
theorem LeG.of {p q : PV} (h : p = q) : LeG p q := ⟨PV.le_of h⟩
theorem LeG.bool {a b : Bool} (h : a = b) : LeG (.bool a) (.bool b) := .of (by rw [h])
/-! ### A function -/
def argEnv : Nat → List AV → Env
  | _, [] => []
  | k, p :: l => (k, p) :: argEnv (k + 1) l
theorem argEnv_get : ∀ (l : List AV) (k t : Nat), (argEnv k l).get t = if k ≤ t then (match l[t - k]? with | some p => p | none => .any) else .any
  | [], k, t => by simp [argEnv, Env.get]
  | p :: l, k, t => by
    simp only [argEnv, Env.get, argEnv_get l]
    by_cases e : k = t
    · subst e; simp
    · simp only [e, if_false]
      by_cases h : k + 1 ≤ t
      · rw [if_pos h, if_pos (by omega), show t - k = t - (k + 1) + 1 by omega]; simp
      · rw [if_neg h, if_neg (by omega)]
def resVs (P : Program) (env : Env) (hp : Heap) : List ResultVar → (List AV → Prop) → Prop
  | [], K => K []
  | .tmp t :: l, K => frc (env.get t) fun v => resVs P env hp l fun vs => K (v :: vs)
  | .cell a t :: l, K => rowLoad P t (env.get a) hp fun v => frc v fun v => resVs P env hp l fun vs => K (v :: vs)
def oneV : List AV → AV
  | [v] => v
  | vs => .tup vs
/-- What a pure function hands back. -/
def resP (P : Program) (res : List ResultVar) (r : PV) (s : St) : Prop :=
  match s with
  | ⟨env, hp, _, _⟩ => resVs P env hp res fun vs => fzV hp 60 (oneV vs) [] fun p _ => LeG p r

def resOne (ts : Array Value) (x : ResultVar) : Sem Value :=
  match x with
  | .tmp t => pure (ts.getD t undef)
  | .cell c t => do loadVar t (← asAddr (ts.getD c undef))
theorem resVs_sound {P : Program} {F : Nat → Prop} {μ : Num} {env : Env} {hp : Heap} {ts : Array Value} {w : World} (hσ : SimH F μ hp w) (hs : ∀ t, RV F μ w (ts[t]?.getD undef) (env.get t)) : ∀ (res : List ResultVar) (K : List AV → Prop), resVs P env hp res K →
    ∃ (vs : List Value) (as : List AV), K as ∧ vs.length = as.length ∧ (∀ (i : Nat) p, as[i]? = some p → RV F μ w (vs[i]?.getD undef) p) ∧
      ∀ w', Same w w' → (res.mapM (resOne ts)).run P w' = .ok vs w' := by
  intro res
  induction res with
  | nil => intro K h; exact ⟨[], [], h, rfl, by simp, by simp⟩
  | cons x l ih =>
    intro K h
    cases x with
    | tmp t =>
      simp only [resVs, frc_eq] at h
      obtain ⟨vs, as, h1, h2, h3, h4⟩ := ih _ h
      refine ⟨ts.getD t undef :: vs, env.get t :: as, h1, by simp [h2], fun i p hp => ?_, fun w' hw => ?_⟩
      · cases i with
        | zero => simp at hp; subst hp; have := hs t; simpa [Array.getD_eq_getD_getElem?] using this
        | succ i => simp at hp; simpa using h3 i p hp
      · simp only [List.mapM_cons, Sem.run_bind, Sem.run_pure, Result.andThen_ok, resOne, h4 w' hw]
    | cell c t =>
      simp only [resVs, frc_eq] at h
      have hv := hs c
      obtain ⟨av, v, k1, k2, k3⟩ := rowLoad_sound (P := P) hσ hv h
      obtain ⟨vs, as, h1, h2, h3, h4⟩ := ih _ k1
      refine ⟨v :: vs, av :: as, h1, by simp [h2], fun i p hp => ?_, fun w' hw => ?_⟩
      · cases i with
        | zero => simp at hp; subst hp; simpa using k2
        | succ i => simp at hp; simpa using h3 i p hp
      · have hrun := k3 w' hw
        have hload : (resOne ts (.cell c t)).run P w' = .ok v w' := by
          show (do loadVar t (← asAddr (ts.getD c undef)) : Sem Value).run P w' = .ok v w'
          have e : ts.getD c undef = ts[c]?.getD undef := by simp [Array.getD_eq_getD_getElem?]
          rw [e]
          revert hrun
          generalize ts[c]?.getD undef = u
          intro hrun
          cases u with
          | pointer q => cases q with
            | some q => exact hrun
            | none => simp [Instr.loadAt, Instr.sureAddr] at hrun
          | _ => simp [Instr.loadAt, Instr.sureAddr] at hrun
        simp only [List.mapM_cons, Sem.run_bind, Sem.run_pure, hload, Result.andThen_ok, h4 w' hw]

/-- The marks are taken one by one. -/
theorem leavesM {P : Program} {ro : Option Nat} {n : Nat} {fn : Func} {tmps : Array Value} {R : Ending → World → Prop} : ∀ (ms : List Nat) (w : World), ms.Nodup → (∀ r ∈ ms, w.heap[r]? = some (.deferred (some []))) →
    (∀ w', (∀ b, b ∉ ms → w'.heap[b]? = w.heap[b]?) → w'.os = w.os → w'.tape = w.tape → w'.output = w.output → w'.heap.size = w.heap.size → LeavesIn (fc ro) n P fn tmps R [] .returning w') →
    LeavesInM (fc ro) n P fn tmps R (ms.map markD) .returning w
  | [], w, _, _, h => h w (fun _ _ => rfl) rfl rfl rfl rfl
  | r :: ms, w, hn, hd, h => by
    have hr := hd r (by simp)
    have hlt := lt_of_get hr
    simp only [List.nodup_cons] at hn
    let w1 : World := w.putObj r (.deferred none)
    have hsame : ∀ b, b ≠ r → w1.heap[b]? = w.heap[b]? := fun b hb => World.putObj_heap_other hb
    refine ⟨by simp, .inl ⟨r, w1, rfl, ?_, ?_⟩⟩
    · exact run_takeDeferred hr
    · refine leavesM ms w1 hn.2 (fun x hx => ?_) fun w' k1 k2 k3 k4 k5 => ?_
      · rw [hsame x (fun e => hn.1 (e ▸ hx))]; exact hd x (by simp [hx])
      · refine h w' (fun b hb => ?_) k2 k3 k4 (k5.trans (by simp [w1]))
        simp only [List.mem_cons, not_or] at hb
        rw [k1 b hb.2, hsame b hb.1]
end Go.Sg

namespace Go.Sg
open Go
section
variable {P : Program} {f : FuncId} {fn : Func} {c : Code} {N : Nat} {res : List ResultVar}

/-- The same, in a panic. -/
theorem leavesP {ro : Option Nat} {n : Nat} {tmps : Array Value} {R : Ending → World → Prop} {ch : List PanicEntry} : ∀ (ms : List Nat) (w : World), ms.Nodup → (∀ r ∈ ms, w.heap[r]? = some (.deferred (some []))) →
    (∀ w', (∀ b, b ∉ ms → w'.heap[b]? = w.heap[b]?) → w'.os = w.os → w'.tape = w.tape → w'.output = w.output → w'.heap.size = w.heap.size → R (.panicked ch) w') →
    LeavesInM (fc ro) n P fn tmps R (ms.map markD) (.panicking ch) w
  | [], w, _, _, h => h w (fun _ _ => rfl) rfl rfl rfl rfl
  | r :: ms, w, hn, hd, h => by
    have hr := hd r (by simp)
    simp only [List.nodup_cons] at hn
    let w1 : World := w.putObj r (.deferred none)
    have hsame : ∀ b, b ≠ r → w1.heap[b]? = w.heap[b]? := fun b hb => World.putObj_heap_other hb
    refine ⟨by simp, .inl ⟨r, w1, rfl, run_takeDeferred hr, ?_⟩⟩
    refine leavesP ms w1 hn.2 (fun x hx => ?_) fun w' k1 k2 k3 k4 k5 => ?_
    · rw [hsame x (fun e => hn.1 (e ▸ hx))]; exact hd x (by simp [hx])
    · refine h w' (fun b hb => ?_) k2 k3 k4 (k5.trans (by simp [w1]))
      simp only [List.mem_cons, not_or] at hb
      rw [k1 b hb.2, hsame b hb.1]
/-- How a function ends, for its caller: 'Post' of the state behind its code. -/
theorem calls_of {C : Cx P} {as : List AV} {s0 : St} {K : Kt} {F : Nat → Prop} {μ : Num} {w : World} {vs : Array Value} {R : Ending → World → Prop} (hm : P.follows .mixedOrders = true) (hf : P.funcs[f]? = some fn) (hb : fn.body = some c)
    (hN : fn.ntmps = C.N) (hr : fn.results.toList = res) (hok : okc C.N c = true) (ha : as.length ≤ C.N) (V : List Nat) (h : aw C V c s0 K)
    (hs0 : s0.env = argEnv 0 as) (hσ : SimH F μ s0.hp w) (hfr : ∀ o, s0.nx ≤ o → μ o = none) (hj : C.G.J s0.yk F μ w) (hvs : vs.size = as.length) (hrv : ∀ (i : Nat) p, as[i]? = some p → RV F μ w (vs[i]?.getD undef) p)
    (hn : ∀ s, K.n s → K.r s) (he : ∀ j s, ¬ K.e j s)
    (hret : ∀ s F' μ' w' (ts : Array Value), K.r s → Rl C.G F μ w F' μ' w' → Kp C.kp μ μ' → SimH F' μ' s.hp w' → (∀ o, s.nx ≤ o → μ' o = none) → (∀ t, RV F' μ' w' (ts[t]?.getD undef) (s.env.get t)) → (C.G.it = true → C.G.J s.yk F' μ' w') →
      ∃ us : List Value, (res.mapM (resOne ts)).run P w' = .ok us w' ∧ R (.returned (if h : us.toArray.size = 1 then us.toArray[0] else .tuple us.toArray)) w')
    (hpan : ∀ p s F' μ' w' ch, K.p p s → Rl C.G F μ w F' μ' w' → Kp C.kp μ μ' → SimH F' μ' s.hp w' → OnePanic F' w' ch p → R (.panicked ch) w') : Calls P f vs w R := by
  rw [← callsIn_fc (ro := none) (n := 0)]
  refine callsIn_of_wp_marks hf hb trivial ?_ rfl
  have hsz : (vs ++ Array.replicate (fn.ntmps - vs.size) undef).size = C.N := by
    have h1 : vs.size ≤ C.N := by rw [hvs]; exact ha
    simp [hN]; omega
  have hs : Sim C ⟨[], w.heap.size, none⟩ F μ s0 { tmps := vs ++ Array.replicate (fn.ntmps - vs.size) undef, defers := [] } w := by
    refine ⟨hσ, hfr, hsz, fun t => ?_, ⟨[], ⟨fun _ => rfl, List.nodup_nil, Nat.le_refl _⟩, rfl, by simp⟩, (fun l hl => by cases hl), fun _ => rfl, hj⟩
    rw [hs0, argEnv_get]
    simp only [Nat.zero_le, if_true, Nat.sub_zero]
    split
    · rename_i p hp
      have hlt : t < vs.size := by rw [hvs]; exact (List.getElem?_eq_some_iff.1 hp).1
      show RV F _ w ((vs ++ Array.replicate (fn.ntmps - vs.size) undef)[t]?.getD undef) _
      rw [Array.getElem?_append_left hlt]
      exact hrv t p hp
    · exact .any _
  -- once the marks are taken
  have tk : ∀ {s' : St} {F' : Nat → Prop} {μ' : Num} {a' : Act} {w' : World}, Rl C.G F μ w F' μ' w' → Sim C ⟨[], w.heap.size, none⟩ F' μ' s' a' w' → ∃ ms : List Nat, ms.Nodup ∧ a'.defers = ms.map markD ∧ (∀ r ∈ ms, w'.heap[r]? = some (.deferred (some [])) ∧ ¬ F' r) ∧
      ∀ w2, (∀ b, b ∉ ms → w2.heap[b]? = w'.heap[b]?) → w2.os = w'.os → w2.tape = w'.tape → w2.output = w'.output → w2.heap.size = w'.heap.size →
        SimH F' μ' s'.hp w2 ∧ (∀ t, RV F' μ' w2 (a'.tmps[t]?.getD undef) (s'.env.get t)) ∧ Rl C.G F μ w F' μ' w2 ∧ (C.G.it = true → C.G.J s'.yk F' μ' w2) := by
    intro s' F' μ' a' w' h2 h4
    obtain ⟨ms, ⟨m0, m1⟩, m2, m3⟩ := h4.mks
    refine ⟨ms, m1.1, by rw [m2]; exact List.append_nil _, fun r hr => ⟨(m3 r hr).1, (m3 r hr).2.1⟩, fun w2 k1 k2 k3 k4 k5 => ?_⟩
    have hsame : ∀ b, F' b ∨ μ'.has b → w2.heap[b]? = w'.heap[b]? := fun b hb => k1 b fun hbm => by
      obtain ⟨_, h5, h6, _⟩ := m3 b hbm
      exact hb.elim h5 h6
    refine ⟨h4.h.same (by omega) hsame, fun t => (h4.env t).same hsame, fun hit => ?_, ?_⟩
    · have hB := h2 hit
      have hlow : ∀ b, b < w.heap.size → b ∉ ms := fun b hb hbm => by
        have := (m3 b hbm).2.2.2; simp only at this; omega
      refine ⟨k2.trans hB.os, k3.trans hB.tape, k4.trans hB.output, by rw [k5]; exact hB.size, fun b hb => (hsame b (.inl (hB.sub b hb))).trans (hB.fr b hb), fun b hb hn => (k1 b (hlow b hb)).trans (hB.old b hb hn), fun b x hx => ?_, hB.sub, hB.fnew, hB.mnew⟩
      have hx' := hB.shape b x hx
      by_cases hbm : b ∈ ms
      · have := (m3 b hbm).1
        simp [World.shape?, this] at hx'
      · exact (shape_same (k1 b hbm)).trans hx'
    · intro hit
      have := m0 hit
      subst this
      have hw : ∀ b, w2.heap[b]? = w'.heap[b]? := fun b => k1 b (by simp)
      exact C.G.cl h4.j ⟨k2, k3, k4, by omega, fun b _ => hw b, fun b _ _ => hw b, fun b x hx => (shape_same (hw b)).trans hx, fun _ h => h, fun _ h => .inl h, fun _ h => .inl h⟩
  refine aw_sound hm V c _ _ h hok 0 _ ⟨[], w.heap.size, none⟩ F μ _ w hs fun e s' F' μ' a' w' h1 h2 h3 h4 => ?_
  obtain ⟨ms, t1, t2, t3, t4⟩ := tk h2 h4
  have fin : K.r s' → LeavesInM (fc none) 0 P fn a'.tmps R a'.defers .returning w' := fun hK => by
    rw [t2]
    refine leavesM ms w' t1 (fun r hr => (t3 r hr).1) fun w2 k1 k2 k3 k4 k5 => ?_
    obtain ⟨g1, g2, g3, g4⟩ := t4 w2 k1 k2 k3 k4 k5
    obtain ⟨us, r1, r2⟩ := hret s' F' μ' w2 a'.tmps hK g3 h3 g1 h4.fresh g2 g4
    refine ⟨_, ?_, r2⟩
    have e : results fn a'.tmps = (do let vs ← fn.results.mapM (resOne a'.tmps); pure (if h : vs.size = 1 then vs[0] else .tuple vs)) := rfl
    rw [e, ← Array.toArray_toList (xs := fn.results), hr, List.mapM_toArray]
    simp only [Sem.run_bind, map_eq_pure_bind, Sem.run_pure, r1, Result.andThen_ok]
  cases e with
  | normal => exact fin (hn _ h1)
  | ret => exact fin h1
  | exit j => exact absurd h1 (he j s')
  | goto l => exact h1.elim
  | panic ch =>
    obtain ⟨p, p1, p2⟩ := h1
    show LeavesInM (fc none) 0 P fn a'.tmps R a'.defers (.panicking ch) w'
    rw [t2]
    refine leavesP ms w' t1 (fun r hr => (t3 r hr).1) fun w2 k1 k2 k3 k4 k5 => ?_
    obtain ⟨g1, g2, g3, g4⟩ := t4 w2 k1 k2 k3 k4 k5
    obtain ⟨v, v1, v2⟩ := p2
    exact hpan p s' F' μ' w2 ch p1 g3 h3 g1 ⟨v, v1, v2.mono (fun _ h => h) fun b hb => by
      exact k1 b fun hbm => (t3 b hbm).2 hb⟩
  | outgrown => exact h1.elim

theorem one_of {us : List Value} {avs : List AV} {F : Nat → Prop} {μ : Num} {w : World} (k2 : us.length = avs.length) (k3 : ∀ (i : Nat) p, avs[i]? = some p → RV F μ w (us[i]?.getD undef) p) :
    RV F μ w (if h : us.toArray.size = 1 then us.toArray[0] else .tuple us.toArray) (oneV avs) := by
  by_cases h1 : us.toArray.size = 1
  · rw [dif_pos h1]
    have hs2 : us.length = 1 := by simpa using h1
    obtain ⟨u, rfl⟩ : ∃ u, us = [u] := by
      cases us with
      | nil => simp at hs2
      | cons u r => cases r with
        | nil => exact ⟨u, rfl⟩
        | cons _ _ => simp at hs2
    obtain ⟨v, rfl⟩ : ∃ v, avs = [v] := by
      cases avs with
      | nil => simp at k2
      | cons u r => cases r with
        | nil => exact ⟨u, rfl⟩
        | cons _ _ => simp at k2
    exact k3 0 v rfl
  · rw [dif_neg h1]
    have e : oneV avs = .tup avs := by
      cases avs with
      | nil => rfl
      | cons u r => cases r with
        | nil => exfalso; apply h1; simpa using k2
        | cons _ _ => rfl
    rw [e]
    exact .tup _ _ (by simp [k2]) (fun i p hp => by simpa using k3 i p hp)

/-- A pure function. -/
theorem PCalls.of {as : List PV} {r : PV} (hm : P.follows .mixedOrders = true) (hf : P.funcs[f]? = some fn) (hb : fn.body = some c)
    (hN : fn.ntmps = N) (hr : fn.results.toList = res) (hok : okc N c = true) (ha : as.length ≤ N) (V : List Nat)
    (h : aw ⟨N, Gam.no P, []⟩ V c ⟨argEnv 0 (as.map .p), [], 0, 0⟩ ⟨resP P res r, fun _ _ => False, resP P res r, fun _ _ => False⟩) : PCalls P f as r := by
  intro F w vs hF hvs hrv
  refine calls_of (as := as.map .p) (μ := fun _ => none) (F := F) hm hf hb hN hr hok (by simpa using ha) V h rfl (SimH.nil hF) (fun _ _ => rfl) trivial (by simpa using hvs) (fun i p hp => ?_) (fun _ h => h) (fun _ _ h => h) ?_ (fun _ _ _ _ _ _ h => h.elim)
  · simp only [List.getElem?_map, Option.map_eq_some_iff] at hp
    obtain ⟨q, hq, rfl⟩ := hp
    exact .p (hrv i q hq)
  · intro s F' μ' w' ts hK h2 _ h3 _ h5 _
    obtain ⟨env, hp, nx, yk⟩ := s
    have h2 := h2 rfl
    obtain ⟨us, avs, k1, k2, k3, k4⟩ := resVs_sound h3 h5 res _ hK
    refine ⟨us, k4 w' (fun _ _ => rfl), ?_⟩
    obtain ⟨p, Z, p1, _, p2, p3⟩ := (fz_both 60).1 (oneV avs) [] _ (by simp [liveZ]) k1
    refine ⟨_, (fun b => F' b ∨ ∃ o, o ∈ Z ∧ hp.get o ≠ .dead ∧ μ' o = some b), rfl, ⟨h2.os, h2.tape, h2.output, h2.size, h2.fr, h2.old, h2.shape, fun b hb => .inl (h2.sub b hb), ?_, fun b ⟨o, ho⟩ => by cases ho⟩, ?_, ?_⟩
    · rintro b (hb | ⟨o, _, _, hb⟩)
      · exact h2.fnew b hb
      · rcases h2.mnew b ⟨o, hb⟩ with h | h
        · exact .inr (.inl h)
        · exact .inr (.inr h)
    · rintro b (hb | ⟨o, _, _, hb⟩)
      · exact h3.fb b hb
      · exact h3.mb b ⟨o, hb⟩
    · exact p1.le _ _ _ (p3 F' μ' w' _ (fun o b _ _ hmo => h3.obj o b hmo) (one_of k2 k3))

/-- What a function that changes its caller's objects hands back and leaves. -/
def resI (P : Program) (res : List ResultVar) (m : Nat) (r : AV) (σ1 : Heap) (s : St) : Prop :=
  match s with
  | ⟨env, hp, _, _⟩ => resVs P env hp res fun vs => ∃ (Z : List Nat) (R : List (Nat × Nat)), VLe hp (· ∈ Z) (rget R) (oneV vs) r ∧ HpLe hp (· ∈ Z) (rget R) σ1 ∧ (R.map Prod.snd).Nodup ∧ (∀ x ∈ R, x.1 < m + 64) ∧ ∀ i, i < m → rget R i = some i
theorem ICalls.of {m nx : Nat} {σ0 σ1 : Heap} {as : List AV} {r : AV} (hm : P.follows .mixedOrders = true) (hf : P.funcs[f]? = some fn) (hb : fn.body = some c)
    (hN : fn.ntmps = N) (hr : fn.results.toList = res) (hok : okc N c = true) (ha : as.length ≤ N) (V : List Nat) (hnx : m ≤ nx)
    (h : aw ⟨N, Gam.no P, List.range m⟩ V c ⟨argEnv 0 as, σ0, nx, 0⟩ ⟨resI P res m r σ1, fun _ _ => False, resI P res m r σ1, fun _ _ => False⟩) : ICalls P f m σ0 as r σ1 := by
  intro F μ w vs hσ hfr hvs hrv
  refine calls_of (C := ⟨N, Gam.no P, List.range m⟩) (as := as) (μ := μ) (F := F) hm hf hb hN hr hok ha V h rfl hσ (fun o ho => hfr o (Nat.le_trans hnx ho)) trivial hvs hrv (fun _ h => h) (fun _ _ h => h) ?_ (fun _ _ _ _ _ _ h => h.elim)
  intro s F' μ' w' ts hK h2 hkp h3 _ h5 _
  obtain ⟨env, hp, nx', yk⟩ := s
  have h2 := h2 rfl
  obtain ⟨us, avs, ⟨Z, R, e1, e2, e3, e4, e5⟩, k2, k3, k4⟩ := resVs_sound h3 h5 res _ hK
  refine ⟨us, k4 w' (fun _ _ => rfl), ?_⟩
  obtain ⟨g1, g2⟩ := h3.ent Z R e2 e3
  refine ⟨_, _, _, rfl, h2.trans g2, g1, e1 F' μ' w' _ (fun o b _ _ hmo => h3.obj o b hmo) (one_of k2 k3), fun o ho b hb' => ?_, fun o ho => ?_⟩
  · show (rget R o).bind μ' = some b
    rw [e5 o ho]; exact hkp o (List.mem_range.2 ho) b hb'
  · show (rget R o).bind μ' = none
    cases hr' : rget R o with
    | none => rfl
    | some x => have h6 : o < m + 64 := e4 _ (rget_mem hr'); omega

/-- A function that panics. -/
theorem XCalls.of {m nx : Nat} {σ0 : Heap} {as : List AV} {p : PV} (hm : P.follows .mixedOrders = true) (hf : P.funcs[f]? = some fn) (hb : fn.body = some c)
    (hN : fn.ntmps = N) (hr : fn.results.toList = res) (hok : okc N c = true) (ha : as.length ≤ N) (V : List Nat) (hnx : m ≤ nx) (hfl : flatP p = true)
    (h : aw ⟨N, Gam.no P, List.range m⟩ V c ⟨argEnv 0 as, σ0, nx, 0⟩ ⟨fun _ => False, fun _ _ => False, fun _ => False, fun q _ => LeG q p⟩) : XCalls P f m σ0 as p := by
  refine ⟨hfl, fun F μ w vs hσ hfr hvs hrv => ?_⟩
  refine calls_of (C := ⟨N, Gam.no P, List.range m⟩) (as := as) (μ := μ) (F := F) hm hf hb hN hr hok ha V h rfl hσ (fun o ho => hfr o (Nat.le_trans hnx ho)) trivial hvs hrv (fun _ h => h) (fun _ _ h => h) (fun _ _ _ _ _ h => h.elim) ?_
  intro q s F' μ' w' ch hK h2 _ _ hp
  obtain ⟨v, rfl, hv⟩ := hp
  exact ⟨v, F', μ', rfl, h2 rfl, hK.le _ _ _ hv⟩

/-- A pure function out of one that hands back objects of its own: they are frozen. -/
theorem PCalls.ofI {as : List PV} {r : AV} {σ1 : Heap} {q : PV} (h : ICalls P f 0 [] (as.map .p) r σ1) (hz : fzV σ1 60 r [] fun p _ => LeG p q) : PCalls P f as q := by
  intro F w vs hF hvs hrv
  refine Calls.mono (h F (fun _ => none) w vs (SimH.nil hF) (fun _ _ => rfl) (by simpa using hvs) (fun i p hp => ?_)) ?_
  · simp only [List.getElem?_map, Option.map_eq_some_iff] at hp
    obtain ⟨q, hq, rfl⟩ := hp
    exact .p (hrv i q hq)
  · rintro e w' ⟨v, F', μ', rfl, h2, h3, hv, _, _⟩
    obtain ⟨p, Z, p1, _, p2, p3⟩ := (fz_both 60).1 r [] _ (by simp [liveZ]) hz
    refine ⟨v, (fun b => F' b ∨ ∃ o, o ∈ Z ∧ σ1.get o ≠ .dead ∧ μ' o = some b), rfl, ⟨h2.os, h2.tape, h2.output, h2.size, h2.fr, h2.old, h2.shape, fun b hb => .inl (h2.sub b hb), ?_, fun b ⟨o, ho⟩ => by cases ho⟩, ?_, ?_⟩
    · rintro b (hb | ⟨o, _, _, hb⟩)
      · exact h2.fnew b hb
      · rcases h2.mnew b ⟨o, hb⟩ with h | h
        · exact .inr (.inl h)
        · exact .inr (.inr h)
    · rintro b (hb | ⟨o, _, _, hb⟩)
      · exact h3.fb b hb
      · exact h3.mb b ⟨o, hb⟩
    · exact p1.le _ _ _ (p3 F' μ' w' _ (fun o b _ _ hmo => h3.obj o b hmo) hv)

/-- The capacity of the first argument gets a name. -/
theorem ICalls.csl {m : Nat} {σ0 σ1 : Heap} {o sz i len : Nat} {as : List AV} {r : AV} (h : ∀ cap, len ≤ cap → ICalls P f m σ0 (.csl o sz i len cap :: as) r σ1) : ICalls P f m σ0 (.rsl o sz i len :: as) r σ1 := by
  intro F μ w vs hσ hfr hsz hrv
  have h0 := hrv 0 _ rfl
  have key : ∀ {v : Value}, RV F μ w v (.rsl o sz i len) → ∃ cap, len ≤ cap ∧ RV F μ w v (.csl o sz i len cap) := by
    intro v hv
    have hv' := hv
    cases hv with
    | rsl _ _ _ _ _ hv =>
    cases hv with
    | msl _ _ _ off' _ cap b t n h1 h2 h3 h4 h5 h6 => exact ⟨cap, h5, .csl _ _ _ _ _ _ hv'⟩
  obtain ⟨cap, h1, h2⟩ := key h0
  refine h cap h1 F μ w vs hσ hfr (by simpa using hsz) fun j p hp => ?_
  cases j with
  | zero => simp at hp; subst hp; exact h2
  | succ j => exact hrv (j + 1) p (by simpa using hp)
/-- The value of an iterator: called with yield, it hands these over, one after the other. -/
def Iter (P : Program) (f : FuncId) (caps : List PV) (xs : List (List PV)) : Prop :=
  ∀ (G : Gam P), G.it = true → G.xs = xs → ∀ (F : Nat → Prop) (w : World) (vs : Array Value), (∀ b, F b → b < w.heap.size) → vs.size = caps.length → (∀ (i : Nat) p, caps[i]? = some p → RP F w (vs[i]?.getD undef) p) →
    G.J 0 F (fun _ => none) w → Calls P f (#[.func (.yield G.l) #[] #[]] ++ vs) w fun e w' => ∃ v F' μ', e = .returned v ∧ G.J (min (G.stop + 1) xs.length) F' μ' w'
def resY (n : Nat) (s : St) : Prop := s.yk = n
theorem Iter.of {caps : List PV} {xs : List (List PV)} (hm : P.follows .mixedOrders = true) (hf : P.funcs[f]? = some fn) (hb : fn.body = some c)
    (hN : fn.ntmps = N) (hr : fn.results.toList = []) (hok : okc N c = true) (ha : caps.length + 1 ≤ N) (V : List Nat)
    (h : ∀ (G : Gam P), G.it = true → G.xs = xs → aw ⟨N, G, []⟩ V c ⟨argEnv 0 (.p (.fn (.yield G.l) [] []) :: caps.map .p), [], 0, 0⟩ ⟨resY (min (G.stop + 1) xs.length), fun _ _ => False, resY (min (G.stop + 1) xs.length), fun _ _ => False⟩) : Iter P f caps xs := by
  intro G hit hxs F w vs hF hvs hrv hj
  refine calls_of (C := ⟨N, G, []⟩) (as := .p (.fn (.yield G.l) [] []) :: caps.map .p) (μ := fun _ => none) (F := F) hm hf hb hN hr hok (by simpa using ha) V (h G hit hxs) rfl (SimH.nil hF) (fun _ _ => rfl) hj (by simp [hvs]; omega) (fun i p hp => ?_) (fun _ h => h) (fun _ _ h => h) ?_ (fun _ _ _ _ _ _ h => h.elim)
  · cases i with
    | zero =>
      simp at hp; subst hp
      have : (#[Value.func (.yield G.l) #[] #[]] ++ vs)[0]?.getD undef = .func (.yield G.l) #[] #[] := by rw [Array.getElem?_append_left (Nat.zero_lt_one)]; rfl
      rw [this]
      exact .p (.fn _ _ _ _ _ rfl rfl (by simp) (by simp))
    | succ i =>
      simp only [List.getElem?_cons_succ, List.getElem?_map, Option.map_eq_some_iff] at hp
      obtain ⟨q, hq, rfl⟩ := hp
      have : (#[Value.func (.yield G.l) #[] #[]] ++ vs)[i + 1]? = vs[i]? := by
        rw [Array.getElem?_append_right (by simp)]; simp
      rw [this]
      exact .p (hrv i q hq)
  · intro s F' μ' w' ts hK _ _ h3 _ _ hj'
    refine ⟨[], by simp, _, F', μ', rfl, ?_⟩
    have : s.yk = _ := hK
    rw [← this]; exact hj' hit
end
end Go.Sg

namespace Go.Sg
open Go
variable {σ : Heap} {Z : Nat → Prop} {ρ : Nat → Option Nat}
theorem VLe.pe {p q : PV} (h : p = q) : VLe σ Z ρ (.p p) (.p q) := by subst h; exact VLe.refl _
theorem VLe.rsl {o o' sz i len : Nat} (h : ρ o' = some o) : VLe σ Z ρ (.rsl o sz i len) (.rsl o' sz i len) := fun F μ w v hz hv => by
  cases hv with
  | rsl _ _ _ _ _ hv => exact .rsl _ _ _ _ _ (VLe.msl h F μ w v hz hv)
theorem VLe.csl {o o' sz i len cap : Nat} (h : ρ o' = some o) : VLe σ Z ρ (.csl o sz i len cap) (.csl o' sz i len cap) := fun F μ w v hz hv => by
  cases hv with
  | csl _ _ _ _ _ _ hv => exact .csl _ _ _ _ _ _ (VLe.rsl h F μ w _ hz hv)
theorem VLe.cslr {o o' sz i len cap : Nat} (h : ρ o' = some o) : VLe σ Z ρ (.csl o sz i len cap) (.rsl o' sz i len) := fun F μ w v hz hv => by
  cases hv with
  | csl _ _ _ _ _ _ hv => exact VLe.rsl h F μ w _ hz hv
theorem VLe.eptr {o o' sz i j : Nat} (h : ρ o' = some o) : VLe σ Z ρ (.eptr o sz i j) (.eptr o' sz i j) := fun F μ w v hz hv => by
  cases hv with
  | eptr _ _ _ _ _ hv => exact .eptr _ _ _ _ _ (VLe.ptr h F μ w v hz hv)
theorem OLe.row (sz : Nat) (l : List PV) : OLe σ Z ρ (.row sz l) (.row sz l) := fun F μ w b hz hr => by
  obtain ⟨hok, cur, t, h1, h2, h3⟩ := hr
  exact ⟨hok, cur, t, h1, h2, fun i c hc => by
    have h4 := h3 i c hc
    have : ∃ q, c = .p q := by
      have := List.mem_of_getElem? hc
      simp only [rowC, List.mem_map] at this
      obtain ⟨q, _, rfl⟩ := this
      exact ⟨q, rfl⟩
    obtain ⟨q, rfl⟩ := this
    exact VLe.refl q F μ w _ hz h4⟩
theorem OLe.rowe {sz : Nat} {l l' : List PV} (h : l = l') : OLe σ Z ρ (.row sz l) (.row sz l') := by subst h; exact OLe.row sz l
theorem OLe.rowe2 {sz sz' : Nat} {l l' : List PV} (h : sz = sz') (k : l = l') : OLe σ Z ρ (.row sz l) (.row sz' l') := by subst h; subst k; exact OLe.row sz l
theorem OLe.mape {kt kt' : KT} {m m' : List (PV × PV)} (h : kt = kt') (k : m = m') : OLe σ Z ρ (.map kt m) (.map kt' m') := by
  subst h; subst k
  intro F μ w b hz hr
  obtain ⟨h0, es, clock, h1, h2, h3, h4⟩ := hr
  exact ⟨h0, es, clock, h1, h2, h3, fun i k v hi => let ⟨e, q1, q2, q3⟩ := h4 i k v hi; ⟨e, q1, q2.mono (fun b hb => .inl hb) (fun _ _ => rfl), q3.mono (fun b hb => .inl hb) (fun _ _ => rfl)⟩⟩
theorem OLe.itere {m m' : List (PV × PV)} {c c' : Option (PV × PV)} (h : m = m') (k : c = c') : OLe σ Z ρ (.iter m c) (.iter m' c') := by
  subst h; subst k
  intro F μ w b hz hr
  exact IterOk.mono hr (fun _ h => .inl h) (fun _ _ => rfl) rfl
theorem VLe.rsle {o o' sz i len sz' i' len' : Nat} (h : ρ o' = some o) (h1 : sz = sz') (h2 : i = i') (h3 : len = len') : VLe σ Z ρ (.rsl o sz i len) (.rsl o' sz' i' len') := by subst h1; subst h2; subst h3; exact VLe.rsl h
theorem HpLe.mk {σ' : Heap} {o o' : Nat} {x y : AObj} (h1 : ρ o' = some o) (h2 : ¬ Z o) (h3 : σ.get o = y) (h4 : y ≠ .dead) (h5 : OLe σ Z ρ y x) (h6 : HpLe σ Z ρ σ') : HpLe σ Z ρ ((o', x) :: σ') :=
  ⟨.inr ⟨o, h1, h2, by rw [h3]; exact h4, by rw [h3]; exact h5⟩, h6⟩
theorem HpLe.dd {σ' : Heap} {o' : Nat} (h6 : HpLe σ Z ρ σ') : HpLe σ Z ρ ((o', .dead) :: σ') := ⟨.inl rfl, h6⟩
theorem VLe.frzR {o sz i len : Nat} {l : List PV} {q : PV} (ho : Z o) (hc : σ.get o = .row sz l) (h0 : 0 < sz) (hl : i + len ≤ l.length) (hq : .sl sz false ((l.drop i).take len) = q) : VLe σ Z ρ (.rsl o sz i len) (.p q) := by
  subst hq; exact VLe.frz (Frz.rsl ho hc h0 hl)
theorem VLe.frzC {o sz i len cap : Nat} {l : List PV} {q : PV} (ho : Z o) (hc : σ.get o = .row sz l) (h0 : 0 < sz) (hl : i + len ≤ l.length) (hq : .sl sz false ((l.drop i).take len) = q) : VLe σ Z ρ (.csl o sz i len cap) (.p q) := by
  subst hq; exact VLe.frz (Frz.csl ho hc h0 hl)
theorem VLe.csl0 {o sz i : Nat} {c : Bool} : VLe σ Z ρ (.csl o sz i 0 0) (.p (.sl sz c [])) := fun F μ w v hz hv => by
  cases hv with
  | csl _ _ _ _ _ base hv => exact .p (.esl _ 0 _ _ (Nat.zero_le _) (fun _ => rfl) (fun _ => rfl))
theorem row_ne {s : Nat} {l : List PV} : AObj.row s l ≠ .dead := fun h => AObj.noConfusion h
theorem cells_ne {l : List AV} : AObj.cells l ≠ .dead := fun h => AObj.noConfusion h
theorem map_ne {k : KT} {m : List (PV × PV)} : AObj.map k m ≠ .dead := fun h => AObj.noConfusion h
theorem iter_ne {m : List (PV × PV)} {c : Option (PV × PV)} : AObj.iter m c ≠ .dead := fun h => AObj.noConfusion h
theorem alln_nil {Q : Nat → Prop} : ∀ o ∈ ([] : List Nat), Q o := fun _ h => nomatch h
theorem alln_cons {Q : Nat → Prop} {a : Nat} {l : List Nat} (h : Q a) (k : ∀ o ∈ l, Q o) : ∀ o ∈ a :: l, Q o := fun o ho => by
  rcases List.mem_cons.1 ho with e | e
  · rw [e]; exact h
  · exact k o e
theorem ix_map {α : Type} {f : α → PV} {l : List α} {n : Nat} {K : PV → Prop} (h : ∀ x, l[n]? = some x → K (f x)) : ∀ p, (l.map f)[n]? = some p → K p := fun p hp => by
  rw [List.getElem?_map] at hp
  obtain ⟨x, hx, rfl⟩ := Option.map_eq_some_iff.1 hp
  exact h x hx
theorem onesOf {l : List AV} (h : l.all AV.one = true) : ∀ c ∈ l, c.one = true := fun c hc => List.all_eq_true.1 h c hc
theorem nilc {α : Type} {l : List α} {neg : Bool} {K : Bool → Prop} (h2 : l = [] → K (!neg)) (h1 : K neg) : ∀ b : Bool, (l ≠ [] → b = neg) → K b := fun b hb => by
  by_cases h : l = []
  · cases b <;> cases neg <;> first | exact h1 | exact h2 h
  · rw [hb h]; exact h1
theorem noMem {α : Type} {Q : α → Prop} : ∀ v ∈ ([] : List α), Q v := fun _ h => nomatch h
theorem onesOfP {l : List PV} (h : l.all PV.one = true) : ∀ c ∈ l, c.one = true := fun c hc => List.all_eq_true.1 h c hc
theorem okAll {sz : Nat} {l : List PV} (h : l.all (fun p => Nat.beq p.cells.length sz && p.cells.all PV.one) = true) : ∀ v ∈ l, okE sz v := fun v hv => by
  have := List.all_eq_true.1 h v hv
  simp only [Bool.and_eq_true] at this
  exact ⟨Nat.eq_of_beq_eq_true this.1, onesOfP this.2⟩
theorem okMap {α : Type} {sz : Nat} {f : α → PV} {l : List α} (h : ∀ x, okE sz (f x)) : ∀ v ∈ l.map f, okE sz v := fun v hv => by
  obtain ⟨x, _, rfl⟩ := List.mem_map.1 hv
  exact h x
theorem imp0 {n : Nat} {A : Prop} (h : 0 < n → A) : 0 < n → A := h
theorem nonz {n : Nat} {A : Prop} : n + 1 = 0 → A := fun h => nomatch h
theorem ix_lit {l : List PV} {n : Nat} {a : PV} {K : PV → Prop} (h : l[n]? = some a) (k : K a) : ∀ p, l[n]? = some p → K p := fun p hp => by
  rw [h] at hp; injection hp with hp; subst hp; exact k
theorem exU8 {b : List Int} {K : List Int → Prop} (h : K b) : ∃ q, u8s (b.map (PV.int .u8)) = some q ∧ K q := ⟨b, u8s_map b, h⟩
end Go.Sg

namespace Go.Sg
open Go
mutual
def kV (R : Nat → Bool) : AV → Bool
  | .any => true
  | .p _ => true
  | .ptr o _ => R o
  | .msl o _ _ _ => R o
  | .rsl o _ _ _ => R o
  | .csl o _ _ _ _ => R o
  | .eptr o _ _ _ => R o
  | .mp o => R o
  | .ch o => R o
  | .agg l => kL R l
  | .tup l => kL R l
  | .fn _ a b => (match kL R a with | true => kL R b | false => false)
def kL (R : Nat → Bool) : List AV → Bool
  | [] => true
  | a :: l => (match kV R a with | true => kL R l | false => false)
end
section
variable {σ : Heap} {Z : Nat → Prop} {ρ : Nat → Option Nat} {R : Nat → Bool}
theorem keepL (l : List AV) (h : ∀ a ∈ l, kV R a = true → VLe σ Z ρ a a) (hl : kL R l = true) : VLeL σ Z ρ l l := by
  induction l with
  | nil => exact .nil
  | cons a l ih =>
    simp only [kL] at hl
    split at hl
    · rename_i ha
      exact .cons (h a (by simp) ha) (ih (fun b hb => h b (by simp [hb])) hl)
    · cases hl
mutual
theorem keepV (hR : ∀ o, R o = true → ρ o = some o) : ∀ v, kV R v = true → VLe σ Z ρ v v
  | .any, _ => VLe.any _
  | .p q, _ => VLe.refl q
  | .ptr o off, h => VLe.ptr (hR o h)
  | .msl o _ _ _, h => VLe.msl (hR o h)
  | .rsl o _ _ _, h => VLe.rsl (hR o h)
  | .csl o _ _ _ _, h => VLe.csl (hR o h)
  | .eptr o _ _ _, h => VLe.eptr (hR o h)
  | .mp o, h => VLe.mp (hR o h)
  | .ch o, h => VLe.ch (hR o h)
  | .agg l, h => VLe.agg (keepLs hR l h)
  | .tup l, h => VLe.tup (keepLs hR l h)
  | .fn f a b, h => by
    simp only [kV] at h
    split at h
    · rename_i ha; exact VLe.fn (keepLs hR a ha) (keepLs hR b h)
    · cases h
theorem keepLs (hR : ∀ o, R o = true → ρ o = some o) : ∀ l, kL R l = true → VLeL σ Z ρ l l
  | [], _ => .nil
  | a :: l, h => by
    simp only [kL] at h
    split at h
    · rename_i ha; exact .cons (keepV hR a ha) (keepLs hR l h)
    · cases h
end
end
def aliveB : AObj → Bool
  | .dead => false
  | _ => true
theorem aliveB_ne {x : AObj} (h : aliveB x = true) : x ≠ .dead := fun e => by subst e; cases h
def memB : Nat → List Nat → Bool
  | _, [] => false
  | o, x :: l => (match Nat.beq o x with | true => true | false => memB o l)
theorem memB_iff {o : Nat} : ∀ {l : List Nat}, memB o l = true → o ∈ l
  | x :: l, h => by
    simp only [memB] at h
    split at h
    · rename_i e; rw [Nat.eq_of_beq_eq_true e]; simp
    · simp [memB_iff h]
theorem memB_not {o : Nat} : ∀ {l : List Nat}, memB o l = false → o ∉ l
  | [], _ => by simp
  | x :: l, h => by
    simp only [memB] at h
    split at h
    · cases h
    · rename_i e; simp only [List.mem_cons, not_or]; exact ⟨fun hx => by subst hx; simp at e, memB_not h⟩
def subB : List Nat → List Nat → Bool
  | [], _ => true
  | x :: l, Z => (match memB x Z with | true => subB l Z | false => false)
theorem subB_sub {Z : List Nat} : ∀ {l : List Nat}, subB l Z = true → ∀ o ∈ l, o ∈ Z
  | x :: l, h, o, ho => by
    simp only [subB] at h
    split at h
    · rename_i e
      rcases List.mem_cons.1 ho with ho | ho
      · subst ho; exact memB_iff e
      · exact subB_sub h o ho
    · cases h
def keepB (σ : Heap) (Z : List Nat) (o : Nat) : Bool := match memB o Z with | true => false | false => aliveB (σ.get o)
theorem keepB_spec {σ : Heap} {Z : List Nat} {o : Nat} (h : keepB σ Z o = true) : o ∉ Z ∧ σ.get o ≠ .dead := by
  unfold keepB at h
  split at h
  · cases h
  · rename_i e; exact ⟨memB_not e, aliveB_ne h⟩
def deadV (σ : Heap) : AV → Bool
  | .ptr o _ => !aliveB (σ.get o)
  | .msl o _ _ _ => !aliveB (σ.get o)
  | .rsl o _ _ _ => !aliveB (σ.get o)
  | .csl o _ _ _ _ => !aliveB (σ.get o)
  | .eptr o _ _ _ => !aliveB (σ.get o)
  | .mp o => !aliveB (σ.get o)
  | .ch o => !aliveB (σ.get o)
  | _ => false
def fzE (σ : Heap) (Z : List Nat) (v : AV) (K : AV → Prop) : Prop :=
  match kV (keepB σ Z) v with
  | true => K v
  | false => (match deadV σ v with
    | true => K .any
    | false => fzV σ 60 v [] fun p Z' => subB Z' Z = true ∧ K (.p p))
def fzEs (σ : Heap) (Z : List Nat) : List AV → (List AV → Prop) → Prop
  | [], K => K []
  | v :: l, K => fzE σ Z v fun v => frc v fun v => fzEs σ Z l fun l => K (v :: l)
def fzEnv (σ : Heap) (Z : List Nat) : List Nat → Env → (Env → Prop) → Prop
  | [], _, K => K []
  | t :: V, env, K => frc (env.get t) fun v => fzE σ Z v fun v => (match v with | .any => fzEnv σ Z V env K | v => fzEnv σ Z V env fun e => K ((t, v) :: e))
def fzHp (σ : Heap) (Z : List Nat) : Heap → List Nat → (Heap → Prop) → Prop
  | [], _, K => K []
  | (o, _) :: r, S, K => (match memB o S with
    | true => fzHp σ Z r S K
    | false => (match keepB σ Z o with
      | false => fzHp σ Z r (o :: S) K
      | true => (match σ.get o with
        | .cells cs => fzEs σ Z cs fun cs' => fzHp σ Z r (o :: S) fun h => K ((o, .cells cs') :: h)
        | .row sz l => fzHp σ Z r (o :: S) fun h => K ((o, .row sz l) :: h)
        | _ => fzHp σ Z r (o :: S) K)))
/-- What the tmps (or, with 'true', the variables that they point to) lead to. -/
def fzT (env : Env) (σ : Heap) : List (Nat × Bool) → List Nat → (List Nat → Prop) → Prop
  | [], Z, K => K Z
  | (t, false) :: T, Z, K => fzV σ 60 (env.get t) Z fun _ Z => fzT env σ T Z K
  | (t, true) :: T, Z, K => (match env.get t with
    | .ptr o _ => (match σ.get o with
      | .cells cs => fzL σ 60 cs Z fun _ Z => fzT env σ T Z K
      | _ => False)
    | _ => False)
section
variable {σ : Heap} {env : Env} {Z : List Nat}
def VK (σ : Heap) (Z : List Nat) (a a' : AV) : Prop := ∀ ρ : Nat → Option Nat, (∀ o, keepB σ Z o = true → ρ o = some o) → VLe σ (· ∈ Z) ρ a a'
theorem fzE_spec {v : AV} {K : AV → Prop} (h : fzE σ Z v K) : ∃ v', K v' ∧ VK σ Z v v' := by
  unfold fzE at h
  split at h
  · rename_i e; exact ⟨v, h, fun ρ hρ => keepV hρ v e⟩
  · split at h
    · exact ⟨_, h, fun ρ _ => VLe.any _⟩
    · obtain ⟨p, Z', ⟨h1, h2⟩, _, _, h3⟩ := (fz_both 60).1 v [] _ (by simp [liveZ]) h
      exact ⟨_, h2, fun ρ _ => VLe.frz (h3.monoZ (subB_sub h1))⟩
theorem fzEs_spec : ∀ {l : List AV} {K : List AV → Prop}, fzEs σ Z l K → ∃ l', K l' ∧ ∀ ρ : Nat → Option Nat, (∀ o, keepB σ Z o = true → ρ o = some o) → VLeL σ (· ∈ Z) ρ l l'
  | [], K, h => ⟨[], h, fun _ _ => .nil⟩
  | v :: l, K, h => by
    simp only [fzEs, frc_eq] at h
    obtain ⟨v', h1, h2⟩ := fzE_spec h
    obtain ⟨l', h3, h4⟩ := fzEs_spec h1
    exact ⟨_, h3, fun ρ hρ => .cons (h2 ρ hρ) (h4 ρ hρ)⟩
theorem fzEnv_spec : ∀ {V : List Nat} {K : Env → Prop}, fzEnv σ Z V env K → ∃ env', K env' ∧ ∀ ρ : Nat → Option Nat, (∀ o, keepB σ Z o = true → ρ o = some o) → EnvLe σ (· ∈ Z) ρ env env'
  | [], K, h => ⟨[], h, fun _ _ => trivial⟩
  | t :: V, K, h => by
    simp only [fzEnv, frc_eq] at h
    obtain ⟨v', h1, h2⟩ := fzE_spec h
    split at h1
    · exact fzEnv_spec h1
    · obtain ⟨e, h3, h4⟩ := fzEnv_spec h1
      exact ⟨_, h3, fun ρ hρ => ⟨h2 ρ hρ, h4 ρ hρ⟩⟩
theorem fzHp_spec : ∀ {h : Heap} {S : List Nat} {K : Heap → Prop}, fzHp σ Z h S K → ∃ h', K h' ∧ ∀ ρ : Nat → Option Nat, (∀ o, keepB σ Z o = true → ρ o = some o) → HpLe σ (· ∈ Z) ρ h'
  | [], S, K, h => ⟨[], h, fun _ _ => trivial⟩
  | (o, x) :: r, S, K, h => by
    simp only [fzHp] at h
    split at h
    · exact fzHp_spec h
    · split at h
      · exact fzHp_spec h
      · rename_i hk
        obtain ⟨k1, k2⟩ := keepB_spec hk
        split at h
        · rename_i cs hc
          obtain ⟨cs', h1, h2⟩ := fzEs_spec h
          obtain ⟨h', h3, h4⟩ := fzHp_spec h1
          exact ⟨_, h3, fun ρ hρ => HpLe.mk (hρ o hk) k1 hc (by simp) (h2 ρ hρ) (h4 ρ hρ)⟩
        · rename_i sz l hc
          obtain ⟨h', h3, h4⟩ := fzHp_spec h
          exact ⟨_, h3, fun ρ hρ => HpLe.mk (hρ o hk) k1 hc (by simp) (OLe.row sz l) (h4 ρ hρ)⟩
        · exact fzHp_spec h
theorem fzT_spec : ∀ {T : List (Nat × Bool)} {Z : List Nat} {K : List Nat → Prop}, liveZ σ Z → fzT env σ T Z K → ∃ Z', K Z'
  | [], Z, K, _, h => ⟨Z, h⟩
  | (t, false) :: T, Z, K, hZ, h => by
    simp only [fzT] at h
    obtain ⟨p, Z', h1, _, h2, _⟩ := (fz_both 60).1 _ _ _ hZ h
    exact fzT_spec h2 h1
  | (t, true) :: T, Z, K, hZ, h => by
    simp only [fzT] at h
    split at h
    · split at h
      · obtain ⟨p, Z', h1, _, h2, _⟩ := (fz_both 60).2 _ _ _ hZ h
        exact fzT_spec h2 h1
      · exact h.elim
    · exact h.elim
theorem rget_diag {o : Nat} : ∀ (L : List Nat), o ∈ L → rget (L.map fun o => (o, o)) o = some o
  | x :: l, h => by
    by_cases e : x = o
    · subst e; simp [rget]
    · have := rget_diag l (by simpa [Ne.symm e] using h)
      simp only [rget, List.map_cons] at this ⊢
      rw [List.find?_cons_of_neg (by simpa using e)]; exact this
theorem Ent.fz {P : Program} {C : Cx P} {V : List Nat} {hp : Heap} {nx yk : Nat} {Q : St → Prop} (T : List (Nat × Bool))
    (h : fzT env hp T [] fun Z => fzEnv hp Z V env fun env' => fzHp hp Z hp [] fun hp' => C.kp.all (keepB hp Z) = true ∧ Q ⟨env', hp', nx, yk⟩) : ∃ s', Ent C ⟨env, hp, nx, yk⟩ s' ∧ Q s' := by
  obtain ⟨Z, h⟩ := fzT_spec (by simp [liveZ]) h
  obtain ⟨env', h, h1⟩ := fzEnv_spec h
  obtain ⟨hp', ⟨hkp, h⟩, h2⟩ := fzHp_spec h
  refine ⟨_, fun d0 F μ a w hs => ?_, h⟩
  have hρ : ∀ o, keepB hp Z o = true → rget (((List.range nx).filter (keepB hp Z)).map fun o => (o, o)) o = some o := fun o ho => by
    refine rget_diag _ (List.mem_filter.2 ⟨List.mem_range.2 ?_, ho⟩)
    obtain ⟨b, hb⟩ := hs.h.block rfl (keepB_spec ho).2
    refine Nat.lt_of_not_le fun hle => ?_
    have := hs.fresh o hle
    rw [this] at hb; cases hb
  refine Ent.of (s := ⟨env, hp, nx, yk⟩) (s' := ⟨env', hp', nx, yk⟩) Z _ (h1 _ hρ) (h2 _ hρ) ?_ ?_ ?_ rfl d0 F μ a w hs
  · simp only [List.map_map]
    have : ((fun o : Nat × Nat => o.2) ∘ fun o => (o, o)) = id := rfl
    show (((List.range nx).filter (keepB hp Z)).map (Prod.snd ∘ fun o => (o, o))).Nodup
    rw [show (Prod.snd ∘ fun o : Nat => (o, o)) = id from rfl, List.map_id]
    exact List.Nodup.sublist List.filter_sublist List.nodup_range
  · intro x hx
    obtain ⟨o, ho, rfl⟩ := List.mem_map.1 hx
    exact List.mem_range.1 (List.mem_filter.1 ho).1
  · intro o ho
    exact hρ o (List.all_eq_true.1 hkp o ho)
theorem Sq.fz {P : Program} {C : Cx P} {V : List Nat} {id : Nat} {hp : Heap} {nx yk : Nat} {Q : St → Prop} (T : List (Nat × Bool))
    (h : fzT env hp T [] fun Z => fzEnv hp Z V env fun env' => fzHp hp Z hp [] fun hp' => C.kp.all (keepB hp Z) = true ∧ Q ⟨env', hp', nx, yk⟩) : Sq C V id Q ⟨env, hp, nx, yk⟩ :=
  ⟨Ent.fz T h⟩
end
end Go.Sg
