/- A part of the proof: the engine, that follows the model step by step with abstract values; no program in sight. -/
import Derived.Test.YtgclicahmbgfiaaEng2
import Derived.Conc.LoneCalls
import Derived.RangeFuncLeaves
import Derived.RangeFuncNested
import Derived.RecoverIn
import Derived.ReadAgain
import Derived.JoinedOf
import Derived.Handed
import Derived.OpenShut
import Derived.ChangeSame
import Derived.SizedLaws
import Derived.ChangeCalls
set_option linter.unusedSimpArgs false
set_option linter.unusedVariables false
set_option linter.unnecessarySimpa false
namespace Go.Sg
open Go
def isCm : Op → Bool
  | .send _ _ => true
  | .recv _ _ _ => true
  | _ => false
def hasCm (ops : List Oper) : Bool := ops.any fun o => isCm o.op
def tChE (P : Program) (t : TypeId) : Option TypeId :=
  match P.underlying t with
  | some (.chan _ e) => some e
  | _ => none
def noDf : Op → Bool
  | .defer _ => false
  | _ => true
theorem noDf_spec {op : Op} (h : noDf op = true) : ∀ c, op ≠ .defer c := fun c e => by subst e; cases h
def cmK (P : Program) (op : Op) (ev : Operand → AV) (σ : Heap) (nid : Nat) (K : AV → Heap → Prop) : Prop :=
  match op with
  | .send c x => (match ev c with
    | .ch o => fzV σ 60 (ev x) [] fun p Z => (match Heap.get (deadZ Z ++ σ) o with
      | .chan cap buf => buf.length < cap ∧ K undefA ((o, .chan cap (buf ++ [p])) :: deadZ Z)
      | _ => False)
    | _ => False)
  | .recv t c ok => (match ok, ev c, tChE P t with
    | false, .ch o, some e => (match σ.get o with
      | .chan cap (x :: r) => zAV P e (fun _ => True) ∧ K (.p x) [(o, .chan cap r)]
      | _ => False)
    | _, _, _ => False)
  | op => (match kindOf P op with
    | .quiet => yQ P op ev σ fun v => K v []
    | .write => yW P op ev σ nid K
    | .call => False)
def cq {P : Program} (l : List Oper) (env : Env) (hp : Heap) (nx yk : Nat) (K : St → Prop) : Prop :=
  match l with
  | [] => K ⟨env, hp, nx, yk⟩
  | o :: r => (match o.guard with
    | some _ => False
    | none => cmK P o.op (evalO env) hp nx fun v us => cq (P := P) r (env.put o.dst v) (us ++ hp) (nx + 64) yk K)
section
variable {P : Program} {C : Cx P} {d0 : D0} {F : Nat → Prop} {μ : Num} {w : World} {a : Act}
theorem step_val {ro : Option Nat} {b : Frame} {k : List Item} {cs : List Frame} {ops : Array Oper} {i : Nat} {rest : List Nat} {o : Oper} {v : Value} {w' : World} {n : Nat} (hro : b.roundOf = (fc ro).round) (ho : ops[i]? = some o) (hg : o.guard = none)
    (hd : ∀ c, o.op ≠ .defer c) (hr : (execOp a.eval o).run P w = .ok (.value v) w' ∨ ((execOp a.eval o).run P w = .ok .skip w' ∧ v = undef)) :
    StepsIn (Machine.fenced P (fc ro)) P (lone (b.atR a (.inRegion ops (i :: rest) :: k)) cs w) (lone (b.atR (a.put o.dst v) (.inRegion ops rest :: k)) cs w') := by
  have hw : Region.wanted o (yielded ops a.tmps) = true := by unfold Region.wanted; rw [hg]
  have h0 : (lone (b.atR a (.inRegion ops (i :: rest) :: k)) cs w).fenced P (fc ro) := fenced_oper (n := n) trivial (fun _ h => by simp [fc, Fence.wide] at h) ho (about_any o a w)
  have hst := stepGR_op (P := P) (b := b) (k := k) (cs := cs) (w := w) (rest := rest) ho hw
  rw [hro] at hst
  have hfin : (b.atR a (.inRegion ops (i :: rest) :: k)).finish v = b.atR (a.put o.dst v) (.inRegion ops rest :: k) := by rw [Frame.finish_atR, ho]; rfl
  have hse : (o.semAt (fc ro).round a.eval).run P w = (execOp a.eval o).run P w := by rw [Oper.semAt_eq _ _ _ hd]
  refine .one h0 (step_lone_go ?_)
  rw [hst, ← hfin]
  rcases hr with hr | ⟨hr, rfl⟩
  · rw [← hse] at hr; simp [stepG.apply, hr]
  · rw [← hse] at hr; simp [stepG.apply, hr]
theorem step_comm {ro : Option Nat} {b : Frame} {k : List Item} {cs : List Frame} {ops : Array Oper} {i : Nat} {rest : List Nat} {o : Oper} {cases : Array CommCase} {bl : Bool} {sh : CommShape} {w' : World} (hro : b.roundOf = (fc ro).round) (ho : ops[i]? = some o) (hg : o.guard = none)
    (hd : ∀ c, o.op ≠ .defer c) (hr : (execOp a.eval o).run P w = .ok (.comm cases bl sh) w') :
    ∃ es, stepG P true (Go.Conc.G (b.atR a (.inRegion ops (i :: rest) :: k)) cs) w = .comm (Go.Conc.G (b.atR a (.inRegion ops (i :: rest) :: k)) cs) cases bl sh w' es := by
  have hw : Region.wanted o (yielded ops a.tmps) = true := by unfold Region.wanted; rw [hg]
  have hst := stepGR_op (P := P) (b := b) (k := k) (cs := cs) (w := w) (rest := rest) ho hw
  rw [hro] at hst
  have hse : (o.semAt (fc ro).round a.eval).run P w = (execOp a.eval o).run P w := by rw [Oper.semAt_eq _ _ _ hd]
  rw [← hse] at hr
  show ∃ es, stepG P true { frame := b.atR a (.inRegion ops (i :: rest) :: k), callers := cs, status := .running, dying := none } w = _
  rw [hst]
  simp only [stepG.apply]
  cases hT : (o.semAt (fc ro).round a.eval).runT P w #[] with
  | mk r es =>
    have hrr : r = .ok (.comm cases bl sh) w' := by
      have := congrArg Prod.fst hT
      simp only [Sem.runT_eq] at this
      rw [← this]; exact hr
    subst hrr
    simp only [if_true, Go.Conc.G]
    exact ⟨_, rfl⟩
theorem cmK_sound {n : Nat} {o : Oper} {s : St} {K : AV → Heap → Prop} {b : Frame} {k : List Item} {cs : List Frame} {ops : Array Oper} {i : Nat} {rest : List Nat} (hd : ∀ d, o.dst = some d → d < C.N) (hs : Sim C d0 F μ s a w) (hro : b.roundOf = (fc d0.ro).round) (ho : ops[i]? = some o) (hg : o.guard = none)
    (h : cmK P o.op (evalO s.env) s.hp s.nx K) : ∃ av us v w' F' μ', K av us ∧ Step F μ w F' μ' w' ∧ SimH F' μ' (us ++ s.hp) w' ∧ RV F' μ' w' v av ∧ (∀ q, q < s.nx ∨ s.nx + 64 ≤ q → μ' q = μ q) ∧
      StepsIn (Machine.fenced P (fc d0.ro)) P (lone (b.atR a (.inRegion ops (i :: rest) :: k)) cs w) (lone (b.atR (a.put o.dst v) (.inRegion ops rest :: k)) cs w') := by
  have h0 : (lone (b.atR a (.inRegion ops (i :: rest) :: k)) cs w).fenced P (fc d0.ro) := fenced_oper (n := n) trivial (fun _ h => by simp [fc, Fence.wide] at h) ho (about_any o a w)
  have hfin : ∀ v, (b.atR a (.inRegion ops (i :: rest) :: k)).finish v = b.atR (a.put o.dst v) (.inRegion ops rest :: k) := fun v => by rw [Frame.finish_atR, ho]; rfl
  have hev := eval_rv hs.env
  obtain ⟨dst, op, ty, pos, after, guard⟩ := o
  have gen : (match kindOf P op with | .quiet => yQ P op (evalO s.env) s.hp fun v => K v [] | .write => yW P op (evalO s.env) s.hp s.nx K | .call => False) → noDf op = true →
      ∃ av us v w' F' μ', K av us ∧ Step F μ w F' μ' w' ∧ SimH F' μ' (us ++ s.hp) w' ∧ RV F' μ' w' v av ∧ (∀ q, q < s.nx ∨ s.nx + 64 ≤ q → μ' q = μ q) ∧
      StepsIn (Machine.fenced P (fc d0.ro)) P (lone (b.atR a (.inRegion ops (i :: rest) :: k)) cs w) (lone (b.atR (a.put dst v) (.inRegion ops rest :: k)) cs w') := fun h hdf => by
    have hdf := noDf_spec hdf
    split at h
    · obtain ⟨av, v, h1, h2, h3⟩ := yQ_sound (o := { dst := dst, op := op, type := ty, pos := pos, after := after, guard := guard }) hs.h hev h
      exact ⟨av, [], v, w, F, μ, h1, Step.refl _ _ _, hs.h, h2, fun _ _ => rfl, step_val (n := n) hro ho hg hdf (.inl (h3 w (fun _ _ => rfl)))⟩
    · obtain ⟨av, us, v, w', F', μ', h1, h2, h3, h4, h5, h6⟩ := yW_sound (o := { dst := dst, op := op, type := ty, pos := pos, after := after, guard := guard }) hs.h (hs.fresh _ (Nat.le_refl _)) hev h
      exact ⟨av, us, v, w', F', μ', h1, h3, h4, h5, fun q hq => h6 q (by omega), step_val (n := n) hro ho hg hdf h2⟩
    · exact h.elim
  cases op <;> try exact gen h rfl
  case defer c => exact h.elim
  case send c x =>
    simp only [cmK] at h
    split at h
    · rename_i q hc
      obtain ⟨p, Z, h, _, h3, h4⟩ := (fz_both 60).1 _ [] _ (by simp [liveZ]) h
      obtain ⟨hkst, hk2⟩ := hs.h.kill Z
      have hp := h4 F μ w (a.eval x) (fun o b _ _ hm => hs.h.obj o b hm) (hev x)
      split at h
      · rename_i cap buf hq
        obtain ⟨hlt, hK⟩ := h
        have hcr := hev c
        rw [hc] at hcr
        generalize hcv : a.eval c = cv at hcr
        cases hcr with
        | ch _ blk hb =>
        have hro' := hk2.obj q blk hb
        rw [hq] at hro'
        obtain ⟨bs, sent, recvd, g1, g2, g3⟩ := hro'
        have hrun : (execOp a.eval { dst := dst, op := .send c x, type := ty, pos := pos, after := after, guard := guard }).run P w = .ok (.comm #[Go.Conc.scase blk (a.eval x) (.tuple #[])] true .send) w := by
          simp only [execOp, hcv]; rfl
        obtain ⟨es, hst⟩ := step_comm (P := P) (ro := d0.ro) (b := b) (k := k) (cs := cs) (rest := rest) hro ho hg (by simp) hrun
        have hstep := Go.Conc.step_lone_send_room hst g1 (by omega)
        have hset : w.setChan blk cap (bs.push (a.eval x)) false (sent + 1) recvd false = { w with heap := w.heap.setIfInBounds blk (.chan cap (bs.push (a.eval x)) false (sent + 1) recvd false) } := rfl
        obtain ⟨s1, s2⟩ := hk2.setAny (ob' := .chan cap (bs.push (a.eval x)) false (sent + 1) recvd false) hq (by simp) hb g1 (by simp [World.shape?, g1]) (.chan cap (buf ++ [p])) (fun w' hst hw => ⟨_, _, _, hw, by simp [g2], fun j c hc => by
          rw [Array.getElem?_push]
          rw [List.getElem?_append] at hc
          split at hc
          · rw [if_neg (by omega)]; exact (g3 j c hc).mono hst.sub hst.fr
          · have hj : j = buf.length := by
              have := (List.getElem?_eq_some_iff.1 hc).1
              simp at this; omega
            subst hj
            simp at hc; subst hc
            rw [if_pos (by omega)]; exact hp.mono hst.sub hst.fr⟩)
        refine ⟨_, _, undef, _, _, μ, hK, hkst.trans s1, ?_, .p (.tup _ _ rfl (by simp)), fun _ _ => rfl, .one h0 ?_⟩
        · simpa using s2
        · rw [← hset, ← hfin]; exact hstep
      · exact h.elim
    · exact h.elim
  case recv t c ok =>
    simp only [cmK] at h
    split at h
    · rename_i q e hc hT
      split at h
      · rename_i cap x r hq
        obtain ⟨hz, hK⟩ := h
        obtain ⟨_, z, _, _, hz⟩ := zAV_sound (P := P) (F := F) (μ := μ) (w := w) hz
        obtain ⟨dir, hu⟩ : ∃ dir, P.underlying t = some (.chan dir e) := by
          unfold tChE at hT
          split at hT
          · rename_i dir e' hu; injection hT with hT; subst hT; exact ⟨dir, hu⟩
          · cases hT
        have hcr := hev c
        rw [hc] at hcr
        generalize hcv : a.eval c = cv at hcr
        cases hcr with
        | ch _ blk hb =>
        have hro' := hs.h.obj q blk hb
        rw [hq] at hro'
        obtain ⟨bs, sent, recvd, g1, g2, g3⟩ := hro'
        have hrun : (execOp a.eval { dst := dst, op := .recv t c false, type := ty, pos := pos, after := after, guard := guard }).run P w = .ok (.comm #[Go.Conc.rcase blk z] true (.recv false)) w := by
          simp only [execOp, hcv, Sem.run_bind, run_underlying hu, Result.andThen_ok, hz w]; rfl
        obtain ⟨es, hst⟩ := step_comm (P := P) (ro := d0.ro) (b := b) (k := k) (cs := cs) (rest := rest) hro ho hg (by simp) hrun
        have hpos : 0 < bs.size := by rw [g2]; simp
        have hstep := Go.Conc.step_lone_recv_buf false hst g1 hpos
        have hset : w.setChan blk cap (bs.extract 1 bs.size) false sent (recvd + 1) false = { w with heap := w.heap.setIfInBounds blk (.chan cap (bs.extract 1 bs.size) false sent (recvd + 1) false) } := rfl
        obtain ⟨s1, s2⟩ := hs.h.setAny (ob' := .chan cap (bs.extract 1 bs.size) false sent (recvd + 1) false) hq (by simp) hb g1 (by simp [World.shape?, g1]) (.chan cap r) (fun w' hst hw => ⟨_, _, _, hw, by simp [g2], fun j c hc => by
          have hj : j < r.length := (List.getElem?_eq_some_iff.1 hc).1
          have hjs : 1 + j < bs.size := by rw [g2]; simp; omega
          have e1 : (bs.extract 1 bs.size)[j]? = bs[j + 1]? := by
            rw [Array.getElem?_extract, if_pos (by omega)]; congr 1; omega
          rw [e1]
          exact (g3 (j + 1) c (by simpa using hc)).mono hst.sub hst.fr⟩)
        have hv : RP F w (bs.getD 0 undef) x := by
          have := g3 0 x rfl
          rw [Array.getD_eq_getD_getElem?]; exact this
        refine ⟨_, _, bs.getD 0 undef, _, F, μ, hK, s1, s2, .p (hv.mono s1.sub s1.fr), fun _ _ => rfl, .one h0 ?_⟩
        rw [← hset, ← hfin]; exact hstep
      · exact h.elim
    · exact h.elim
theorem cq_sound {n : Nat} {ops : Array Oper} {Q : Exit → Act → World → Prop} {K : St → Prop} (hok : okOps C.N ops.toList = true) :
    ∀ (l : List Oper) (i : Nat) (s : St) (F : Nat → Prop) (μ : Num) (a : Act) (w : World), (∀ j o, l[j]? = some o → ops[i + j]? = some o) → Sim C d0 F μ s a w → cq (P := P) l s.env s.hp s.nx s.yk K →
      (∀ s' F' μ' a' w', K s' → Rl C.G F μ w F' μ' w' → Kp C.kp μ μ' → Sim C d0 F' μ' s' a' w' → Q .normal a' w') → ∀ (b : Frame) (k : List Item) (cs : List Frame), b.roundOf = (fc d0.ro).round →
      ∃ e a' w', Q e a' w' ∧ ArrivesIn (Machine.fenced P (fc d0.ro)) P (lone (b.atR a (.inRegion ops (List.range' i l.length) :: k)) cs w) b k cs e a' w'
  | [], i, s, F, μ, a, w, _, hs, h, hk, b, k, cs, hro => ⟨.normal, a, w, hk s F μ a w h (Rl.refl F μ w) (Kp.refl _ _) hs, .one (fenced_calm (n := n) trivial (fun _ h => by simp [fc, Fence.wide] at h) rfl) stepR_region_end⟩
  | o :: r, i, s, F, μ, a, w, hl, hs, h, hk, b, k, cs, hro => by
    have ho : ops[i]? = some o := hl 0 o rfl
    have hdst : ∀ d, o.dst = some d → d < C.N := okOps_spec hok o (by rw [Array.mem_toList_iff]; exact Array.mem_of_getElem? ho)
    simp only [cq] at h
    split at h
    · exact h.elim
    · rename_i hg
      obtain ⟨av, us, v, w', F', μ', h1, h2, h3, h4, h5, h6⟩ := cmK_sound (n := n) (k := k) (cs := cs) (rest := List.range' (i + 1) r.length) hdst hs hro ho hg h
      have hs' := hs.put hdst h2 h3 h4 h5
      obtain ⟨e, a2, w2, hq, harr⟩ := cq_sound (n := n) (Q := Q) hok r (i + 1) _ F' μ' _ w' (fun j o hj => by rw [show i + 1 + j = i + (j + 1) by omega]; exact hl (j + 1) o hj) hs' h1 (fun s'' F'' μ'' a'' w'' e1 e2 e3 e4 => hk s'' F'' μ'' a'' w'' e1 ((Rl.of h2.base).trans e2) ((Kp.step h2).trans e3) e4) b k cs hro
      exact ⟨e, a2, w2, hq, .of_steps h6 harr⟩
theorem wpIn_cq {n : Nat} {id : Nat} {ops : Array Oper} {Q : Exit → Act → World → Prop} {s : St} {K : St → Prop} (hok : okOps C.N ops.toList = true) (hs : Sim C d0 F μ s a w) (h : cq (P := P) ops.toList s.env s.hp s.nx s.yk K)
    (hk : ∀ s' F' μ' a' w', K s' → Rl C.G F μ w F' μ' w' → Kp C.kp μ μ' → Sim C d0 F' μ' s' a' w' → Q .normal a' w') : (Code.region id ops false).wpIn (fc d0.ro) n P Q a w := by
  intro b k cs hro hb hr
  obtain ⟨e, a', w', q, r⟩ := cq_sound (n := n) (Q := Q) hok ops.toList 0 s F μ a w (fun j o hj => by simpa using hj) hs h hk b k cs hro
  refine ⟨e, a', w', q, .of_steps (.one (fenced_calm hb hr rfl) stepR_region) ?_⟩
  rw [List.range_eq_range']
  simpa using r
end
end Go.Sg
namespace Go.Sg
open Go
def okc (N : Nat) : Code → Bool
  | .region _ ops _ => okOps N ops.toList
  | .seq a b => okc N a && okc N b
  | .cond _ a b => okc N a && okc N b
  | .block _ c => okc N c
  | .loop c => okc N c
  | .scope c => okc N c
  | .rangeFunc _ _ a b => okc N a && okc N b
  | _ => true
structure Kt where
  n : St → Prop
  e : Nat → St → Prop
  r : St → Prop
  p : PV → St → Prop
def kOf (K : Kt) (F : Nat → Prop) (w : World) : Exit → St → Prop
  | .normal, s => K.n s
  | .exit j, s => K.e j s
  | .ret, s => K.r s
  | .panic ch, s => ∃ p, K.p p s ∧ OnePanic F w ch p
  | _, _ => False
def Wpc {P : Program} (C : Cx P) (c : Code) (s : St) (K : Kt) : Prop :=
  okc C.N c = true → ∀ (n : Nat) (Q : Exit → Act → World → Prop) (d0 : D0) (F : Nat → Prop) (μ : Num) (a : Act) (w : World), Sim C d0 F μ s a w →
    (∀ e s' F' μ' a' w', kOf K F' w' e s' → Rl C.G F μ w F' μ' w' → Kp C.kp μ μ' → Sim C d0 F' μ' s' a' w' → Q e a' w') → c.wpIn (fc d0.ro) n P Q a w
def frc : AV → (AV → Prop) → Prop
  | .any, K => K .any
  | .p v, K => K (.p v)
  | .ptr o f, K => K (.ptr o f)
  | .msl o s f l, K => K (.msl o s f l)
  | .rsl o s f l, K => K (.rsl o s f l)
  | .csl o s f l c, K => K (.csl o s f l c)
  | .eptr o s i j, K => K (.eptr o s i j)
  | .mp o, K => K (.mp o)
  | .ch o, K => K (.ch o)
  | .agg l, K => K (.agg l)
  | .tup l, K => K (.tup l)
  | .fn f a b, K => K (.fn f a b)
theorem frc_eq (v : AV) (K : AV → Prop) : frc v K = K v := by cases v <;> rfl
def natF : Nat → (Nat → Prop) → Prop
  | 0, K => K 0
  | n + 1, K => K (n + 1)
theorem natF_eq (n : Nat) (K : Nat → Prop) : natF n K = K n := by cases n <;> rfl
def putF (dst : Option Nat) (v : AV) (env : Env) (K : Env → Prop) : Prop :=
  match dst with
  | some d => K ((d, v) :: env)
  | none => K env
theorem putF_eq (dst : Option Nat) (v : AV) (env : Env) (K : Env → Prop) : putF dst v env K = K (env.put dst v) := by cases dst <;> rfl
def frcs : List AV → (List AV → Prop) → Prop
  | [], K => K []
  | a :: l, K => frc a fun a => frcs l fun l => K (a :: l)
theorem frcs_eq : ∀ (l : List AV) (K : List AV → Prop), frcs l K = K l
  | [], _ => rfl
  | a :: l, K => by rw [frcs, frc_eq, frcs_eq l]
def obF (x : AObj) (K : AObj → Prop) : Prop :=
  match x with
  | .cells cs => frcs cs fun cs => K (.cells cs)
  | .dead => K .dead
  | .row sz l => K (.row sz l)
  | .map kt m => K (.map kt m)
  | .chan c b => K (.chan c b)
  | .iter m c => K (.iter m c)
  | .mapS kt sz m => K (.mapS kt sz m)
theorem obF_eq (x : AObj) (K : AObj → Prop) : obF x K = K x := by cases x <;> simp [obF, frcs_eq]
def appF : Heap → Heap → (Heap → Prop) → Prop
  | [], h, K => K h
  | (o, x) :: r, h, K => obF x fun x => appF r h fun h' => K ((o, x) :: h')
theorem appF_eq : ∀ (us h : Heap) (K : Heap → Prop), appF us h K = K (us ++ h)
  | [], _, _ => rfl
  | (o, x) :: r, h, K => by rw [appF, obF_eq, appF_eq r]; rfl
structure Br (b : Bool) (A B : Prop) : Prop where
  t : b = true → A
  f : b = false → B
theorem Br.mono {b : Bool} {A B A' B' : Prop} (h : Br b A B) (ha : A → A') (hb : B → B') : Br b A' B' := ⟨fun e => ha (h.t e), fun e => hb (h.f e)⟩
theorem Br.dec {p : Prop} [Decidable p] {A B : Prop} (h1 : p → A) (h2 : ¬ p → B) : Br (decide p) A B := ⟨fun h => h1 (of_decide_eq_true h), fun h => h2 (of_decide_eq_false h)⟩
theorem Br.tt {A B : Prop} (h : A) : Br true A B := ⟨fun _ => h, fun e => Bool.noConfusion e⟩
theorem Br.ff {A B : Prop} (h : B) : Br false A B := ⟨fun e => Bool.noConfusion e, fun _ => h⟩
theorem Br.not {b : Bool} {A B : Prop} (h : Br b B A) : Br (!b) A B := ⟨fun e => h.f (by simpa using e), fun e => h.t (by simpa using e)⟩
def gdF (ops : List Oper) (g : Option (Nat × Bool)) (env : Env) (A B : Env → Prop) : Prop :=
  match g with
  | none => A env
  | some (j, want) => (match (ops[j]?).bind (·.dst) with
    | none => False
    | some t => (match env.get t with
      | .p (.bool b) => (match want with
        | true => Br b (A ((t, .p (.bool true)) :: env)) (B ((t, .p (.bool false)) :: env))
        | false => Br b (B ((t, .p (.bool true)) :: env)) (A ((t, .p (.bool false)) :: env)))
      | .p (.tup []) => B env
      | _ => False))
theorem gdF_eq (ops : List Oper) (g : Option (Nat × Bool)) (env : Env) (A B : Env → Prop) : gdF ops g env A B = guardK ops g env fun b env' => match b with | true => A env' | false => B env' := by
  unfold gdF guardK
  cases g with
  | none => rfl
  | some g =>
    obtain ⟨j, want⟩ := g
    simp only
    cases hd : (ops[j]?).bind (·.dst) with
    | none => rfl
    | some t =>
      simp only
      generalize env.get t = v
      cases v with
      | p q =>
        cases q with
        | bool b =>
          cases want with
          | true => exact propext ⟨fun h => ⟨h.t, fun e => h.f (by simpa using e)⟩, fun h => ⟨h.1, fun e => h.2 (by simp [e])⟩⟩
          | false => exact propext ⟨fun h => ⟨h.f, fun e => h.t (by simpa using e)⟩, fun h => ⟨fun e => h.2 (by simp [e]), h.1⟩⟩
        | tup l => cases l <;> rfl
        | _ => rfl
      | _ => rfl
def opF {P : Program} (G : Gam P) (op : Op) (dst : Option Nat) (env : Env) (hp : Heap) (nx yk : Nat) (K : Env → Heap → Nat → Nat → Prop) (KP : PV → St → Prop) : Prop :=
  match panicOf op with
  | some x => (match evalO env x with | .p (.iface t v) => KP (.iface t v) ⟨env, hp, nx, yk⟩ | _ => False)
  | none => (match yieldOf (evalO env) op with
    | some (l, as) => (G.it = true ∧ l = G.l ∧ yk < G.xs.length ∧ yk ≤ G.stop ∧ as = (G.xs.getD yk []).map .p) ∧ putF dst (.p (.bool (decide (yk ≠ G.stop)))) env fun env' => K env' hp nx (yk + 1)
    | none => xalt op (stS P op (evalO env) hp nx fun v us => frc v fun v => natF (nx + 64) fun nx' => putF dst v env fun env' => appF us hp fun hp' => K env' hp' nx' yk) (panK P op (evalO env) hp nx fun p us => appF us hp fun hp' => KP p ⟨env, hp', nx, yk⟩))
theorem opF_eq {P : Program} (G : Gam P) (op : Op) (dst : Option Nat) (env : Env) (hp : Heap) (nx yk : Nat) (K : Env → Heap → Nat → Nat → Prop) (KP : PV → St → Prop) : opF G op dst env hp nx yk K KP =
    opS G op dst env hp nx yk (fun s => K s.env s.hp s.nx s.yk) KP := by
  unfold opF opS
  cases panicOf op with
  | some x =>
    first
    | rfl
    | (simp only
       generalize evalO env x = v
       cases v with
       | p q => cases q <;> rfl
       | _ => rfl)
  | none =>
    cases yieldOf (evalO env) op with
    | some y => simp only [putF_eq]
    | none => simp only [putF_eq, frc_eq, natF_eq, appF_eq]
noncomputable def sq {P : Program} (G : Gam P) (ops : List Oper) (l : List Oper) : Env → Heap → Nat → Nat → (Env → Heap → Nat → Nat → Prop) → (PV → St → Prop) → Prop :=
  List.rec (motive := fun _ => Env → Heap → Nat → Nat → (Env → Heap → Nat → Nat → Prop) → (PV → St → Prop) → Prop) (fun env hp nx yk K _ => K env hp nx yk)
    (fun o _ ih env hp nx yk K KP => gdF ops o.guard env (fun env => opF G o.op o.dst env hp nx yk (fun env hp nx yk => ih env hp nx yk K KP) KP)
      (fun env => putF o.dst undefA env fun env => ih env hp nx yk K KP)) l
theorem sq_cons {P : Program} (G : Gam P) (ops : List Oper) (o : Oper) (r : List Oper) (env : Env) (hp : Heap) (nx yk : Nat) (K : Env → Heap → Nat → Nat → Prop) (KP : PV → St → Prop) : sq G ops (o :: r) env hp nx yk K KP =
    gdF ops o.guard env (fun env => opF G o.op o.dst env hp nx yk (fun env hp nx yk => sq G ops r env hp nx yk K KP) KP) (fun env => putF o.dst undefA env fun env => sq G ops r env hp nx yk K KP) := rfl
theorem sq_eq {P : Program} (G : Gam P) (ops : List Oper) (K : Env → Heap → Nat → Nat → Prop) (KP : PV → St → Prop) : ∀ (l : List Oper) (env : Env) (hp : Heap) (nx yk : Nat), sq G ops l env hp nx yk K KP =
    seqK G ops l ⟨env, hp, nx, yk⟩ (fun s => K s.env s.hp s.nx s.yk) KP
  | [], _, _, _, _ => rfl
  | o :: r, env, hp, nx, yk => by
    simp only [sq_cons, seqK, gdF_eq, opF_eq, putF_eq]
    congr 1
    funext b env'
    cases b with
    | true =>
      simp only
      congr 1
      funext s
      exact sq_eq G ops K KP r s.env s.hp s.nx s.yk
    | false => exact sq_eq G ops K KP r _ hp nx yk
structure OkR (ops : List Oper) (fps : List (List Nat × List Nat)) : Prop where
  h : okR ops fps = true
theorem OkR.eq (ops : List Oper) (fps : List (List Nat × List Nat)) : OkR ops fps = (okR ops fps = true) := propext ⟨fun h => h.h, fun h => ⟨h⟩⟩
structure OkC (ops : List Oper) (fps : List (List Nat × List Nat)) : Prop where
  h : okC ops fps = true
theorem OkC.eq (ops : List Oper) (fps : List (List Nat × List Nat)) : OkC ops fps = (okC ops fps = true) := propext ⟨fun h => h.h, fun h => ⟨h⟩⟩
structure OkX (ops : List Oper) (fps : List (List Nat × List Nat)) : Prop where
  h : okX ops fps = true
theorem OkX.eq (ops : List Oper) (fps : List (List Nat × List Nat)) : OkX ops fps = (okX ops fps = true) := propext ⟨fun h => h.h, fun h => ⟨h⟩⟩
def fpF : List Nat → (List Nat → Prop) → Prop
  | [], K => K []
  | x :: l, K => natF x fun x => fpF l fun l => K (x :: l)
theorem fpF_eq : ∀ (l : List Nat) (K : List Nat → Prop), fpF l K = K l
  | [], _ => rfl
  | x :: l, K => by rw [fpF, natF_eq, fpF_eq l]
noncomputable def dq {P : Program} (G : Gam P) (ops : List Oper) (nx yk : Nat) (l : List Oper) : Nat → Env → Heap → List (List Nat × List Nat) → (Env → Heap → Nat → Nat → Prop) → (PV → St → Prop) → Prop :=
  List.rec (motive := fun _ => Nat → Env → Heap → List (List Nat × List Nat) → (Env → Heap → Nat → Nat → Prop) → (PV → St → Prop) → Prop) (fun i env hp fps K _ => OkR ops fps ∧ natF (nx + 64 * i) fun nx' => K env hp nx' yk)
    (fun o r ih i env hp fps K KP => gdF ops o.guard env
      (fun env => match yieldOf (evalO env) o.op with | some _ => OkC ops fps ∧ natF (nx + 64 * i) fun nx' => sq G ops (o :: r) env hp nx' yk K KP | none => xalt o.op (stK P o.op (evalO env) hp (nx + 64 * i) fun v us => fpF (fpOp o.op (evalO env)) fun fp => fpF (keys us) fun ks => frc v fun v => putF o.dst v env fun env' => appF us hp fun hp' => ih (i + 1) env' hp' (fps ++ [(fp, ks)]) K KP) (panK P o.op (evalO env) hp (nx + 64 * i) fun p us => fpF (keys us) fun ks => OkX ops (fps ++ [([], ks)]) ∧ KP p ⟨[], [], nx + 64 * ops.length, yk⟩))
      (fun env => putF o.dst undefA env fun env' => ih (i + 1) env' hp (fps ++ [([], [])]) K KP)) l
theorem dq_nil {P : Program} (G : Gam P) (ops : List Oper) (nx yk i : Nat) (env : Env) (hp : Heap) (fps : List (List Nat × List Nat)) (K : Env → Heap → Nat → Nat → Prop) (KP : PV → St → Prop) : dq G ops nx yk [] i env hp fps K KP = (OkR ops fps ∧ natF (nx + 64 * i) fun nx' => K env hp nx' yk) := rfl
theorem dq_cons {P : Program} (G : Gam P) (ops : List Oper) (nx yk : Nat) (o : Oper) (r : List Oper) (i : Nat) (env : Env) (hp : Heap) (fps : List (List Nat × List Nat)) (K : Env → Heap → Nat → Nat → Prop) (KP : PV → St → Prop) : dq G ops nx yk (o :: r) i env hp fps K KP = gdF ops o.guard env
      (fun env => match yieldOf (evalO env) o.op with | some _ => OkC ops fps ∧ natF (nx + 64 * i) fun nx' => sq G ops (o :: r) env hp nx' yk K KP | none => xalt o.op (stK P o.op (evalO env) hp (nx + 64 * i) fun v us => fpF (fpOp o.op (evalO env)) fun fp => fpF (keys us) fun ks => frc v fun v => putF o.dst v env fun env' => appF us hp fun hp' => dq G ops nx yk r (i + 1) env' hp' (fps ++ [(fp, ks)]) K KP) (panK P o.op (evalO env) hp (nx + 64 * i) fun p us => fpF (keys us) fun ks => OkX ops (fps ++ [([], ks)]) ∧ KP p ⟨[], [], nx + 64 * ops.length, yk⟩))
      (fun env => putF o.dst undefA env fun env' => dq G ops nx yk r (i + 1) env' hp (fps ++ [([], [])]) K KP) := rfl
theorem dq_eq {P : Program} (G : Gam P) (ops : List Oper) (nx yk : Nat) (K : Env → Heap → Nat → Nat → Prop) (KP : PV → St → Prop) : ∀ (l : List Oper) (i : Nat) (env : Env) (hp : Heap) (fps : List (List Nat × List Nat)), dq G ops nx yk l i env hp fps K KP =
    drwK G ops nx yk l i env hp fps (fun s => K s.env s.hp s.nx s.yk) KP
  | [], _, _, _, _ => by simp only [dq_nil, drwK, natF_eq, OkR.eq]
  | o :: r, i, env, hp, fps => by
    simp only [dq_cons, drwK, gdF_eq, putF_eq, frc_eq, appF_eq, fpF_eq, OkC.eq, OkX.eq, natF_eq, sq_eq]
    congr 1
    funext b env'
    cases b with
    | true =>
      simp only
      cases yieldOf (evalO env') o.op with
      | some _ => rfl
      | none =>
      simp only
      congr 1
      congr 1
      funext v us
      exact dq_eq G ops nx yk K KP r (i + 1) _ _ _
    | false => exact dq_eq G ops nx yk K KP r (i + 1) _ hp _
def Num.ren (μ : Num) (ρ : Nat → Option Nat) : Num := ⟨fun o => (ρ o).bind μ, μ.hid⟩
theorem Num.ren_get {μ : Num} {ρ : Nat → Option Nat} {o o' : Nat} (h : ρ o' = some o) : (μ.ren ρ) o' = μ o := by show (ρ o').bind μ = _; rw [h]; rfl
def FZ (σ : Heap) (Z : Nat → Prop) (F : Nat → Prop) (μ : Num) (b : Nat) : Prop := F b ∨ ∃ o, Z o ∧ σ.get o ≠ .dead ∧ μ o = some b
def ZOk (σ : Heap) (Z : Nat → Prop) (F : Nat → Prop) (μ : Num) (w : World) : Prop := ∀ o b, Z o → σ.get o ≠ .dead → μ o = some b → RO F μ w b (σ.get o)
def VLe (σ : Heap) (Z : Nat → Prop) (ρ : Nat → Option Nat) (a a' : AV) : Prop :=
  ∀ (F : Nat → Prop) (μ : Num) (w : World) (v : Value), ZOk σ Z F μ w → RV F μ w v a → RV (FZ σ Z F μ) (μ.ren ρ) w v a'
section
variable {σ : Heap} {Z : Nat → Prop} {ρ : Nat → Option Nat}
theorem FZ.of {F : Nat → Prop} {μ : Num} {b : Nat} (h : F b) : FZ σ Z F μ b := .inl h
theorem VLe.any (a : AV) : VLe σ Z ρ a .any := fun _ _ _ v _ _ => .any v
theorem VLe.p {p q : PV} (h : PV.le p q) : VLe σ Z ρ (.p p) (.p q) := fun F μ w v _ hv => by
  cases hv with
  | p hv => exact .p ((h F w v hv).mono (fun _ => .inl) (fun _ _ => rfl))
theorem VLe.refl (p : PV) : VLe σ Z ρ (.p p) (.p p) := VLe.p (PV.le_refl p)
theorem VLe.frz {a : AV} {p : PV} (h : Frz σ Z a p) : VLe σ Z ρ a (.p p) := fun F μ w v hz hv => .p (h F μ w v hz hv)
theorem VLe.ptr {o o' off : Nat} (h : ρ o' = some o) : VLe σ Z ρ (.ptr o off) (.ptr o' off) := fun F μ w v _ hv => by
  cases hv with
  | ptr _ _ b hm => exact .ptr o' off b (by rw [Num.ren_get h]; exact hm)
theorem VLe.msl {o o' sz off len : Nat} (h : ρ o' = some o) : VLe σ Z ρ (.msl o sz off len) (.msl o' sz off len) := fun F μ w v _ hv => by
  cases hv with
  | msl _ _ _ off' _ cap b t n hm h0 h1 h2 h3 h4 => exact .msl o' sz off off' len cap b t n (by show (ρ o').bind μ = some b; rw [h]; exact hm) h0 h1 h2 h3 h4
theorem VLe.mp {o o' : Nat} (h : ρ o' = some o) : VLe σ Z ρ (.mp o) (.mp o') := fun F μ w v _ hv => by
  cases hv with
  | mp _ b hm => exact .mp o' b (by show (ρ o').bind μ = some b; rw [h]; exact hm)
theorem VLe.ch {o o' : Nat} (h : ρ o' = some o) : VLe σ Z ρ (.ch o) (.ch o') := fun F μ w v _ hv => by
  cases hv with
  | ch _ b hm => exact .ch o' b (by show (ρ o').bind μ = some b; rw [h]; exact hm)
inductive VLeL (σ : Heap) (Z : Nat → Prop) (ρ : Nat → Option Nat) : List AV → List AV → Prop
  | nil : VLeL σ Z ρ [] []
  | cons {a a' : AV} {l l' : List AV} : VLe σ Z ρ a a' → VLeL σ Z ρ l l' → VLeL σ Z ρ (a :: l) (a' :: l')
theorem VLeL.get {l l' : List AV} (h : VLeL σ Z ρ l l') : l.length = l'.length ∧ ∀ (i : Nat) a', l'[i]? = some a' → ∃ a, l[i]? = some a ∧ VLe σ Z ρ a a' := by
  induction h with
  | nil => simp
  | cons h _ ih =>
    refine ⟨by simp [ih.1], fun i p hp => ?_⟩
    cases i with
    | zero => simp at hp; subst hp; exact ⟨_, rfl, h⟩
    | succ i => simp at hp; simpa using ih.2 i p hp
theorem VLeL.pure (l : List PV) : VLeL σ Z ρ (l.map .p) (l.map .p) := by
  induction l with
  | nil => exact .nil
  | cons p l ih => exact .cons (VLe.refl p) ih
theorem VLe.agg {l l' : List AV} (h : VLeL σ Z ρ l l') : VLe σ Z ρ (.agg l) (.agg l') := fun F μ w v hz hv => by
  cases hv with
  | agg cs _ h1 h2 => exact .agg cs l' (h1.trans h.get.1) fun i p hp => let ⟨a, h3, h4⟩ := h.get.2 i p hp; h4 F μ w _ hz (h2 i a h3)
theorem VLe.tup {l l' : List AV} (h : VLeL σ Z ρ l l') : VLe σ Z ρ (.tup l) (.tup l') := fun F μ w v hz hv => by
  cases hv with
  | tup cs _ h1 h2 => exact .tup cs l' (h1.trans h.get.1) fun i p hp => let ⟨a, h3, h4⟩ := h.get.2 i p hp; h4 F μ w _ hz (h2 i a h3)
theorem VLe.fn {f : Fn} {l l' m m' : List AV} (h : VLeL σ Z ρ l l') (k : VLeL σ Z ρ m m') : VLe σ Z ρ (.fn f l m) (.fn f l' m') := fun F μ w v hz hv => by
  cases hv with
  | fn _ as bs _ _ h1 h2 h3 h4 =>
    refine .fn f as bs l' m' (h1.trans h.get.1) (h2.trans k.get.1) (fun i p hp => ?_) (fun i p hp => ?_)
    · obtain ⟨a, h5, h6⟩ := h.get.2 i p hp
      exact h6 F μ w _ hz (h3 i a h5)
    · obtain ⟨a, h5, h6⟩ := k.get.2 i p hp
      exact h6 F μ w _ hz (h4 i a h5)
def OLe (σ : Heap) (Z : Nat → Prop) (ρ : Nat → Option Nat) : AObj → AObj → Prop
  | .cells l, .cells l' => VLeL σ Z ρ l l'
  | x, y => ∀ (F : Nat → Prop) (μ : Num) (w : World) (b : Nat), ZOk σ Z F μ w → RO F μ w b x → RO (FZ σ Z F μ) (μ.ren ρ) w b y
theorem OLe.spec {x y : AObj} (h : OLe σ Z ρ x y) {F : Nat → Prop} {μ : Num} {w : World} {b : Nat} (hz : ZOk σ Z F μ w) (hr : RO F μ w b x) : RO (FZ σ Z F μ) (μ.ren ρ) w b y := by
  unfold OLe at h
  split at h
  · rename_i l l'
    obtain ⟨cur, t, h1, h2, h3⟩ := hr
    refine ⟨cur, t, h1, by rw [← h.get.1]; exact h2, fun i c hc => ?_⟩
    obtain ⟨a, h4, h5⟩ := h.get.2 i c hc
    exact h5 F μ w _ hz (h3 i a h4)
  · exact h F μ w b hz hr
def EnvLe (σ : Heap) (Z : Nat → Prop) (ρ : Nat → Option Nat) (env : Env) : Env → Prop
  | [] => True
  | (t, v) :: r => VLe σ Z ρ (env.get t) v ∧ EnvLe σ Z ρ env r
theorem EnvLe.get {env : Env} : ∀ {env' : Env}, EnvLe σ Z ρ env env' → ∀ t, VLe σ Z ρ (env.get t) (env'.get t)
  | [], _, t => VLe.any _
  | (u, v) :: r, h, t => by
    simp only [Env.get]
    split
    · rename_i e; subst e; exact h.1
    · exact EnvLe.get h.2 t
def HpLe (σ : Heap) (Z : Nat → Prop) (ρ : Nat → Option Nat) : Heap → Prop
  | [] => True
  | (o', x) :: r => (x = .dead ∨ ∃ o, ρ o' = some o ∧ ¬ Z o ∧ σ.get o ≠ .dead ∧ OLe σ Z ρ (σ.get o) x) ∧ HpLe σ Z ρ r
theorem HpLe.get : ∀ {σ' : Heap}, HpLe σ Z ρ σ' → ∀ o', Heap.get σ' o' ≠ .dead → ∃ o, ρ o' = some o ∧ ¬ Z o ∧ σ.get o ≠ .dead ∧ OLe σ Z ρ (σ.get o) (Heap.get σ' o')
  | [], _, o', h => absurd rfl h
  | (u, x) :: r, h, o', hd => by
    simp only [Heap.get] at hd ⊢
    split
    · rename_i e; subst e; rw [if_pos rfl] at hd; exact h.1.resolve_left hd
    · rename_i e; rw [if_neg e] at hd; exact HpLe.get h.2 o' hd
end
def rget (R : List (Nat × Nat)) (o : Nat) : Option Nat := (R.find? fun x => x.1 == o).map Prod.snd
theorem rget_mem {R : List (Nat × Nat)} {i o : Nat} (h : rget R i = some o) : (i, o) ∈ R := by
  unfold rget at h
  obtain ⟨⟨x, y⟩, h1, h2⟩ := Option.map_eq_some_iff.1 h
  have h3 := List.find?_some h1
  have h4 := List.mem_of_find?_eq_some h1
  simp at h3 h2
  subst h3; subst h2; exact h4
theorem rget_inj : ∀ {R : List (Nat × Nat)}, (R.map Prod.snd).Nodup → ∀ {i j o : Nat}, (i, o) ∈ R → (j, o) ∈ R → i = j
  | [], _, i, j, o, h, _ => by simp at h
  | x :: r, hn, i, j, o, hi, hj => by
    simp only [List.map_cons, List.nodup_cons] at hn
    rcases List.mem_cons.1 hi with hi | hi <;> rcases List.mem_cons.1 hj with hj | hj
    · rw [← hj] at hi; injection hi
    · exact absurd (List.mem_map.2 ⟨_, hj, by rw [← hi]⟩) hn.1
    · exact absurd (List.mem_map.2 ⟨_, hi, by rw [← hj]⟩) hn.1
    · exact rget_inj hn.2 hi hj
def Ent {P : Program} (C : Cx P) (s s' : St) : Prop := ∀ (d0 : D0) (F : Nat → Prop) (μ : Num) (a : Act) (w : World), Sim C d0 F μ s a w → ∃ F' μ', Sim C d0 F' μ' s' a w ∧ Base F μ w F' μ' w ∧ Kp C.kp μ μ'
section
variable {P : Program} {C : Cx P}
theorem Ent.refl (s : St) : Ent C s s := fun _ F μ _ w h => ⟨F, μ, h, Base.refl F μ w, Kp.refl _ _⟩
theorem Ent.trans {s s1 s2 : St} (h : Ent C s s1) (k : Ent C s1 s2) : Ent C s s2 := fun d0 F μ a w hs =>
  let ⟨F1, μ1, h1, h2, h3⟩ := h d0 F μ a w hs
  let ⟨F2, μ2, k1, k2, k3⟩ := k d0 F1 μ1 a w h1
  ⟨F2, μ2, k1, h2.trans k2, h3.trans k3⟩
theorem SimH.ent {σ σ' : Heap} {F : Nat → Prop} {μ : Num} {w : World} (h : SimH F μ σ w) (Z : List Nat) (R : List (Nat × Nat)) (hH : HpLe σ (· ∈ Z) (rget R) σ') (hn : (R.map Prod.snd).Nodup) :
    SimH (FZ σ (· ∈ Z) F μ) (μ.ren (rget R)) σ' w ∧ Base F μ w (FZ σ (· ∈ Z) F μ) (μ.ren (rget R)) w := by
  have hz : ZOk σ (· ∈ Z) F μ w := fun o b _ _ hm => h.obj o b hm
  refine ⟨⟨?_, ?_, ?_, ?_, ?_, ?_, fun c x hc => ⟨?_, fun i hi hm => ?_⟩, h.hu⟩, ?_⟩
  · rintro b (hb | ⟨o, _, _, hb⟩)
    · exact h.fb b hb
    · exact h.mb b (.inl ⟨o, hb⟩)
  · rintro b (⟨o, ho⟩ | ⟨x, hx⟩)
    · obtain ⟨o1, _, h2⟩ := Option.bind_eq_some_iff.1 ho
      exact h.mb b (.inl ⟨o1, h2⟩)
    · exact h.mb b (.inr ⟨x, hx⟩)
  · intro o' hd
    obtain ⟨o, h1, _, h2, _⟩ := hH.get o' hd
    obtain ⟨b, hb⟩ := h.has o h2
    exact ⟨b, by rw [Num.ren_get h1]; exact hb⟩
  · intro o' b hm
    rcases Classical.em (Heap.get σ' o' = .dead) with hd | hd
    · rw [hd]; trivial
    · obtain ⟨o, h1, _, _, h3⟩ := hH.get o' hd
      rw [Num.ren_get h1] at hm
      exact h3.spec hz (h.obj o b hm)
  · intro o' b hd hm hf
    obtain ⟨o, h1, h2, h3, _⟩ := hH.get o' hd
    rw [Num.ren_get h1] at hm
    rcases hf with hf | ⟨z, z1, z2, z3⟩
    · exact h.live o b h3 hm hf
    · have := h.inj o z b h3 z2 hm z3
      subst this; exact h2 z1
  · intro i j b hi hj hmi hmj
    obtain ⟨oi, i1, _, i3, _⟩ := hH.get i hi
    obtain ⟨oj, j1, _, j3, _⟩ := hH.get j hj
    rw [Num.ren_get i1] at hmi; rw [Num.ren_get j1] at hmj
    have := h.inj oi oj b i3 j3 hmi hmj
    subst this
    exact rget_inj hn (rget_mem i1) (rget_mem j1)
  · rintro (hf | ⟨o, _, z2, z3⟩)
    · exact (h.hd c x hc).1 hf
    · exact (h.hd c x hc).2 o z2 z3
  · obtain ⟨o, h1, _, h2, _⟩ := hH.get i hi
    obtain ⟨o1, e1, e2⟩ := Option.bind_eq_some_iff.1 hm
    rw [h1] at e1; injection e1 with e1; subst e1
    exact (h.hd c x hc).2 o h2 e2
  · refine ⟨rfl, rfl, rfl, Nat.le_refl _, fun _ _ => rfl, fun _ _ _ => rfl, fun _ _ h => h, fun _ => .inl, ?_, ?_⟩
    · rintro b (hb | ⟨o, _, _, hb⟩)
      · exact .inl hb
      · exact .inr (.inl (.inl ⟨o, hb⟩))
    · rintro b (⟨o, ho⟩ | ⟨x, hx⟩)
      · obtain ⟨o1, _, h2⟩ := Option.bind_eq_some_iff.1 ho
        exact .inl (.inl ⟨o1, h2⟩)
      · exact .inl (.inr ⟨x, hx⟩)
theorem Ent.of {s s' : St} (Z : List Nat) (R : List (Nat × Nat)) (hE : EnvLe s.hp (· ∈ Z) (rget R) s.env s'.env) (hH : HpLe s.hp (· ∈ Z) (rget R) s'.hp)
    (hn : (R.map Prod.snd).Nodup) (hx : ∀ x ∈ R, x.1 < s'.nx) (hk : ∀ o ∈ C.kp, rget R o = some o) (hy : s'.yk = s.yk) : Ent C s s' := fun d0 F μ a w hs => by
  have hz : ZOk s.hp (· ∈ Z) F μ w := fun o b _ _ hm => hs.h.obj o b hm
  obtain ⟨h1, h2⟩ := hs.h.ent Z R hH hn
  refine ⟨_, _, ⟨h1, fun o ho => ?_, hs.size, fun t => hE.get t F μ w _ hz (hs.env t), hs.mks.base h2 rfl, hs.rd.base h2, hs.itro, by rw [hy]; exact C.G.cl hs.j h2⟩, h2, fun o ho b hb => by show (rget R o).bind μ = some b; rw [hk o ho]; exact hb⟩
  show (rget R o).bind μ = none
  cases hr : rget R o with
  | none => rfl
  | some x => have h3 := hx _ (rget_mem hr); simp only at h3; omega
def prF : List Nat → Env → (Env → Prop) → Prop
  | [], _, K => K []
  | t :: V, env, K => frc (env.get t) fun v => (match v with | .any => prF V env K | v => prF V env fun e => K ((t, v) :: e))
theorem Ent.env {env env' : Env} {hp : Heap} {nx yk : Nat} (h : ∀ t, env'.get t = env.get t ∨ env'.get t = .any) : Ent C ⟨env, hp, nx, yk⟩ ⟨env', hp, nx, yk⟩ := fun d0 F μ a w hs =>
  ⟨F, μ, ⟨hs.h, hs.fresh, hs.size, fun t => by
    rcases h t with e | e
    · rw [show (St.mk env' hp nx yk).env.get t = _ from e]; exact hs.env t
    · rw [show (St.mk env' hp nx yk).env.get t = _ from e]; exact .any _, hs.mks, hs.rd, hs.itro, hs.j⟩, Base.refl F μ w, Kp.refl _ _⟩
theorem prF_spec : ∀ (V : List Nat) (env : Env) (K : Env → Prop), prF V env K → ∃ env', K env' ∧ ∀ t, env'.get t = env.get t ∨ env'.get t = .any
  | [], env, K, h => ⟨[], h, fun _ => .inr rfl⟩
  | t :: V, env, K, h => by
    simp only [prF, frc_eq] at h
    split at h
    · exact prF_spec V env K h
    · obtain ⟨env', h1, h2⟩ := prF_spec V env _ h
      refine ⟨_, h1, fun u => ?_⟩
      simp only [Env.get]
      split
      · rename_i e; subst e; exact .inl rfl
      · exact h2 u
def hasH : Heap → Nat → Bool
  | [], _ => false
  | (u, _) :: r, t => (match Nat.beq u t with | true => true | false => hasH r t)
def keepH (oh : Heap) : Heap → Heap → Heap
  | [], _ => oh
  | (o, x) :: r, S => (match hasH S o with
    | true => keepH oh r S
    | false => (match hasH oh o with
      | true => keepH oh r ((o, x) :: S)
      | false => (match x with
        | .dead => keepH oh r ((o, x) :: S)
        | x => (o, x) :: keepH oh r ((o, x) :: S))))
def lpH (oh : Heap) : Heap → Heap → (Heap → Prop) → Prop
  | [], _, K => K oh
  | (o, x) :: r, S, K => (match hasH S o with
    | true => lpH oh r S K
    | false => (match hasH oh o with
      | true => lpH oh r ((o, x) :: S) K
      | false => (match x with
        | .dead => lpH oh r ((o, x) :: S) K
        | x => lpH oh r ((o, x) :: S) fun h => K ((o, x) :: h))))
theorem lpH_eq (oh : Heap) : ∀ (r S : Heap) (K : Heap → Prop), lpH oh r S K = K (keepH oh r S)
  | [], _, K => rfl
  | (o, x) :: r, S, K => by
    simp only [lpH, keepH]
    cases hasH S o with
    | true => exact lpH_eq oh r S K
    | false =>
      simp only
      cases hasH oh o with
      | true => exact lpH_eq oh r _ K
      | false =>
        simp only
        cases x <;> simp only [lpH_eq oh r]
theorem keepH_seen : ∀ (r S : Heap) (i : Nat), hasH S i = true → Heap.get (keepH [] r S) i = .dead
  | [], S, i, _ => rfl
  | (o, x) :: r, S, i, h => by
    have h2 : ∀ y, hasH ((o, y) :: S) i = true := fun y => by simp only [hasH]; split <;> first | rfl | exact h
    simp only [keepH]
    split
    · exact keepH_seen r S i h
    · rename_i hs
      have hoi : o ≠ i := fun e => by subst e; rw [h] at hs; cases hs
      simp only [hasH]
      cases x <;> simp only [] <;> first | exact keepH_seen r _ i (h2 _) | (rw [Heap.get_cons, if_neg hoi]; exact keepH_seen r _ i (h2 _))
theorem keepH_get : ∀ (r S : Heap) (i : Nat), hasH S i = false → Heap.get (keepH [] r S) i = Heap.get r i
  | [], S, i, _ => rfl
  | (o, x) :: r, S, i, h => by
    simp only [keepH]
    split
    · rename_i hs
      have hoi : o ≠ i := fun e => by subst e; rw [h] at hs; cases hs
      rw [keepH_get r S i h, Heap.get_cons, if_neg hoi]
    · simp only [hasH]
      by_cases hoi : o = i
      · subst hoi
        have hs : ∀ y, hasH ((o, y) :: S) o = true := fun y => by simp [hasH]
        rw [Heap.get_cons, if_pos rfl]
        cases x <;> simp only [] <;> first | exact keepH_seen r _ o (hs _) | (rw [Heap.get_cons, if_pos rfl])
      · have hs : ∀ y, hasH ((o, y) :: S) i = false := fun y => by
          simp only [hasH]
          have : Nat.beq o i = false := by
            cases hb : Nat.beq o i with
            | false => rfl
            | true => exact absurd (Nat.eq_of_beq_eq_true hb) hoi
          rw [this]; exact h
        rw [Heap.get_cons, if_neg hoi]
        cases x <;> simp only [] <;> first | exact keepH_get r _ i (hs _) | (rw [Heap.get_cons, if_neg hoi]; exact keepH_get r _ i (hs _))
theorem Ent.hp {env : Env} {hp : Heap} {nx yk : Nat} : Ent C ⟨env, hp, nx, yk⟩ ⟨env, keepH [] hp [], nx, yk⟩ := fun d0 F μ a w hs =>
  ⟨F, μ, ⟨hs.h.congr fun i => keepH_get hp [] i rfl, hs.fresh, hs.size, hs.env, hs.mks, hs.rd, hs.itro, hs.j⟩, Base.refl F μ w, Kp.refl _ _⟩
structure Sq (C : Cx P) (V : List Nat) (id : Nat) (Q : St → Prop) (s : St) : Prop where
  ex : ∃ s', Ent C s s' ∧ Q s'
theorem Sq.go {V : List Nat} {id : Nat} {Q : St → Prop} {s : St} (h : Q s) : Sq C V id Q s := ⟨s, Ent.refl s, h⟩
theorem Sq.ent {V : List Nat} {id : Nat} {Q : St → Prop} {s : St} (s' : St) (h : Ent C s s') (k : Sq C V id Q s') : Sq C V id Q s := let ⟨t, h1, h2⟩ := k.ex; ⟨t, h.trans h1, h2⟩
theorem Sq.pr {V : List Nat} {id : Nat} {Q : St → Prop} {env : Env} {hp : Heap} {nx yk : Nat} (h : prF V env fun env' => lpH [] hp [] fun hp' => Q ⟨env', hp', nx, yk⟩) : Sq C V id Q ⟨env, hp, nx, yk⟩ := by
  obtain ⟨env', h1, h2⟩ := prF_spec V env _ h
  rw [lpH_eq] at h1
  exact ⟨_, (Ent.env h2).trans Ent.hp, h1⟩
def rid : Code → Nat
  | .region id _ _ => id
  | .seq x _ => rid x
  | .block _ c => rid c
  | .loop c => rid c
  | .scope c => rid c
  | .cond _ x _ => rid x
  | _ => 0
def cdF (x : AV) (A B : Prop) : Prop :=
  match x with
  | .p (.bool b) => Br b A B
  | _ => False
def exF (id : Nat) (A : Prop) (B : Nat → Prop) (j : Nat) : Prop :=
  match Nat.beq j id with
  | true => A
  | false => B j
theorem exF_eq (id : Nat) (A : Prop) (B : Nat → Prop) (j : Nat) : exF id A B j = if j = id then A else B j := by
  unfold exF
  split
  · rename_i h; rw [if_pos (Nat.eq_of_beq_eq_true h)]
  · rename_i h; rw [if_neg (Nat.ne_of_beq_eq_false h)]
structure Lp (C : Cx P) (c : Code) (s : St) (K : Kt) : Prop where
  w : Wpc C c s K
def cqF : List Oper → Env → Heap → Nat → Nat → (St → Prop) → Prop
  | [], env, hp, nx, yk, K => K ⟨env, hp, nx, yk⟩
  | o :: r, env, hp, nx, yk, K => (match o.guard with
    | some _ => False
    | none => cmK P o.op (evalO env) hp nx fun v us => frc v fun v => natF (nx + 64) fun nx' => putF o.dst v env fun env' => appF us hp fun hp' => cqF r env' hp' nx' yk K)
theorem cqF_eq : ∀ (l : List Oper) (env : Env) (hp : Heap) (nx yk : Nat) (K : St → Prop), cqF (P := P) l env hp nx yk K = cq (P := P) l env hp nx yk K
  | [], _, _, _, _, _ => rfl
  | o :: r, env, hp, nx, yk, K => by
    unfold cqF cq
    simp only [frc_eq, natF_eq, putF_eq, appF_eq, cqF_eq r]
    all_goals (cases o.guard <;> rfl)
def awR (C : Cx P) (ops : Array Oper) (draw : Bool) (s : St) (K : Kt) : Prop :=
  match draw, s with
  | true, ⟨env, hp, nx, yk⟩ => dq C.G ops.toList nx yk ops.toList 0 env hp [] (fun env hp nx yk => K.n ⟨env, hp, nx, yk⟩) K.p
  | false, ⟨env, hp, nx, yk⟩ => (match hasCm ops.toList with
    | true => cqF (P := P) ops.toList env hp nx yk K.n
    | false => sq C.G ops.toList ops.toList env hp nx yk (fun env hp nx yk => K.n ⟨env, hp, nx, yk⟩) K.p)
def Kt.sq (C : Cx P) (V : List Nat) (id : Nat) (f : St → Kt → Prop) (K : Kt) : Kt := { K with n := fun s' => Sq C V id (fun s2 => f s2 K) s' }
def Kt.bl (id : Nat) (K : Kt) : Kt := { K with e := fun j s' => exF id (K.n s') (fun j => K.e j s') j }
def Kt.nx (K : Kt) (f : St → Prop) : Kt := { K with n := f }
noncomputable def aw (C : Cx P) (V : List Nat) (c : Code) : St → Kt → Prop :=
  Code.rec (motive := fun _ => St → Kt → Prop)
    (skip := fun s K => K.n s)
    (region := fun _ ops draw s K => awR C ops draw s K)
    (seq := fun _ y ihx ihy s K => ihx s (Kt.sq C V (rid y) ihy K))
    (cond := fun c _ _ ihx ihy s K => cdF (evalO s.env c) (ihx s K) (ihy s K))
    (block := fun id _ ih s K => ih s (Kt.bl id K))
    (loop := fun c _ s K => Lp C (.loop c) s K)
    (rangeFunc := fun f ps x y _ _ s K => Lp C (.rangeFunc f ps x y) s K)
    (exit := fun j s K => K.e j s)
    (scope := fun c _ s K => Lp C (.scope c) s K)
    (label := fun _ s K => K.n s)
    (goto := fun l s K => Lp C (.goto l) s K)
    (ret := fun s K => K.r s)
    (refuse := fun w s K => Lp C (.refuse w) s K) c
theorem aw_t (C : Cx P) (V : List Nat) (id : Nat) (ops : Array Oper) (env : Env) (hp : Heap) (nx yk : Nat) (K : Kt) : aw C V (.region id ops true) ⟨env, hp, nx, yk⟩ K = dq C.G ops.toList nx yk ops.toList 0 env hp [] (fun env hp nx yk => K.n ⟨env, hp, nx, yk⟩) K.p := rfl
theorem aw_f (C : Cx P) (V : List Nat) (id : Nat) (ops : Array Oper) (env : Env) (hp : Heap) (nx yk : Nat) (K : Kt) : aw C V (.region id ops false) ⟨env, hp, nx, yk⟩ K = (match hasCm ops.toList with
    | true => cqF (P := P) ops.toList env hp nx yk K.n
    | false => sq C.G ops.toList ops.toList env hp nx yk (fun env hp nx yk => K.n ⟨env, hp, nx, yk⟩) K.p) := rfl
theorem aw_cond (C : Cx P) (V : List Nat) (c : Operand) (x y : Code) (s : St) (K : Kt) : aw C V (.cond c x y) s K = cdF (evalO s.env c) (aw C V x s K) (aw C V y s K) := rfl
theorem aw_sound (hm : P.follows .mixedOrders = true) (V : List Nat) (c : Code) : ∀ (s : St) (K : Kt), aw C V c s K → Wpc C c s K := by
  induction c with
  | skip => intro s K h _ n Q d0 F μ a w hs hk; exact wpIn_skip (hk .normal s F μ a w h (Rl.refl F μ w) (Kp.refl _ _) hs)
  | exit j => intro s K h _ n Q d0 F μ a w hs hk; exact wpIn_exit (hk (.exit j) s F μ a w h (Rl.refl F μ w) (Kp.refl _ _) hs)
  | ret => intro s K h _ n Q d0 F μ a w hs hk; exact wpIn_ret (hk .ret s F μ a w h (Rl.refl F μ w) (Kp.refl _ _) hs)
  | label l => intro s K h _ n Q d0 F μ a w hs hk; exact wpIn_label (hk .normal s F μ a w h (Rl.refl F μ w) (Kp.refl _ _) hs)
  | region id ops draw =>
    intro s K h hok n Q d0 F μ a w hs hk
    obtain ⟨env, hp, nx, yk⟩ := s
    cases draw with
    | true =>
      rw [aw_t, dq_eq] at h
      have := drwK_sound (n := n) (id := id) (Q := Q) hm hok hs h (fun s' F' μ' a' w' h1 h2 h3 h4 => hk .normal s' F' μ' a' w' h1 h2 h3 h4)
        fun s' F' μ' a' w' p ch h1 h2 h3 h4 h5 => hk (.panic ch) s' F' μ' a' w' ⟨p, h1, h5⟩ h2 h3 h4
      simpa using this
    | false =>
      rw [aw_f] at h
      cases hcm : hasCm ops.toList with
      | true =>
        rw [hcm] at h
        simp only [cqF_eq] at h
        exact wpIn_cq (s := ⟨env, hp, nx, yk⟩) hok hs h fun s' F' μ' a' w' h1 h2 h3 h4 => hk .normal s' F' μ' a' w' h1 h2 h3 h4
      | false =>
      rw [hcm] at h
      simp only [sq_eq] at h
      exact wpIn_region_list (seqK_sound hok _ _ F μ a w (fun o ho => ho) hs h (fun s' F' μ' a' w' h1 h2 h3 h4 => hk .normal s' F' μ' a' w' h1 h2 h3 h4)
        fun s' F' μ' a' w' p ch h1 h2 h3 h4 h5 => hk (.panic ch) s' F' μ' a' w' ⟨p, h1, h5⟩ h2 h3 h4)
  | seq x y ihx ihy =>
    intro s K h hok n Q d0 F μ a w hs hk
    simp only [okc, Bool.and_eq_true] at hok
    refine wpIn_seq (ihx s _ h hok.1 n _ d0 F μ a w hs fun e s' F' μ' a' w' h1 h2 h3 h4 => ?_)
    cases e with
    | normal =>
      obtain ⟨s2, e1, e2⟩ := h1.ex
      obtain ⟨F2, μ2, g1, g2, g3⟩ := e1 d0 F' μ' a' w' h4
      exact ihy s2 K e2 hok.2 n Q d0 F2 μ2 a' w' g1 fun e s3 F3 μ3 a3 w3 k1 k2 k3 k4 => hk e s3 F3 μ3 a3 w3 k1 (h2.trans ((Rl.of g2).trans k2)) (h3.trans (g3.trans k3)) k4
    | exit j => exact hk _ s' F' μ' a' w' h1 h2 h3 h4
    | ret => exact hk _ s' F' μ' a' w' h1 h2 h3 h4
    | goto l => exact h1.elim
    | panic ch => exact hk _ s' F' μ' a' w' h1 h2 h3 h4
    | outgrown => exact h1.elim
  | cond c x y ihx ihy =>
    intro s K h hok n Q d0 F μ a w hs hk
    simp only [okc, Bool.and_eq_true] at hok
    rw [aw_cond] at h
    simp only [cdF] at h
    have hc := eval_rv hs.env c
    split at h
    · rename_i b hb
      rw [hb] at hc
      exact wpIn_cond_split (pbool_inv hc) (fun e => ihx s K (h.t e) hok.1 n Q d0 F μ a w hs hk) (fun e => ihy s K (h.f e) hok.2 n Q d0 F μ a w hs hk)
    · exact h.elim
  | block id c ih =>
    intro s K h hok n Q d0 F μ a w hs hk
    refine wpIn_block (ih s _ h hok n _ d0 F μ a w hs fun e s' F' μ' a' w' h1 h2 h3 h4 => ?_)
    cases e with
    | normal => exact hk .normal s' F' μ' a' w' h1 h2 h3 h4
    | exit j =>
      simp only [kOf, Kt.bl, exF_eq] at h1
      simp only [Exit.inBlock]
      split
      · rename_i e; rw [if_pos e] at h1; exact hk .normal s' F' μ' a' w' h1 h2 h3 h4
      · rename_i e; rw [if_neg e] at h1; exact hk (.exit j) s' F' μ' a' w' h1 h2 h3 h4
    | ret => exact hk .ret s' F' μ' a' w' h1 h2 h3 h4
    | goto l => exact h1.elim
    | panic ch => exact hk _ s' F' μ' a' w' h1 h2 h3 h4
    | outgrown => exact h1.elim
  | loop c ih => intro s K h; exact h.w
  | rangeFunc f params assign body _ _ => intro s K h; exact h.w
  | scope c _ => intro s K h; exact h.w
  | goto l => intro s K h; exact h.w
  | refuse why => intro s K h; exact h.w
variable {s s' : St} {K : Kt} {c : Code}
theorem Wpc.ent (h : Ent C s s') (k : Wpc C c s' K) : Wpc C c s K := fun hok n Q d0 F μ a w hs hk => by
  obtain ⟨F', μ', h1, h2, h3⟩ := h d0 F μ a w hs
  exact k hok n Q d0 F' μ' a w h1 fun e s2 F2 μ2 a2 w2 k1 k2 k3 k4 => hk e s2 F2 μ2 a2 w2 k1 ((Rl.of h2).trans k2) (h3.trans k3) k4
theorem wpIn_loop_nat {F : Fence} {n : Nat} {c : Code} {Q : Exit → Act → World → Prop} (I : Nat → Act → World → Prop)
    (round : ∀ j a w, I j a w → c.wpIn F n P (Exit.then (fun a' w' => ∃ j', j' < j ∧ I j' a' w') Q) a w) {j : Nat} {a : Act} {w : World} (h0 : I j a w) : (Code.loop c).wpIn F n P Q a w := by
  intro b k cs hro hb hr
  have key : ∀ j a w, I j a w →
      ∃ e a' w', Q e a' w' ∧ ArrivesIn (Machine.fenced P F) P (lone (b.atR a (.code c :: .inLoop c :: k)) cs w) b k cs e a' w' := by
    intro j
    induction j using Nat.strongRecOn with
    | _ j ih =>
      intro a w hI
      obtain ⟨e, a₁, w₁, hq, harr⟩ := round j a w hI b (.inLoop c :: k) cs hro hb hr
      cases e with
      | normal =>
        obtain ⟨j', hlt, hI₁⟩ := hq
        obtain ⟨e₂, a₂, w₂, hq₂, harr₂⟩ := ih j' hlt a₁ w₁ hI₁
        exact ⟨e₂, a₂, w₂, hq₂, .of_steps (StepsIn.trans harr (.one (fenced_calm hb hr rfl) stepR_inLoop)) harr₂⟩
      | exit id => exact ⟨_, a₁, w₁, hq, .pass (x := .inLoop c) rfl (fun _ _ => .inl (by simp)) harr⟩
      | goto l => exact ⟨_, a₁, w₁, hq, .pass (x := .inLoop c) rfl (fun _ _ => .inl (by simp)) harr⟩
      | ret => exact ⟨_, a₁, w₁, hq, .pass (x := .inLoop c) rfl (fun _ _ => .inl (by simp)) harr⟩
      | panic ch => exact ⟨_, a₁, w₁, hq, .pass (x := .inLoop c) rfl (fun _ _ => .inl (by simp)) harr⟩
      | outgrown => exact ⟨_, a₁, w₁, hq, .pass (x := .inLoop c) rfl (fun _ _ => .inl (by simp)) harr⟩
  obtain ⟨e, a', w', hq, harr⟩ := key _ a w h0
  exact ⟨e, a', w', hq, .of_steps (.one (fenced_calm hb hr rfl) stepR_loop) harr⟩
theorem Wpc.loop {α : Type} (hm : P.follows .mixedOrders = true) (V : List Nat) (I : α → St) (m : α → Nat) (i0 : α) (h0 : Ent C s (I i0))
    (hstep : ∀ i, aw C V c (I i) (Kt.nx K fun s' => ∃ j, m j < m i ∧ Ent C s' (I j))) : Lp C (.loop c) s K := ⟨fun hok n Q d0 F μ a w hs hk => by
  obtain ⟨F0, μ0, h1, h2, h3⟩ := h0 d0 F μ a w hs
  refine wpIn_loop_nat (fun k a' w' => ∃ (i : α) (F' : Nat → Prop) (μ' : Num), m i = k ∧ Rl C.G F μ w F' μ' w' ∧ Kp C.kp μ μ' ∧ Sim C d0 F' μ' (I i) a' w') (fun k a1 w1 hI => ?_) (j := m i0) ⟨i0, F0, μ0, rfl, .of h2, h3, h1⟩
  obtain ⟨i, F1, μ1, hk1, b1, b2, s1⟩ := hI
  refine aw_sound hm V c (I i) _ (hstep i) hok n _ d0 F1 μ1 a1 w1 s1 fun e s' F' μ' a' w' k1 k2 k3 k4 => ?_
  cases e with
  | normal =>
    obtain ⟨j, hj, he⟩ := k1
    obtain ⟨F2, μ2, e1, e2, e3⟩ := he d0 F' μ' a' w' k4
    exact ⟨m j, by omega, j, F2, μ2, rfl, (b1.trans k2).trans (.of e2), (b2.trans k3).trans e3, e1⟩
  | exit j => exact hk _ s' F' μ' a' w' k1 (b1.trans k2) (b2.trans k3) k4
  | ret => exact hk _ s' F' μ' a' w' k1 (b1.trans k2) (b2.trans k3) k4
  | goto l => exact k1.elim
  | panic ch => exact hk _ s' F' μ' a' w' k1 (b1.trans k2) (b2.trans k3) k4
  | outgrown => exact k1.elim⟩
end
end Go.Sg
namespace Go.Sg
open Go
section
variable {P : Program} {f : FuncId} {σ : Heap} {nid : Nat} {K : AV → Heap → Prop} {ps : List PV} {r : PV} {c : Option (FuncId × List AV)}
theorem PV.le_of {p q : PV} (h : p = q) : PV.le p q := by subst h; exact PV.le_refl p
theorem PV.leL_refl : ∀ l : List PV, PV.leL l l
  | [] => PV.leL_nil
  | _ :: l => PV.leL_cons (PV.le_refl _) (PV.leL_refl l)
theorem PCalls.le {as bs : List PV} {r q : PV} (h : PCalls P f as r) (ha : PV.leL bs as) (hr : PV.le r q) : PCalls P f bs q := fun F w vs hF hs hv =>
  Calls.mono (h F w vs hF (hs.trans ha.1) fun i p hp => by
    have hi : i < bs.length := by rw [ha.1]; exact (List.getElem?_eq_some_iff.1 hp).1
    exact ha.2 i _ p (List.getElem?_eq_getElem hi) hp F w _ (hv i _ (List.getElem?_eq_getElem hi))) fun e w' ⟨v, F', h1, h2, h3, h4⟩ => ⟨v, F', h1, h2, h3, hr F' w' v h4⟩
theorem call_p {c : AV × List AV} (hp : PCalls P f ps r) (he : enters P f = true) (hc : calleeOf c.1 c.2 = some (f, ps.map AV.p)) (hk : K (.p r) []) : callX P c σ nid K :=
  ⟨.inl ⟨f, _, [], ps, r, hc, he, by simp, FrzL.refl ps, hp, by simpa using hk⟩⟩
theorem call_z {c : AV × List AV} {as : List AV} (hp : PCalls P f ps r) (he : enters P f = true) (hc : calleeOf c.1 c.2 = some (f, as)) (hz : fzL σ 60 as [] fun qs Z => PV.leL qs ps ∧ K (.p r) (Z.map fun o => (o, if flatP r then σ.get o else .dead))) : callX P c σ nid K := by
  obtain ⟨qs, Z, ⟨h1, h2⟩, _, h3, h4⟩ := (fz_both 60).2 as [] _ (by simp [liveZ]) hz
  exact ⟨.inl ⟨f, as, Z, qs, r, hc, he, h3, h4, hp.le h1 (PV.le_refl r), h2⟩⟩
theorem call_i {c : AV × List AV} {as as0 : List AV} {σ0 σ1 : Heap} {r : AV} (ρ : List Nat) (hi : ICalls P f ρ.length σ0 as0 r σ1) (he : enters P f = true) (hc : calleeOf c.1 c.2 = some (f, as)) (ha : as = renL (rn ρ nid) as0) (hn : ρ.Nodup)
    (hl : ∀ o ∈ ρ, σ.get o ≠ .dead) (hs : ∀ i, i < ρ.length → σ.get (ρ.getD i 0) = renO (rn ρ nid) (σ0.get i)) (hd : ∀ i, ρ.length ≤ i → σ0.get i = .dead) (hcov : ∀ i, i < ρ.length → i ∈ keys σ1)
    (hb : ∀ k ∈ keys σ1, k < ρ.length + 64) (hk : K (renV (rn ρ nid) r) (σ1.map fun x => (rn ρ nid x.1, renO (rn ρ nid) x.2))) : callX P c σ nid K :=
  ⟨.inr (.inl ⟨f, as, as0, σ0, r, σ1, ρ, hc, he, ha, hn, hl, hs, hd, hcov, hb, hi, hk⟩)⟩
def sameH (σ : Heap) : Heap → Prop
  | [] => True
  | (o, x) :: r => σ.get o = x ∧ sameH σ r
theorem sameH_get {σ : Heap} : ∀ (us : Heap), sameH σ us → ∀ i, Heap.get (us ++ σ) i = σ.get i
  | [], _, _ => rfl
  | (o, x) :: r, h, i => by
    simp only [List.cons_append, Heap.get]
    split
    · rename_i e; subst e; exact h.1.symm
    · exact sameH_get r h.2 i
theorem call_r {c : AV × List AV} {as as0 : List AV} {σ0 σ1 : Heap} {r : AV} (ρ : List Nat) (hi : ICalls P f ρ.length σ0 as0 r σ1) (he : enters P f = true) (hc : calleeOf c.1 c.2 = some (f, as)) (ha : as = renL (rn ρ nid) as0) (hn : ρ.Nodup)
    (hl : ∀ o ∈ ρ, σ.get o ≠ .dead) (hs : ∀ i, i < ρ.length → σ.get (ρ.getD i 0) = renO (rn ρ nid) (σ0.get i)) (hd : ∀ i, ρ.length ≤ i → σ0.get i = .dead) (hcov : ∀ i, i < ρ.length → i ∈ keys σ1)
    (hb : ∀ k ∈ keys σ1, k < ρ.length + 64) (hsame : sameH σ (σ1.map fun x => (rn ρ nid x.1, renO (rn ρ nid) x.2))) (hobj : ((σ1.map fun x => rn ρ nid x.1).all fun q => (c.2.flatMap objs).contains q) = true) (hk : K (renV (rn ρ nid) r) []) : callX P c σ nid K :=
  ⟨.inr (.inr (.inr ⟨_, _, ⟨f, as, as0, σ0, r, σ1, ρ, hc, he, ha, hn, hl, hs, hd, hcov, hb, hi, rfl, rfl⟩, sameH_get _ hsame, fun q hq => by
    rw [keys, List.map_map] at hq
    have := List.all_eq_true.1 hobj q hq
    simpa using this, hk⟩))⟩
theorem call_e {c : AV × List AV} {a1 a2 : AV} {o1 s1 i1 n1 o2 s2 i2 n2 : Nat} {l1 l2 : List PV} (ho : OvFact P f) (hc : calleeOf c.1 c.2 = some (f, [a1, a2])) (e1 : uc a1 = .rsl o1 s1 i1 n1) (e2 : uc a2 = .rsl o2 s2 i2 n2) (hne : o1 ≠ o2) (g1 : σ.get o1 = .row s1 l1) (g2 : σ.get o2 = .row s2 l2)
    (h0 : 0 < s2) (hl : 0 < l2.length) (hk : K (.p (.bool false)) [(o1, .row s1 l1), (o2, .row s2 l2)]) : callX P c σ nid K :=
  ⟨.inr (.inr (.inl ⟨f, a1, a2, o1, s1, i1, n1, o2, s2, i2, n2, l1, l2, hc, ho, e1, e2, hne, g1, g2, h0, hl, hk⟩))⟩
end
structure LeG (p q : PV) : Prop where
  le : PV.le p q
@[simp] theorem LeG.refl (p : PV) : LeG p p := ⟨PV.le_refl p⟩
theorem LeG.of {p q : PV} (h : p = q) : LeG p q := ⟨PV.le_of h⟩
theorem LeG.bool {a b : Bool} (h : a = b) : LeG (.bool a) (.bool b) := .of (by rw [h])
def argEnv : Nat → List AV → Env
  | _, [] => []
  | k, p :: l => (k, p) :: argEnv (k + 1) l
theorem argEnv_get : ∀ (l : List AV) (k t : Nat), (argEnv k l).get t = if k ≤ t then (match l[t - k]? with | some p => p | none => .any) else .any
  | [], k, t => by simp [argEnv, Env.get]
  | p :: l, k, t => by
    simp only [argEnv, Env.get, argEnv_get l]
    by_cases e : k = t
    · subst e; simp
    · simp only [e, if_false]
      by_cases h : k + 1 ≤ t
      · rw [if_pos h, if_pos (by omega), show t - k = t - (k + 1) + 1 by omega]; simp
      · rw [if_neg h, if_neg (by omega)]
def resVs (P : Program) (env : Env) (hp : Heap) : List ResultVar → (List AV → Prop) → Prop
  | [], K => K []
  | .tmp t :: l, K => frc (env.get t) fun v => resVs P env hp l fun vs => K (v :: vs)
  | .cell a t :: l, K => rowLoad P t (env.get a) hp fun v => frc v fun v => resVs P env hp l fun vs => K (v :: vs)
def oneV : List AV → AV
  | [v] => v
  | vs => .tup vs
def resP (P : Program) (res : List ResultVar) (r : PV) (s : St) : Prop :=
  match s with
  | ⟨env, hp, _, _⟩ => resVs P env hp res fun vs => fzV hp 60 (oneV vs) [] fun p _ => LeG p r
def resOne (ts : Array Value) (x : ResultVar) : Sem Value :=
  match x with
  | .tmp t => pure (ts.getD t undef)
  | .cell c t => do loadVar t (← asAddr (ts.getD c undef))
theorem resVs_sound {P : Program} {F : Nat → Prop} {μ : Num} {env : Env} {hp : Heap} {ts : Array Value} {w : World} (hσ : SimH F μ hp w) (hs : ∀ t, RV F μ w (ts[t]?.getD undef) (env.get t)) : ∀ (res : List ResultVar) (K : List AV → Prop), resVs P env hp res K →
    ∃ (vs : List Value) (as : List AV), K as ∧ vs.length = as.length ∧ (∀ (i : Nat) p, as[i]? = some p → RV F μ w (vs[i]?.getD undef) p) ∧
      ∀ w', Same w w' → (res.mapM (resOne ts)).run P w' = .ok vs w' := by
  intro res
  induction res with
  | nil => intro K h; exact ⟨[], [], h, rfl, by simp, by simp⟩
  | cons x l ih =>
    intro K h
    cases x with
    | tmp t =>
      simp only [resVs, frc_eq] at h
      obtain ⟨vs, as, h1, h2, h3, h4⟩ := ih _ h
      refine ⟨ts.getD t undef :: vs, env.get t :: as, h1, by simp [h2], fun i p hp => ?_, fun w' hw => ?_⟩
      · cases i with
        | zero => simp at hp; subst hp; have := hs t; simpa [Array.getD_eq_getD_getElem?] using this
        | succ i => simp at hp; simpa using h3 i p hp
      · simp only [List.mapM_cons, Sem.run_bind, Sem.run_pure, Result.andThen_ok, resOne, h4 w' hw]
    | cell c t =>
      simp only [resVs, frc_eq] at h
      have hv := hs c
      obtain ⟨av, v, k1, k2, k3⟩ := rowLoad_sound (P := P) hσ hv h
      obtain ⟨vs, as, h1, h2, h3, h4⟩ := ih _ k1
      refine ⟨v :: vs, av :: as, h1, by simp [h2], fun i p hp => ?_, fun w' hw => ?_⟩
      · cases i with
        | zero => simp at hp; subst hp; simpa using k2
        | succ i => simp at hp; simpa using h3 i p hp
      · have hrun := k3 w' hw
        have hload : (resOne ts (.cell c t)).run P w' = .ok v w' := by
          show (do loadVar t (← asAddr (ts.getD c undef)) : Sem Value).run P w' = .ok v w'
          have e : ts.getD c undef = ts[c]?.getD undef := by simp [Array.getD_eq_getD_getElem?]
          rw [e]
          revert hrun
          generalize ts[c]?.getD undef = u
          intro hrun
          cases u with
          | pointer q => cases q with
            | some q => exact hrun
            | none => simp [Instr.loadAt, Instr.sureAddr] at hrun
          | _ => simp [Instr.loadAt, Instr.sureAddr] at hrun
        simp only [List.mapM_cons, Sem.run_bind, Sem.run_pure, hload, Result.andThen_ok, h4 w' hw]
theorem leavesM {P : Program} {ro : Option Nat} {n : Nat} {fn : Func} {tmps : Array Value} {R : Ending → World → Prop} : ∀ (ms : List Nat) (w : World), ms.Nodup → (∀ r ∈ ms, w.heap[r]? = some (.deferred (some []))) →
    (∀ w', (∀ b, b ∉ ms → w'.heap[b]? = w.heap[b]?) → w'.os = w.os → w'.tape = w.tape → w'.output = w.output → w'.heap.size = w.heap.size → LeavesIn (fc ro) n P fn tmps R [] .returning w') →
    LeavesInM (fc ro) n P fn tmps R (ms.map markD) .returning w
  | [], w, _, _, h => h w (fun _ _ => rfl) rfl rfl rfl rfl
  | r :: ms, w, hn, hd, h => by
    have hr := hd r (by simp)
    have hlt := lt_of_get hr
    simp only [List.nodup_cons] at hn
    let w1 : World := w.putObj r (.deferred none)
    have hsame : ∀ b, b ≠ r → w1.heap[b]? = w.heap[b]? := fun b hb => World.putObj_heap_other hb
    refine ⟨by simp, .inl ⟨r, w1, rfl, ?_, ?_⟩⟩
    · exact run_takeDeferred hr
    · refine leavesM ms w1 hn.2 (fun x hx => ?_) fun w' k1 k2 k3 k4 k5 => ?_
      · rw [hsame x (fun e => hn.1 (e ▸ hx))]; exact hd x (by simp [hx])
      · refine h w' (fun b hb => ?_) k2 k3 k4 (k5.trans (by simp [w1]))
        simp only [List.mem_cons, not_or] at hb
        rw [k1 b hb.2, hsame b hb.1]
end Go.Sg
namespace Go.Sg
open Go
section
variable {P : Program} {f : FuncId} {fn : Func} {c : Code} {N : Nat} {res : List ResultVar}
theorem leavesP {ro : Option Nat} {n : Nat} {tmps : Array Value} {R : Ending → World → Prop} {ch : List PanicEntry} : ∀ (ms : List Nat) (w : World), ms.Nodup → (∀ r ∈ ms, w.heap[r]? = some (.deferred (some []))) →
    (∀ w', (∀ b, b ∉ ms → w'.heap[b]? = w.heap[b]?) → w'.os = w.os → w'.tape = w.tape → w'.output = w.output → w'.heap.size = w.heap.size → R (.panicked ch) w') →
    LeavesInM (fc ro) n P fn tmps R (ms.map markD) (.panicking ch) w
  | [], w, _, _, h => h w (fun _ _ => rfl) rfl rfl rfl rfl
  | r :: ms, w, hn, hd, h => by
    have hr := hd r (by simp)
    simp only [List.nodup_cons] at hn
    let w1 : World := w.putObj r (.deferred none)
    have hsame : ∀ b, b ≠ r → w1.heap[b]? = w.heap[b]? := fun b hb => World.putObj_heap_other hb
    refine ⟨by simp, .inl ⟨r, w1, rfl, run_takeDeferred hr, ?_⟩⟩
    refine leavesP ms w1 hn.2 (fun x hx => ?_) fun w' k1 k2 k3 k4 k5 => ?_
    · rw [hsame x (fun e => hn.1 (e ▸ hx))]; exact hd x (by simp [hx])
    · refine h w' (fun b hb => ?_) k2 k3 k4 (k5.trans (by simp [w1]))
      simp only [List.mem_cons, not_or] at hb
      rw [k1 b hb.2, hsame b hb.1]
theorem calls_of {C : Cx P} {as : List AV} {s0 : St} {K : Kt} {F : Nat → Prop} {μ : Num} {w : World} {vs : Array Value} {R : Ending → World → Prop} (hm : P.follows .mixedOrders = true) (hf : P.funcs[f]? = some fn) (hb : fn.body = some c)
    (hN : fn.ntmps = C.N) (hr : fn.results.toList = res) (hok : okc C.N c = true) (ha : as.length ≤ C.N) (V : List Nat) (h : aw C V c s0 K)
    (hs0 : s0.env = argEnv 0 as) (hσ : SimH F μ s0.hp w) (hfr : ∀ o, s0.nx ≤ o → μ o = none) (hj : C.G.J s0.yk F μ w) (hvs : vs.size = as.length) (hrv : ∀ (i : Nat) p, as[i]? = some p → RV F μ w (vs[i]?.getD undef) p)
    (hn : ∀ s, K.n s → K.r s) (he : ∀ j s, ¬ K.e j s)
    (hret : ∀ s F' μ' w' (ts : Array Value), K.r s → Rl C.G F μ w F' μ' w' → Kp C.kp μ μ' → SimH F' μ' s.hp w' → (∀ o, s.nx ≤ o → μ' o = none) → (∀ t, RV F' μ' w' (ts[t]?.getD undef) (s.env.get t)) → (C.G.it = true → C.G.J s.yk F' μ' w') →
      ∃ us : List Value, (res.mapM (resOne ts)).run P w' = .ok us w' ∧ R (.returned (if h : us.toArray.size = 1 then us.toArray[0] else .tuple us.toArray)) w')
    (hpan : ∀ p s F' μ' w' ch, K.p p s → Rl C.G F μ w F' μ' w' → Kp C.kp μ μ' → SimH F' μ' s.hp w' → OnePanic F' w' ch p → R (.panicked ch) w') : Calls P f vs w R := by
  rw [← callsIn_fc (ro := none) (n := 0)]
  refine callsIn_of_wp_marks hf hb trivial ?_ rfl
  have hsz : (vs ++ Array.replicate (fn.ntmps - vs.size) undef).size = C.N := by
    have h1 : vs.size ≤ C.N := by rw [hvs]; exact ha
    simp [hN]; omega
  have hs : Sim C ⟨[], w.heap.size, none⟩ F μ s0 { tmps := vs ++ Array.replicate (fn.ntmps - vs.size) undef, defers := [] } w := by
    refine ⟨hσ, hfr, hsz, fun t => ?_, ⟨[], ⟨fun _ => rfl, List.nodup_nil, Nat.le_refl _⟩, rfl, by simp⟩, (fun l hl => by cases hl), fun _ => rfl, hj⟩
    rw [hs0, argEnv_get]
    simp only [Nat.zero_le, if_true, Nat.sub_zero]
    split
    · rename_i p hp
      have hlt : t < vs.size := by rw [hvs]; exact (List.getElem?_eq_some_iff.1 hp).1
      show RV F _ w ((vs ++ Array.replicate (fn.ntmps - vs.size) undef)[t]?.getD undef) _
      rw [Array.getElem?_append_left hlt]
      exact hrv t p hp
    · exact .any _
  have tk : ∀ {s' : St} {F' : Nat → Prop} {μ' : Num} {a' : Act} {w' : World}, Rl C.G F μ w F' μ' w' → Sim C ⟨[], w.heap.size, none⟩ F' μ' s' a' w' → ∃ ms : List Nat, ms.Nodup ∧ a'.defers = ms.map markD ∧ (∀ r ∈ ms, w'.heap[r]? = some (.deferred (some [])) ∧ ¬ F' r) ∧
      ∀ w2, (∀ b, b ∉ ms → w2.heap[b]? = w'.heap[b]?) → w2.os = w'.os → w2.tape = w'.tape → w2.output = w'.output → w2.heap.size = w'.heap.size →
        SimH F' μ' s'.hp w2 ∧ (∀ t, RV F' μ' w2 (a'.tmps[t]?.getD undef) (s'.env.get t)) ∧ Rl C.G F μ w F' μ' w2 ∧ (C.G.it = true → C.G.J s'.yk F' μ' w2) := by
    intro s' F' μ' a' w' h2 h4
    obtain ⟨ms, ⟨m0, m1⟩, m2, m3⟩ := h4.mks
    refine ⟨ms, m1.1, by rw [m2]; exact List.append_nil _, fun r hr => ⟨(m3 r hr).1, (m3 r hr).2.1⟩, fun w2 k1 k2 k3 k4 k5 => ?_⟩
    have hsame : ∀ b, F' b ∨ μ'.has b → w2.heap[b]? = w'.heap[b]? := fun b hb => k1 b fun hbm => by
      obtain ⟨_, h5, h6, _⟩ := m3 b hbm
      exact hb.elim h5 h6
    refine ⟨h4.h.same (by omega) hsame, fun t => (h4.env t).same hsame, fun hit => ?_, ?_⟩
    · have hB := h2 hit
      have hlow : ∀ b, b < w.heap.size → b ∉ ms := fun b hb hbm => by
        have := (m3 b hbm).2.2.2; simp only at this; omega
      refine ⟨k2.trans hB.os, k3.trans hB.tape, k4.trans hB.output, by rw [k5]; exact hB.size, fun b hb => (hsame b (.inl (hB.sub b hb))).trans (hB.fr b hb), fun b hb hn => (k1 b (hlow b hb)).trans (hB.old b hb hn), fun b x hx => ?_, hB.sub, hB.fnew, hB.mnew⟩
      have hx' := hB.shape b x hx
      by_cases hbm : b ∈ ms
      · have := (m3 b hbm).1
        simp [World.shape?, this] at hx'
      · exact (shape_same (k1 b hbm)).trans hx'
    · intro hit
      have := m0 hit
      subst this
      have hw : ∀ b, w2.heap[b]? = w'.heap[b]? := fun b => k1 b (by simp)
      exact C.G.cl h4.j ⟨k2, k3, k4, by omega, fun b _ => hw b, fun b _ _ => hw b, fun b x hx => (shape_same (hw b)).trans hx, fun _ h => h, fun _ h => .inl h, fun _ h => .inl h⟩
  refine aw_sound hm V c _ _ h hok 0 _ ⟨[], w.heap.size, none⟩ F μ _ w hs fun e s' F' μ' a' w' h1 h2 h3 h4 => ?_
  obtain ⟨ms, t1, t2, t3, t4⟩ := tk h2 h4
  have fin : K.r s' → LeavesInM (fc none) 0 P fn a'.tmps R a'.defers .returning w' := fun hK => by
    rw [t2]
    refine leavesM ms w' t1 (fun r hr => (t3 r hr).1) fun w2 k1 k2 k3 k4 k5 => ?_
    obtain ⟨g1, g2, g3, g4⟩ := t4 w2 k1 k2 k3 k4 k5
    obtain ⟨us, r1, r2⟩ := hret s' F' μ' w2 a'.tmps hK g3 h3 g1 h4.fresh g2 g4
    refine ⟨_, ?_, r2⟩
    have e : results fn a'.tmps = (do let vs ← fn.results.mapM (resOne a'.tmps); pure (if h : vs.size = 1 then vs[0] else .tuple vs)) := rfl
    rw [e, ← Array.toArray_toList (xs := fn.results), hr, List.mapM_toArray]
    simp only [Sem.run_bind, map_eq_pure_bind, Sem.run_pure, r1, Result.andThen_ok]
  cases e with
  | normal => exact fin (hn _ h1)
  | ret => exact fin h1
  | exit j => exact absurd h1 (he j s')
  | goto l => exact h1.elim
  | panic ch =>
    obtain ⟨p, p1, p2⟩ := h1
    show LeavesInM (fc none) 0 P fn a'.tmps R a'.defers (.panicking ch) w'
    rw [t2]
    refine leavesP ms w' t1 (fun r hr => (t3 r hr).1) fun w2 k1 k2 k3 k4 k5 => ?_
    obtain ⟨g1, g2, g3, g4⟩ := t4 w2 k1 k2 k3 k4 k5
    obtain ⟨v, v1, v2⟩ := p2
    exact hpan p s' F' μ' w2 ch p1 g3 h3 g1 ⟨v, v1, v2.mono (fun _ h => h) fun b hb => by
      exact k1 b fun hbm => (t3 b hbm).2 hb⟩
  | outgrown => exact h1.elim
theorem one_of {us : List Value} {avs : List AV} {F : Nat → Prop} {μ : Num} {w : World} (k2 : us.length = avs.length) (k3 : ∀ (i : Nat) p, avs[i]? = some p → RV F μ w (us[i]?.getD undef) p) :
    RV F μ w (if h : us.toArray.size = 1 then us.toArray[0] else .tuple us.toArray) (oneV avs) := by
  by_cases h1 : us.toArray.size = 1
  · rw [dif_pos h1]
    have hs2 : us.length = 1 := by simpa using h1
    obtain ⟨u, rfl⟩ : ∃ u, us = [u] := by
      cases us with
      | nil => simp at hs2
      | cons u r => cases r with
        | nil => exact ⟨u, rfl⟩
        | cons _ _ => simp at hs2
    obtain ⟨v, rfl⟩ : ∃ v, avs = [v] := by
      cases avs with
      | nil => simp at k2
      | cons u r => cases r with
        | nil => exact ⟨u, rfl⟩
        | cons _ _ => simp at k2
    exact k3 0 v rfl
  · rw [dif_neg h1]
    have e : oneV avs = .tup avs := by
      cases avs with
      | nil => rfl
      | cons u r => cases r with
        | nil => exfalso; apply h1; simpa using k2
        | cons _ _ => rfl
    rw [e]
    exact .tup _ _ (by simp [k2]) (fun i p hp => by simpa using k3 i p hp)
theorem PCalls.of {as : List PV} {r : PV} (hm : P.follows .mixedOrders = true) (hf : P.funcs[f]? = some fn) (hb : fn.body = some c)
    (hN : fn.ntmps = N) (hr : fn.results.toList = res) (hok : okc N c = true) (ha : as.length ≤ N) (V : List Nat)
    (h : aw ⟨N, Gam.no P, []⟩ V c ⟨argEnv 0 (as.map .p), [], 0, 0⟩ ⟨resP P res r, fun _ _ => False, resP P res r, fun _ _ => False⟩) : PCalls P f as r := by
  intro F w vs hF hvs hrv
  refine calls_of (as := as.map .p) (μ := Num.no) (F := F) hm hf hb hN hr hok (by simpa using ha) V h rfl (SimH.nil hF) (fun _ _ => rfl) trivial (by simpa using hvs) (fun i p hp => ?_) (fun _ h => h) (fun _ _ h => h) ?_ (fun _ _ _ _ _ _ h => h.elim)
  · simp only [List.getElem?_map, Option.map_eq_some_iff] at hp
    obtain ⟨q, hq, rfl⟩ := hp
    exact .p (hrv i q hq)
  · intro s F' μ' w' ts hK h2 _ h3 _ h5 _
    obtain ⟨env, hp, nx, yk⟩ := s
    have h2 := h2 rfl
    obtain ⟨us, avs, k1, k2, k3, k4⟩ := resVs_sound h3 h5 res _ hK
    refine ⟨us, k4 w' (fun _ _ => rfl), ?_⟩
    obtain ⟨p, Z, p1, _, p2, p3⟩ := (fz_both 60).1 (oneV avs) [] _ (by simp [liveZ]) k1
    refine ⟨_, (fun b => F' b ∨ ∃ o, o ∈ Z ∧ hp.get o ≠ .dead ∧ μ' o = some b), rfl, ⟨h2.os, h2.tape, h2.output, h2.size, h2.fr, h2.old, h2.shape, fun b hb => .inl (h2.sub b hb), ?_, fun b h => (Num.no_has h).elim⟩, ?_, ?_⟩
    · rintro b (hb | ⟨o, _, _, hb⟩)
      · exact h2.fnew b hb
      · rcases h2.mnew b (.inl ⟨o, hb⟩) with h | h
        · exact .inr (.inl h)
        · exact .inr (.inr h)
    · rintro b (hb | ⟨o, _, _, hb⟩)
      · exact h3.fb b hb
      · exact h3.mb b (.inl ⟨o, hb⟩)
    · exact p1.le _ _ _ (p3 F' μ' w' _ (fun o b _ _ hmo => h3.obj o b hmo) (one_of k2 k3))
def resI (P : Program) (res : List ResultVar) (m : Nat) (r : AV) (σ1 : Heap) (s : St) : Prop :=
  match s with
  | ⟨env, hp, _, _⟩ => resVs P env hp res fun vs => ∃ (Z : List Nat) (R : List (Nat × Nat)), VLe hp (· ∈ Z) (rget R) (oneV vs) r ∧ HpLe hp (· ∈ Z) (rget R) σ1 ∧ (R.map Prod.snd).Nodup ∧ (∀ x ∈ R, x.1 < m + 64) ∧ ∀ i, i < m → rget R i = some i
theorem ICalls.of {m nx : Nat} {σ0 σ1 : Heap} {as : List AV} {r : AV} (hm : P.follows .mixedOrders = true) (hf : P.funcs[f]? = some fn) (hb : fn.body = some c)
    (hN : fn.ntmps = N) (hr : fn.results.toList = res) (hok : okc N c = true) (ha : as.length ≤ N) (V : List Nat) (hnx : m ≤ nx)
    (h : aw ⟨N, Gam.no P, List.range m⟩ V c ⟨argEnv 0 as, σ0, nx, 0⟩ ⟨resI P res m r σ1, fun _ _ => False, resI P res m r σ1, fun _ _ => False⟩) : ICalls P f m σ0 as r σ1 := by
  intro F μ w vs hσ hfr hvs hrv
  refine calls_of (C := ⟨N, Gam.no P, List.range m⟩) (as := as) (μ := μ) (F := F) hm hf hb hN hr hok ha V h rfl hσ (fun o ho => hfr o (Nat.le_trans hnx ho)) trivial hvs hrv (fun _ h => h) (fun _ _ h => h) ?_ (fun _ _ _ _ _ _ h => h.elim)
  intro s F' μ' w' ts hK h2 hkp h3 _ h5 _
  obtain ⟨env, hp, nx', yk⟩ := s
  have h2 := h2 rfl
  obtain ⟨us, avs, ⟨Z, R, e1, e2, e3, e4, e5⟩, k2, k3, k4⟩ := resVs_sound h3 h5 res _ hK
  refine ⟨us, k4 w' (fun _ _ => rfl), ?_⟩
  obtain ⟨g1, g2⟩ := h3.ent Z R e2 e3
  refine ⟨_, _, _, rfl, h2.trans g2, g1, e1 F' μ' w' _ (fun o b _ _ hmo => h3.obj o b hmo) (one_of k2 k3), fun o ho b hb' => ?_, fun o ho => ?_⟩
  · show (rget R o).bind μ' = some b
    rw [e5 o ho]; exact hkp o (List.mem_range.2 ho) b hb'
  · show (rget R o).bind μ' = none
    cases hr' : rget R o with
    | none => rfl
    | some x => have h6 : o < m + 64 := e4 _ (rget_mem hr'); omega
theorem XCalls.of {m nx : Nat} {σ0 : Heap} {as : List AV} {p : PV} (hm : P.follows .mixedOrders = true) (hf : P.funcs[f]? = some fn) (hb : fn.body = some c)
    (hN : fn.ntmps = N) (hr : fn.results.toList = res) (hok : okc N c = true) (ha : as.length ≤ N) (V : List Nat) (hnx : m ≤ nx) (hfl : flatP p = true)
    (h : aw ⟨N, Gam.no P, List.range m⟩ V c ⟨argEnv 0 as, σ0, nx, 0⟩ ⟨fun _ => False, fun _ _ => False, fun _ => False, fun q _ => LeG q p⟩) : XCalls P f m σ0 as p := by
  refine ⟨hfl, fun F μ w vs hσ hfr hvs hrv => ?_⟩
  refine calls_of (C := ⟨N, Gam.no P, List.range m⟩) (as := as) (μ := μ) (F := F) hm hf hb hN hr hok ha V h rfl hσ (fun o ho => hfr o (Nat.le_trans hnx ho)) trivial hvs hrv (fun _ h => h) (fun _ _ h => h) (fun _ _ _ _ _ h => h.elim) ?_
  intro q s F' μ' w' ch hK h2 _ _ hp
  obtain ⟨v, rfl, hv⟩ := hp
  exact ⟨v, F', μ', rfl, h2 rfl, hK.le _ _ _ hv⟩
theorem ICalls.csl {m : Nat} {σ0 σ1 : Heap} {o sz i len : Nat} {as : List AV} {r : AV} (h : ∀ cap, len ≤ cap → ICalls P f m σ0 (.csl o sz i len cap :: as) r σ1) : ICalls P f m σ0 (.rsl o sz i len :: as) r σ1 := by
  intro F μ w vs hσ hfr hsz hrv
  have h0 := hrv 0 _ rfl
  have key : ∀ {v : Value}, RV F μ w v (.rsl o sz i len) → ∃ cap, len ≤ cap ∧ RV F μ w v (.csl o sz i len cap) := by
    intro v hv
    have hv' := hv
    cases hv with
    | rsl _ _ _ _ _ hv =>
    cases hv with
    | msl _ _ _ off' _ cap b t n h1 h2 h3 h4 h5 h6 => exact ⟨cap, h5, .csl _ _ _ _ _ _ hv'⟩
  obtain ⟨cap, h1, h2⟩ := key h0
  refine h cap h1 F μ w vs hσ hfr (by simpa using hsz) fun j p hp => ?_
  cases j with
  | zero => simp at hp; subst hp; exact h2
  | succ j => exact hrv (j + 1) p (by simpa using hp)
def Iter (P : Program) (f : FuncId) (caps : List PV) (xs : List (List PV)) : Prop :=
  ∀ (G : Gam P), G.it = true → G.xs = xs → ∀ (F : Nat → Prop) (w : World) (vs : Array Value), (∀ b, F b → b < w.heap.size) → vs.size = caps.length → (∀ (i : Nat) p, caps[i]? = some p → RP F w (vs[i]?.getD undef) p) →
    G.J 0 F Num.no w → Calls P f (#[.func (.yield G.l) #[] #[]] ++ vs) w fun e w' => ∃ v F' μ', e = .returned v ∧ G.J (min (G.stop + 1) xs.length) F' μ' w'
def resY (n : Nat) (s : St) : Prop := s.yk = n
theorem Iter.of {caps : List PV} {xs : List (List PV)} (hm : P.follows .mixedOrders = true) (hf : P.funcs[f]? = some fn) (hb : fn.body = some c)
    (hN : fn.ntmps = N) (hr : fn.results.toList = []) (hok : okc N c = true) (ha : caps.length + 1 ≤ N) (V : List Nat)
    (h : ∀ (G : Gam P), G.it = true → G.xs = xs → aw ⟨N, G, []⟩ V c ⟨argEnv 0 (.p (.fn (.yield G.l) [] []) :: caps.map .p), [], 0, 0⟩ ⟨resY (min (G.stop + 1) xs.length), fun _ _ => False, resY (min (G.stop + 1) xs.length), fun _ _ => False⟩) : Iter P f caps xs := by
  intro G hit hxs F w vs hF hvs hrv hj
  refine calls_of (C := ⟨N, G, []⟩) (as := .p (.fn (.yield G.l) [] []) :: caps.map .p) (μ := Num.no) (F := F) hm hf hb hN hr hok (by simpa using ha) V (h G hit hxs) rfl (SimH.nil hF) (fun _ _ => rfl) hj (by simp [hvs]; omega) (fun i p hp => ?_) (fun _ h => h) (fun _ _ h => h) ?_ (fun _ _ _ _ _ _ h => h.elim)
  · cases i with
    | zero =>
      simp at hp; subst hp
      have : (#[Value.func (.yield G.l) #[] #[]] ++ vs)[0]?.getD undef = .func (.yield G.l) #[] #[] := by rw [Array.getElem?_append_left (Nat.zero_lt_one)]; rfl
      rw [this]
      exact .p (.fn _ _ _ _ _ rfl rfl (by simp) (by simp))
    | succ i =>
      simp only [List.getElem?_cons_succ, List.getElem?_map, Option.map_eq_some_iff] at hp
      obtain ⟨q, hq, rfl⟩ := hp
      have : (#[Value.func (.yield G.l) #[] #[]] ++ vs)[i + 1]? = vs[i]? := by
        rw [Array.getElem?_append_right (by simp)]; simp
      rw [this]
      exact .p (hrv i q hq)
  · intro s F' μ' w' ts hK _ _ h3 _ _ hj'
    refine ⟨[], by simp, _, F', μ', rfl, ?_⟩
    have : s.yk = _ := hK
    rw [← this]; exact hj' hit
end
end Go.Sg
namespace Go.Sg
open Go
variable {σ : Heap} {Z : Nat → Prop} {ρ : Nat → Option Nat}
theorem VLe.pe {p q : PV} (h : p = q) : VLe σ Z ρ (.p p) (.p q) := by subst h; exact VLe.refl _
theorem VLe.rsl {o o' sz i len : Nat} (h : ρ o' = some o) : VLe σ Z ρ (.rsl o sz i len) (.rsl o' sz i len) := fun F μ w v hz hv => by
  cases hv with
  | rsl _ _ _ _ _ hv => exact .rsl _ _ _ _ _ (VLe.msl h F μ w v hz hv)
theorem VLe.csl {o o' sz i len cap : Nat} (h : ρ o' = some o) : VLe σ Z ρ (.csl o sz i len cap) (.csl o' sz i len cap) := fun F μ w v hz hv => by
  cases hv with
  | csl _ _ _ _ _ _ hv => exact .csl _ _ _ _ _ _ (VLe.rsl h F μ w _ hz hv)
theorem VLe.cslr {o o' sz i len cap : Nat} (h : ρ o' = some o) : VLe σ Z ρ (.csl o sz i len cap) (.rsl o' sz i len) := fun F μ w v hz hv => by
  cases hv with
  | csl _ _ _ _ _ _ hv => exact VLe.rsl h F μ w _ hz hv
theorem VLe.eptr {o o' sz i j : Nat} (h : ρ o' = some o) : VLe σ Z ρ (.eptr o sz i j) (.eptr o' sz i j) := fun F μ w v hz hv => by
  cases hv with
  | eptr _ _ _ _ _ hv => exact .eptr _ _ _ _ _ (VLe.ptr h F μ w v hz hv)
theorem OLe.row (sz : Nat) (l : List PV) : OLe σ Z ρ (.row sz l) (.row sz l) := fun F μ w b hz hr => by
  obtain ⟨hok, cur, t, h1, h2, h3⟩ := hr
  exact ⟨hok, cur, t, h1, h2, fun i c hc => by
    have h4 := h3 i c hc
    have : ∃ q, c = .p q := by
      have := List.mem_of_getElem? hc
      simp only [rowC, List.mem_map] at this
      obtain ⟨q, _, rfl⟩ := this
      exact ⟨q, rfl⟩
    obtain ⟨q, rfl⟩ := this
    exact VLe.refl q F μ w _ hz h4⟩
theorem OLe.rowe2 {sz sz' : Nat} {l l' : List PV} (h : sz = sz') (k : l = l') : OLe σ Z ρ (.row sz l) (.row sz' l') := by subst h; subst k; exact OLe.row sz l
theorem OLe.mape {kt kt' : KT} {m m' : List (PV × PV)} (h : kt = kt') (k : m = m') : OLe σ Z ρ (.map kt m) (.map kt' m') := by
  subst h; subst k
  intro F μ w b hz hr
  obtain ⟨h0, es, clock, h1, h2, h3, h4⟩ := hr
  exact ⟨h0, es, clock, h1, h2, h3, fun i k v hi => let ⟨e, q1, q2, q3⟩ := h4 i k v hi; ⟨e, q1, q2.mono (fun b hb => .inl hb) (fun _ _ => rfl), q3.mono (fun b hb => .inl hb) (fun _ _ => rfl)⟩⟩
theorem OLe.itere {m m' : List (PV × PV)} {c c' : Option (PV × PV)} (h : m = m') (k : c = c') : OLe σ Z ρ (.iter m c) (.iter m' c') := by
  subst h; subst k
  intro F μ w b hz hr
  exact IterOk.mono hr (fun _ h => .inl h) (fun _ _ => rfl) rfl
theorem OLe.chane {c c' : Nat} {m m' : List PV} (h : c = c') (k : m = m') : OLe σ Z ρ (.chan c m) (.chan c' m') := by
  subst h; subst k
  intro F μ w b hz hr
  obtain ⟨bs, x, y, h1, h2, h3⟩ := hr
  exact ⟨bs, x, y, h1, h2, fun i c hc => (h3 i c hc).mono (fun _ h => .inl h) (fun _ _ => rfl)⟩
def hM (q : List (PV × List PV)) : List (PV × MV) := q.map fun x => (x.1, .h x.2)
theorem exHM (q : List (PV × List PV)) : ∃ q', hM q = hM q' := ⟨q, rfl⟩
theorem hM_get {q : List (PV × List PV)} {i : Nat} {k : PV} {x : MV} (h : (hM q)[i]? = some (k, x)) : ∃ l, x = .h l ∧ q[i]? = some (k, l) := by
  unfold hM at h
  rw [List.getElem?_map] at h
  obtain ⟨⟨k', l⟩, h1, h2⟩ := Option.map_eq_some_iff.1 h
  injection h2 with e1 e2; subst e1; subst e2
  exact ⟨l, rfl, h1⟩
theorem OLe.mapSe {kt kt' : KT} {sz sz' : Nat} {m : List (PV × MV)} {q : List (PV × List PV)} (h : kt = kt') (h' : sz = sz') (k : m = hM q) : OLe σ Z ρ (.mapS kt sz m) (.mapS kt' sz' (hM q)) := by
  subst h; subst h'; subst k
  intro F μ w b hz hr
  obtain ⟨h0, es, clock, h1, h2, h3, c, h4, h5⟩ := hr
  refine ⟨h0, es, clock, h1, h2, h3, c, fun i k x hx => ?_, h5⟩
  obtain ⟨e, a, d, g⟩ := h4 i k x hx
  obtain ⟨l, rfl, _⟩ := hM_get hx
  exact ⟨e, a, d.mono (fun _ h => .inl h) (fun _ _ => rfl), g.1, g.2.mono (fun _ h => .inl h) (fun _ _ => rfl) rfl⟩
theorem OLe.mapS0 {kt kt' : KT} {sz : Nat} (h : kt = kt') : OLe σ Z ρ (.map kt []) (.mapS kt' sz (hM [])) := by
  subst h
  intro F μ w b hz hr
  obtain ⟨h0, es, clock, h1, h2, h3, h4⟩ := hr
  exact ⟨by simp [hM], es, clock, h1, h2, h3, fun _ => 0, fun i k x hx => by simp [hM] at hx, fun i j k k' l l' hi => by simp [hM] at hi⟩
theorem VLe.rsle {o o' sz i len sz' i' len' : Nat} (h : ρ o' = some o) (h1 : sz = sz') (h2 : i = i') (h3 : len = len') : VLe σ Z ρ (.rsl o sz i len) (.rsl o' sz' i' len') := by subst h1; subst h2; subst h3; exact VLe.rsl h
theorem HpLe.mk {σ' : Heap} {o o' : Nat} {x y : AObj} (h1 : ρ o' = some o) (h2 : ¬ Z o) (h3 : σ.get o = y) (h4 : y ≠ .dead) (h5 : OLe σ Z ρ y x) (h6 : HpLe σ Z ρ σ') : HpLe σ Z ρ ((o', x) :: σ') :=
  ⟨.inr ⟨o, h1, h2, by rw [h3]; exact h4, by rw [h3]; exact h5⟩, h6⟩
theorem HpLe.dd {σ' : Heap} {o' : Nat} (h6 : HpLe σ Z ρ σ') : HpLe σ Z ρ ((o', .dead) :: σ') := ⟨.inl rfl, h6⟩
theorem VLe.frzR {o sz i len : Nat} {l : List PV} {q : PV} (ho : Z o) (hc : σ.get o = .row sz l) (h0 : 0 < sz) (hl : i + len ≤ l.length) (hq : .sl sz false ((l.drop i).take len) = q) : VLe σ Z ρ (.rsl o sz i len) (.p q) := by
  subst hq; exact VLe.frz (Frz.rsl ho hc h0 hl)
theorem VLe.frzC {o sz i len cap : Nat} {l : List PV} {q : PV} (ho : Z o) (hc : σ.get o = .row sz l) (h0 : 0 < sz) (hl : i + len ≤ l.length) (hq : .sl sz false ((l.drop i).take len) = q) : VLe σ Z ρ (.csl o sz i len cap) (.p q) := by
  subst hq; exact VLe.frz (Frz.csl ho hc h0 hl)
theorem VLe.csl0 {o sz i : Nat} {c : Bool} : VLe σ Z ρ (.csl o sz i 0 0) (.p (.sl sz c [])) := fun F μ w v hz hv => by
  cases hv with
  | csl _ _ _ _ _ base hv => exact .p (.esl _ 0 _ _ (Nat.zero_le _) (fun _ => rfl) (fun _ => rfl))
theorem chan_ne {c : Nat} {l : List PV} : AObj.chan c l ≠ .dead := fun h => AObj.noConfusion h
theorem mapS_ne {k : KT} {c : Nat} {l : List (PV × MV)} : AObj.mapS k c l ≠ .dead := fun h => AObj.noConfusion h
theorem row_ne {s : Nat} {l : List PV} : AObj.row s l ≠ .dead := fun h => AObj.noConfusion h
theorem cells_ne {l : List AV} : AObj.cells l ≠ .dead := fun h => AObj.noConfusion h
theorem map_ne {k : KT} {m : List (PV × PV)} : AObj.map k m ≠ .dead := fun h => AObj.noConfusion h
theorem iter_ne {m : List (PV × PV)} {c : Option (PV × PV)} : AObj.iter m c ≠ .dead := fun h => AObj.noConfusion h
theorem alln_nil {Q : Nat → Prop} : ∀ o ∈ ([] : List Nat), Q o := fun _ h => nomatch h
theorem alln_cons {Q : Nat → Prop} {a : Nat} {l : List Nat} (h : Q a) (k : ∀ o ∈ l, Q o) : ∀ o ∈ a :: l, Q o := fun o ho => by
  rcases List.mem_cons.1 ho with e | e
  · rw [e]; exact h
  · exact k o e
theorem ix_map {α : Type} {f : α → PV} {l : List α} {n : Nat} {K : PV → Prop} (h : ∀ x, l[n]? = some x → K (f x)) : ∀ p, (l.map f)[n]? = some p → K p := fun p hp => by
  rw [List.getElem?_map] at hp
  obtain ⟨x, hx, rfl⟩ := Option.map_eq_some_iff.1 hp
  exact h x hx
theorem onesOf {l : List AV} (h : l.all AV.one = true) : ∀ c ∈ l, c.one = true := fun c hc => List.all_eq_true.1 h c hc
theorem nilc {α : Type} {l : List α} {neg : Bool} {K : Bool → Prop} (h2 : l = [] → K (!neg)) (h1 : K neg) : ∀ b : Bool, (l ≠ [] → b = neg) → K b := fun b hb => by
  by_cases h : l = []
  · cases b <;> cases neg <;> first | exact h1 | exact h2 h
  · rw [hb h]; exact h1
theorem noMem {α : Type} {Q : α → Prop} : ∀ v ∈ ([] : List α), Q v := fun _ h => nomatch h
theorem onesOfP {l : List PV} (h : l.all PV.one = true) : ∀ c ∈ l, c.one = true := fun c hc => List.all_eq_true.1 h c hc
theorem okAll {sz : Nat} {l : List PV} (h : l.all (fun p => Nat.beq p.cells.length sz && p.cells.all PV.one) = true) : ∀ v ∈ l, okE sz v := fun v hv => by
  have := List.all_eq_true.1 h v hv
  simp only [Bool.and_eq_true] at this
  exact ⟨Nat.eq_of_beq_eq_true this.1, onesOfP this.2⟩
theorem okMap {α : Type} {sz : Nat} {f : α → PV} {l : List α} (h : ∀ x, okE sz (f x)) : ∀ v ∈ l.map f, okE sz v := fun v hv => by
  obtain ⟨x, _, rfl⟩ := List.mem_map.1 hv
  exact h x
theorem imp0 {n : Nat} {A : Prop} (h : 0 < n → A) : 0 < n → A := h
theorem nonz {n : Nat} {A : Prop} : n + 1 = 0 → A := fun h => nomatch h
theorem ix_lit {l : List PV} {n : Nat} {a : PV} {K : PV → Prop} (h : l[n]? = some a) (k : K a) : ∀ p, l[n]? = some p → K p := fun p hp => by
  rw [h] at hp; injection hp with hp; subst hp; exact k
theorem exU8 {b : List Int} {K : List Int → Prop} (h : K b) : ∃ q, u8s (b.map (PV.int .u8)) = some q ∧ K q := ⟨b, u8s_map b, h⟩
end Go.Sg
namespace Go.Sg
open Go
mutual
def kV (R : Nat → Bool) : AV → Bool
  | .any => true
  | .p _ => true
  | .ptr o _ => R o
  | .msl o _ _ _ => R o
  | .rsl o _ _ _ => R o
  | .csl o _ _ _ _ => R o
  | .eptr o _ _ _ => R o
  | .mp o => R o
  | .ch o => R o
  | .agg l => kL R l
  | .tup l => kL R l
  | .fn _ a b => (match kL R a with | true => kL R b | false => false)
def kL (R : Nat → Bool) : List AV → Bool
  | [] => true
  | a :: l => (match kV R a with | true => kL R l | false => false)
end
section
variable {σ : Heap} {Z : Nat → Prop} {ρ : Nat → Option Nat} {R : Nat → Bool}
mutual
theorem keepV (hR : ∀ o, R o = true → ρ o = some o) : ∀ v, kV R v = true → VLe σ Z ρ v v
  | .any, _ => VLe.any _
  | .p q, _ => VLe.refl q
  | .ptr o off, h => VLe.ptr (hR o h)
  | .msl o _ _ _, h => VLe.msl (hR o h)
  | .rsl o _ _ _, h => VLe.rsl (hR o h)
  | .csl o _ _ _ _, h => VLe.csl (hR o h)
  | .eptr o _ _ _, h => VLe.eptr (hR o h)
  | .mp o, h => VLe.mp (hR o h)
  | .ch o, h => VLe.ch (hR o h)
  | .agg l, h => VLe.agg (keepLs hR l h)
  | .tup l, h => VLe.tup (keepLs hR l h)
  | .fn f a b, h => by
    simp only [kV] at h
    split at h
    · rename_i ha; exact VLe.fn (keepLs hR a ha) (keepLs hR b h)
    · cases h
theorem keepLs (hR : ∀ o, R o = true → ρ o = some o) : ∀ l, kL R l = true → VLeL σ Z ρ l l
  | [], _ => .nil
  | a :: l, h => by
    simp only [kL] at h
    split at h
    · rename_i ha; exact .cons (keepV hR a ha) (keepLs hR l h)
    · cases h
end
end
def aliveB : AObj → Bool
  | .dead => false
  | _ => true
theorem aliveB_ne {x : AObj} (h : aliveB x = true) : x ≠ .dead := fun e => by subst e; cases h
def memB : Nat → List Nat → Bool
  | _, [] => false
  | o, x :: l => (match Nat.beq o x with | true => true | false => memB o l)
theorem memB_iff {o : Nat} : ∀ {l : List Nat}, memB o l = true → o ∈ l
  | x :: l, h => by
    simp only [memB] at h
    split at h
    · rename_i e; rw [Nat.eq_of_beq_eq_true e]; simp
    · simp [memB_iff h]
theorem memB_not {o : Nat} : ∀ {l : List Nat}, memB o l = false → o ∉ l
  | [], _ => by simp
  | x :: l, h => by
    simp only [memB] at h
    split at h
    · cases h
    · rename_i e; simp only [List.mem_cons, not_or]; exact ⟨fun hx => by subst hx; simp at e, memB_not h⟩
def subB : List Nat → List Nat → Bool
  | [], _ => true
  | x :: l, Z => (match memB x Z with | true => subB l Z | false => false)
theorem subB_sub {Z : List Nat} : ∀ {l : List Nat}, subB l Z = true → ∀ o ∈ l, o ∈ Z
  | x :: l, h, o, ho => by
    simp only [subB] at h
    split at h
    · rename_i e
      rcases List.mem_cons.1 ho with ho | ho
      · subst ho; exact memB_iff e
      · exact subB_sub h o ho
    · cases h
def keepB (σ : Heap) (Z : List Nat) (o : Nat) : Bool := match memB o Z with | true => false | false => aliveB (σ.get o)
theorem keepB_spec {σ : Heap} {Z : List Nat} {o : Nat} (h : keepB σ Z o = true) : o ∉ Z ∧ σ.get o ≠ .dead := by
  unfold keepB at h
  split at h
  · cases h
  · rename_i e; exact ⟨memB_not e, aliveB_ne h⟩
def deadV (σ : Heap) : AV → Bool
  | .ptr o _ => !aliveB (σ.get o)
  | .msl o _ _ _ => !aliveB (σ.get o)
  | .rsl o _ _ _ => !aliveB (σ.get o)
  | .csl o _ _ _ _ => !aliveB (σ.get o)
  | .eptr o _ _ _ => !aliveB (σ.get o)
  | .mp o => !aliveB (σ.get o)
  | .ch o => !aliveB (σ.get o)
  | _ => false
def fzE (σ : Heap) (Z : List Nat) (v : AV) (K : AV → Prop) : Prop :=
  match kV (keepB σ Z) v with
  | true => K v
  | false => (match deadV σ v with
    | true => K .any
    | false => fzV σ 60 v [] fun p Z' => subB Z' Z = true ∧ K (.p p))
def fzEs (σ : Heap) (Z : List Nat) : List AV → (List AV → Prop) → Prop
  | [], K => K []
  | v :: l, K => fzE σ Z v fun v => frc v fun v => fzEs σ Z l fun l => K (v :: l)
def fzEnv (σ : Heap) (Z : List Nat) : List Nat → Env → (Env → Prop) → Prop
  | [], _, K => K []
  | t :: V, env, K => frc (env.get t) fun v => fzE σ Z v fun v => (match v with | .any => fzEnv σ Z V env K | v => fzEnv σ Z V env fun e => K ((t, v) :: e))
def fzHp (σ : Heap) (Z : List Nat) : Heap → List Nat → (Heap → Prop) → Prop
  | [], _, K => K []
  | (o, _) :: r, S, K => (match memB o S with
    | true => fzHp σ Z r S K
    | false => (match keepB σ Z o with
      | false => fzHp σ Z r (o :: S) K
      | true => (match σ.get o with
        | .cells cs => fzEs σ Z cs fun cs' => fzHp σ Z r (o :: S) fun h => K ((o, .cells cs') :: h)
        | .row sz l => fzHp σ Z r (o :: S) fun h => K ((o, .row sz l) :: h)
        | .map kt m => fzHp σ Z r (o :: S) fun h => K ((o, .map kt m) :: h)
        | .chan c m => fzHp σ Z r (o :: S) fun h => K ((o, .chan c m) :: h)
        | .mapS kt sz m => (∃ q, m = hM q) ∧ fzHp σ Z r (o :: S) fun h => K ((o, .mapS kt sz m) :: h)
        | _ => fzHp σ Z r (o :: S) K)))
def fzT (env : Env) (σ : Heap) : List (Nat × Bool) → List Nat → (List Nat → Prop) → Prop
  | [], Z, K => K Z
  | (t, false) :: T, Z, K => fzV σ 60 (env.get t) Z fun _ Z => fzT env σ T Z K
  | (t, true) :: T, Z, K => (match env.get t with
    | .ptr o _ => (match σ.get o with
      | .cells cs => fzL σ 60 cs Z fun _ Z => fzT env σ T Z K
      | _ => False)
    | _ => False)
section
variable {σ : Heap} {env : Env} {Z : List Nat}
def VK (σ : Heap) (Z : List Nat) (a a' : AV) : Prop := ∀ ρ : Nat → Option Nat, (∀ o, keepB σ Z o = true → ρ o = some o) → VLe σ (· ∈ Z) ρ a a'
theorem fzE_spec {v : AV} {K : AV → Prop} (h : fzE σ Z v K) : ∃ v', K v' ∧ VK σ Z v v' := by
  unfold fzE at h
  split at h
  · rename_i e; exact ⟨v, h, fun ρ hρ => keepV hρ v e⟩
  · split at h
    · exact ⟨_, h, fun ρ _ => VLe.any _⟩
    · obtain ⟨p, Z', ⟨h1, h2⟩, _, _, h3⟩ := (fz_both 60).1 v [] _ (by simp [liveZ]) h
      exact ⟨_, h2, fun ρ _ => VLe.frz (h3.monoZ (subB_sub h1))⟩
theorem fzEs_spec : ∀ {l : List AV} {K : List AV → Prop}, fzEs σ Z l K → ∃ l', K l' ∧ ∀ ρ : Nat → Option Nat, (∀ o, keepB σ Z o = true → ρ o = some o) → VLeL σ (· ∈ Z) ρ l l'
  | [], K, h => ⟨[], h, fun _ _ => .nil⟩
  | v :: l, K, h => by
    simp only [fzEs, frc_eq] at h
    obtain ⟨v', h1, h2⟩ := fzE_spec h
    obtain ⟨l', h3, h4⟩ := fzEs_spec h1
    exact ⟨_, h3, fun ρ hρ => .cons (h2 ρ hρ) (h4 ρ hρ)⟩
theorem fzEnv_spec : ∀ {V : List Nat} {K : Env → Prop}, fzEnv σ Z V env K → ∃ env', K env' ∧ ∀ ρ : Nat → Option Nat, (∀ o, keepB σ Z o = true → ρ o = some o) → EnvLe σ (· ∈ Z) ρ env env'
  | [], K, h => ⟨[], h, fun _ _ => trivial⟩
  | t :: V, K, h => by
    simp only [fzEnv, frc_eq] at h
    obtain ⟨v', h1, h2⟩ := fzE_spec h
    split at h1
    · exact fzEnv_spec h1
    · obtain ⟨e, h3, h4⟩ := fzEnv_spec h1
      exact ⟨_, h3, fun ρ hρ => ⟨h2 ρ hρ, h4 ρ hρ⟩⟩
theorem fzHp_spec : ∀ {h : Heap} {S : List Nat} {K : Heap → Prop}, fzHp σ Z h S K → ∃ h', K h' ∧ ∀ ρ : Nat → Option Nat, (∀ o, keepB σ Z o = true → ρ o = some o) → HpLe σ (· ∈ Z) ρ h'
  | [], S, K, h => ⟨[], h, fun _ _ => trivial⟩
  | (o, x) :: r, S, K, h => by
    simp only [fzHp] at h
    split at h
    · exact fzHp_spec h
    · split at h
      · exact fzHp_spec h
      · rename_i hk
        obtain ⟨k1, k2⟩ := keepB_spec hk
        split at h
        · rename_i cs hc
          obtain ⟨cs', h1, h2⟩ := fzEs_spec h
          obtain ⟨h', h3, h4⟩ := fzHp_spec h1
          exact ⟨_, h3, fun ρ hρ => HpLe.mk (hρ o hk) k1 hc (by simp) (h2 ρ hρ) (h4 ρ hρ)⟩
        · rename_i sz l hc
          obtain ⟨h', h3, h4⟩ := fzHp_spec h
          exact ⟨_, h3, fun ρ hρ => HpLe.mk (hρ o hk) k1 hc (by simp) (OLe.row sz l) (h4 ρ hρ)⟩
        · rename_i kt m hc
          obtain ⟨h', h3, h4⟩ := fzHp_spec h
          exact ⟨_, h3, fun ρ hρ => HpLe.mk (hρ o hk) k1 hc (by simp) (OLe.mape rfl rfl) (h4 ρ hρ)⟩
        · rename_i cp m hc
          obtain ⟨h', h3, h4⟩ := fzHp_spec h
          exact ⟨_, h3, fun ρ hρ => HpLe.mk (hρ o hk) k1 hc (by simp) (OLe.chane rfl rfl) (h4 ρ hρ)⟩
        · rename_i kt sz m hc
          obtain ⟨⟨q, hq⟩, h⟩ := h
          obtain ⟨h', h3, h4⟩ := fzHp_spec h
          subst hq
          exact ⟨_, h3, fun ρ hρ => HpLe.mk (hρ o hk) k1 hc (by simp) (OLe.mapSe rfl rfl rfl) (h4 ρ hρ)⟩
        · exact fzHp_spec h
theorem fzT_spec : ∀ {T : List (Nat × Bool)} {Z : List Nat} {K : List Nat → Prop}, liveZ σ Z → fzT env σ T Z K → ∃ Z', K Z'
  | [], Z, K, _, h => ⟨Z, h⟩
  | (t, false) :: T, Z, K, hZ, h => by
    simp only [fzT] at h
    obtain ⟨p, Z', h1, _, h2, _⟩ := (fz_both 60).1 _ _ _ hZ h
    exact fzT_spec h2 h1
  | (t, true) :: T, Z, K, hZ, h => by
    simp only [fzT] at h
    split at h
    · split at h
      · obtain ⟨p, Z', h1, _, h2, _⟩ := (fz_both 60).2 _ _ _ hZ h
        exact fzT_spec h2 h1
      · exact h.elim
    · exact h.elim
theorem rget_diag {o : Nat} : ∀ (L : List Nat), o ∈ L → rget (L.map fun o => (o, o)) o = some o
  | x :: l, h => by
    by_cases e : x = o
    · subst e; simp [rget]
    · have := rget_diag l (by simpa [Ne.symm e] using h)
      simp only [rget, List.map_cons] at this ⊢
      rw [List.find?_cons_of_neg (by simpa using e)]; exact this
theorem Ent.fz {P : Program} {C : Cx P} {V : List Nat} {hp : Heap} {nx yk : Nat} {Q : St → Prop} (T : List (Nat × Bool))
    (h : fzT env hp T [] fun Z => fzEnv hp Z V env fun env' => fzHp hp Z hp [] fun hp' => C.kp.all (keepB hp Z) = true ∧ Q ⟨env', hp', nx, yk⟩) : ∃ s', Ent C ⟨env, hp, nx, yk⟩ s' ∧ Q s' := by
  obtain ⟨Z, h⟩ := fzT_spec (by simp [liveZ]) h
  obtain ⟨env', h, h1⟩ := fzEnv_spec h
  obtain ⟨hp', ⟨hkp, h⟩, h2⟩ := fzHp_spec h
  refine ⟨_, fun d0 F μ a w hs => ?_, h⟩
  have hρ : ∀ o, keepB hp Z o = true → rget (((List.range nx).filter (keepB hp Z)).map fun o => (o, o)) o = some o := fun o ho => by
    refine rget_diag _ (List.mem_filter.2 ⟨List.mem_range.2 ?_, ho⟩)
    obtain ⟨b, hb⟩ := hs.h.block rfl (keepB_spec ho).2
    refine Nat.lt_of_not_le fun hle => ?_
    have := hs.fresh o hle
    rw [this] at hb; cases hb
  refine Ent.of (s := ⟨env, hp, nx, yk⟩) (s' := ⟨env', hp', nx, yk⟩) Z _ (h1 _ hρ) (h2 _ hρ) ?_ ?_ ?_ rfl d0 F μ a w hs
  · simp only [List.map_map]
    have : ((fun o : Nat × Nat => o.2) ∘ fun o => (o, o)) = id := rfl
    show (((List.range nx).filter (keepB hp Z)).map (Prod.snd ∘ fun o => (o, o))).Nodup
    rw [show (Prod.snd ∘ fun o : Nat => (o, o)) = id from rfl, List.map_id]
    exact List.Nodup.sublist List.filter_sublist List.nodup_range
  · intro x hx
    obtain ⟨o, ho, rfl⟩ := List.mem_map.1 hx
    exact List.mem_range.1 (List.mem_filter.1 ho).1
  · intro o ho
    exact hρ o (List.all_eq_true.1 hkp o ho)
theorem Sq.fz {P : Program} {C : Cx P} {V : List Nat} {id : Nat} {hp : Heap} {nx yk : Nat} {Q : St → Prop} (T : List (Nat × Bool))
    (h : fzT env hp T [] fun Z => fzEnv hp Z V env fun env' => fzHp hp Z hp [] fun hp' => C.kp.all (keepB hp Z) = true ∧ Q ⟨env', hp', nx, yk⟩) : Sq C V id Q ⟨env, hp, nx, yk⟩ :=
  ⟨Ent.fz T h⟩
end
end Go.Sg
namespace Go.Sg
open Go
def numsV : AV → List Nat
  | .any => []
  | .p _ => []
  | .ptr o _ => [o]
  | .msl o _ _ _ => [o]
  | .rsl o _ _ _ => [o]
  | .csl o _ _ _ _ => [o]
  | .eptr o _ _ _ => [o]
  | .mp o => [o]
  | .ch o => [o]
  | .agg l => numsL l
  | .tup l => numsL l
  | .fn _ a b => numsL a ++ numsL b
where numsL : List AV → List Nat
  | [] => []
  | a :: l => numsV a ++ numsL l
theorem numsL_mem {o : Nat} : ∀ {l : List AV} {a : AV}, a ∈ l → o ∈ numsV a → o ∈ numsV.numsL l
  | _ :: _, _, h, ho => by
    rw [numsV.numsL]
    rcases List.mem_cons.1 h with h | h
    · subst h; exact List.mem_append.2 (.inl ho)
    · exact List.mem_append.2 (.inr (numsL_mem h ho))
theorem RV.keep {F F' : Nat → Prop} {μ μ' : Num} {w w' : World} (hF : ∀ b, F b → F' b) (hw : ∀ b, F b → w'.heap[b]? = w.heap[b]?) (hsh : ∀ b x, w.shape? b = some x → w'.shape? b = some x) {v : Value} {x : AV} (h : RV F μ w v x) : (∀ o ∈ numsV x, ∀ b, μ o = some b → μ' o = some b) → RV F' μ' w' v x := by
  induction h with
  | any v => intro _; exact .any v
  | p h => intro _; exact .p (h.mono hF hw)
  | agg cs l h1 _ ih => intro hn; exact .agg cs l h1 fun i p hp => ih i p hp fun o ho => hn o (by rw [numsV]; exact numsL_mem (List.mem_of_getElem? hp) ho)
  | tup cs l h1 _ ih => intro hn; exact .tup cs l h1 fun i p hp => ih i p hp fun o ho => hn o (by rw [numsV]; exact numsL_mem (List.mem_of_getElem? hp) ho)
  | fn f as bs ls ms h1 h2 _ _ ih1 ih2 =>
    intro hn
    exact .fn f as bs ls ms h1 h2 (fun i p hp => ih1 i p hp fun o ho => hn o (by rw [numsV]; exact List.mem_append.2 (.inl (numsL_mem (List.mem_of_getElem? hp) ho))))
      (fun i p hp => ih2 i p hp fun o ho => hn o (by rw [numsV]; exact List.mem_append.2 (.inr (numsL_mem (List.mem_of_getElem? hp) ho))))
  | ptr o off b hb => intro hn; exact .ptr o off b (hn o (by simp [numsV]) b hb)
  | msl o sz off off' len cap b t n hm h0 h1 h2 h3 h4 => intro hn; exact .msl o sz off off' len cap b t n (hn o (by simp [numsV]) b hm) h0 (hsh _ _ h1) h2 h3 h4
  | rsl o sz i len v h ih => intro hn; exact .rsl _ _ _ _ _ (ih fun x hx => hn x (by simpa [numsV] using hx))
  | csl o sz i len cap base h ih => intro hn; exact .csl _ _ _ _ _ _ (ih fun x hx => hn x (by simpa [numsV] using hx))
  | eptr o sz i j v h ih => intro hn; exact .eptr _ _ _ _ _ (ih fun x hx => hn x (by simpa [numsV] using hx))
  | mp o b hb => intro hn; exact .mp o b (hn o (by simp [numsV]) b hb)
  | ch o b hb => intro hn; exact .ch o b (hn o (by simp [numsV]) b hb)
structure RC (nk : List Nat) (d0 : D0) (F0 : Nat → Prop) (μ0 : Num) (w0 : World) (tmps : Array Value) (env : Env) (ms : List Nat) (l : Nat) (F : Nat → Prop) (μ : Num) (hp : Heap) (nx : Nat) (W : World) : Prop where
  h : SimH F μ hp W
  fresh : ∀ o, nx ≤ o → μ o = none
  env : ∀ t, RV F μ W (tmps[t]?.getD undef) (env.get t)
  mks : ∀ r ∈ ms, W.heap[r]? = some (.deferred (some [])) ∧ ¬ F r ∧ ¬ μ.has r ∧ d0.b0 ≤ r
  rd : Rd F μ W d0
  base : Base F0 μ0 w0 F μ W
  kp : Kp nk μ0 μ
  rl : ¬ F l ∧ ¬ μ.has l ∧ w0.heap.size ≤ l
  rlo : ∀ l0, d0.ro = some l0 → l0 < w0.heap.size
section
variable {P : Program} {nk : List Nat} {d0 : D0} {F0 : Nat → Prop} {μ0 : Num} {w0 : World} {tmps : Array Value} {env : Env} {ms : List Nat} {l : Nat} {F : Nat → Prop} {μ : Num} {hp : Heap} {nx : Nat} {W W' : World}
theorem RC.world (h : RC nk d0 F0 μ0 w0 tmps env ms l F μ hp nx W) {Pb : Nat → Prop} (hos : W'.os = W.os) (htp : W'.tape = W.tape) (hou : W'.output = W.output) (hz : W.heap.size ≤ W'.heap.size)
    (hs : ∀ b, b < W.heap.size → ¬ Pb b → W'.heap[b]? = W.heap[b]?) (hP : ∀ b, Pb b → ¬ F b ∧ ¬ μ.has b ∧ b ∉ ms ∧ w0.heap.size ≤ b) : RC nk d0 F0 μ0 w0 tmps env ms l F μ hp nx W' := by
  have hsame : ∀ b, F b ∨ μ.has b → W'.heap[b]? = W.heap[b]? := fun b hb => hs b (hb.elim (h.h.fb b) (h.h.mb b)) fun hp' => by
    obtain ⟨h1, h2, _⟩ := hP b hp'
    exact hb.elim h1 h2
  have hlow : ∀ b, b < w0.heap.size → W'.heap[b]? = W.heap[b]? := fun b hb => hs b (Nat.lt_of_lt_of_le hb h.base.size) fun hp' => by
    have := (hP b hp').2.2.2; omega
  refine ⟨h.h.same hz hsame, h.fresh, fun t => (h.env t).same hsame, fun r hr => ?_, fun l0 hl0 => ?_, ?_, h.kp, h.rl, h.rlo⟩
  · obtain ⟨h1, h2, h3, h4⟩ := h.mks r hr
    exact ⟨(hs r (lt_of_get h1) fun hp' => (hP r hp').2.2.1 hr).trans h1, h2, h3, h4⟩
  · obtain ⟨r, h1, h2⟩ := h.rd l0 hl0
    exact ⟨r, (hlow l0 (h.rlo l0 hl0)).trans h1, h2⟩
  · have hb := h.base
    exact ⟨hos.trans hb.os, htp.trans hb.tape, hou.trans hb.output, Nat.le_trans hb.size hz, fun b hf => (hsame b (.inl (hb.sub b hf))).trans (hb.fr b hf), fun b hlt hn => (hlow b hlt).trans (hb.old b hlt hn),
      fun b x hx => by
        have hlt : b < w0.heap.size := by
          unfold World.shape? at hx
          split at hx
          · rename_i hg; exact lt_of_get hg
          · cases hx
        exact (shape_same (hlow b hlt)).trans (hb.shape b x hx),
      hb.sub, hb.fnew, hb.mnew⟩
theorem RC.step (h : RC nk d0 F0 μ0 w0 tmps env ms l F μ hp nx W) (hen : ∀ t, ∀ o ∈ numsV (env.get t), o ∈ nk) {F' : Nat → Prop} {μ' : Num} {hp' : Heap} {nx' : Nat} (hl : l < W.heap.size) (b : Base F μ W F' μ' W') (k : Kp nk μ μ') (hh : SimH F' μ' hp' W') (hf : ∀ o, nx' ≤ o → μ' o = none) :
    RC nk d0 F0 μ0 w0 tmps env ms l F' μ' hp' nx' W' := by
  refine ⟨hh, hf, fun t => (h.env t).keep b.sub b.fr b.shape fun o ho b' hb' => k o (hen t o ho) b' hb', fun r hr => ?_, h.rd.base b, h.base.trans b, h.kp.trans k, ⟨fun hx => ?_, fun hx => ?_, h.rl.2.2⟩, h.rlo⟩
  · obtain ⟨h1, h2, h3, h4⟩ := h.mks r hr
    have hlt := lt_of_get h1
    refine ⟨(b.old r hlt h3).trans h1, fun hx => ?_, fun hx => ?_, h4⟩
    · rcases b.fnew r hx with h | h | h
      · exact h2 h
      · exact h3 h
      · omega
    · rcases b.mnew r hx with h | h
      · exact h3 h
      · omega
  · rcases b.fnew l hx with h' | h' | h'
    · exact h.rl.1 h'
    · exact h.rl.2.1 h'
    · omega
  · rcases b.mnew l hx with h' | h'
    · exact h.rl.2.1 h'
    · omega
structure Sp (F0 F : Nat → Prop) (μ : Num) (w0 : World) (ms : List Nat) (l : Nat) (Fg : Nat → Prop) (μg : Num) : Prop where
  s1 : ∀ b, μg.has b → ¬ Fg b → ¬ F b ∧ ¬ μ.has b ∧ b ≠ l ∧ b ∉ ms ∧ w0.heap.size ≤ b
  s2 : ∀ b, Fg b → b ≠ l ∧ b ∉ ms ∧ (F b ∨ ¬ μ.has b) ∧ (F0 b ∨ w0.heap.size ≤ b)
theorem RV.grow {F F' : Nat → Prop} {μ : Num} {w : World} {v : Value} {x : AV} (h : RV F μ w v x) (hF : ∀ b, F b → F' b) : RV F' μ w v x := h.keep hF (fun _ _ => rfl) (fun _ _ h => h) (fun _ _ _ h => h)
theorem RO.grow {F F' : Nat → Prop} {μ : Num} {w : World} {b : Nat} (hF : ∀ b, F b → F' b) : ∀ {x : AObj}, RO F μ w b x → RO F' μ w b x
  | .dead, h => h
  | .cells _, ⟨cur, t, h1, h2, h3⟩ => ⟨cur, t, h1, h2, fun i c hc => (h3 i c hc).grow hF⟩
  | .row _ _, ⟨h0, cur, t, h1, h2, h3⟩ => ⟨h0, cur, t, h1, h2, fun i c hc => (h3 i c hc).grow hF⟩
  | .map _ _, ⟨h0, es, clock, h1, h2, h3, h4⟩ => ⟨h0, es, clock, h1, h2, h3, fun i k v hkv => let ⟨e, g1, g2, g3⟩ := h4 i k v hkv; ⟨e, g1, g2.mono hF (fun _ _ => rfl), g3.mono hF (fun _ _ => rfl)⟩⟩
  | .chan _ _, ⟨bs, sent, recvd, h1, h2, h3⟩ => ⟨bs, sent, recvd, h1, h2, fun i c hc => (h3 i c hc).mono hF (fun _ _ => rfl)⟩
  | .iter _ _, h => IterOk.mono h hF (fun _ _ => rfl) rfl
  | .mapS _ _ _, ⟨h0, es, clock, h1, h2, h3, c, h4, h5⟩ => ⟨h0, es, clock, h1, h2, h3, c, fun i k x hx => by
      obtain ⟨e, a, d, g⟩ := h4 i k x hx
      refine ⟨e, a, d.mono hF (fun _ _ => rfl), ?_⟩
      cases x with
      | h l => exact ⟨g.1, g.2.mono hF (fun _ _ => rfl) rfl⟩
      | v av => exact RV.grow g hF, h5⟩
theorem RC.grow {F0 : Nat → Prop} {Fg : Nat → Prop} {μg : Num} (h : RC nk d0 F0 μ0 w0 tmps env ms l F μ hp nx W) (s : Sp F0 F μ w0 ms l Fg μg) (hFb : ∀ b, Fg b → b < W.heap.size) : RC nk d0 F0 μ0 w0 tmps env ms l (fun b => F b ∨ Fg b) μ hp nx W ∧ Sp F0 (fun b => F b ∨ Fg b) μ w0 ms l Fg μg := by
  refine ⟨⟨⟨fun b hb => hb.elim (h.h.fb b) (hFb b), h.h.mb, h.h.has, fun o b hb => (h.h.obj o b hb).grow fun _ => .inl, fun o b ho hb hF => ?_, h.h.inj, fun c x hc => ⟨fun hF => hF.elim (h.h.hd c x hc).1 fun hF => (s.s2 c hF).2.2.1.elim (h.h.hd c x hc).1 fun h1 => h1 (.inr ⟨x, hc⟩), (h.h.hd c x hc).2⟩, h.h.hu⟩, h.fresh, fun t => (h.env t).grow fun _ => .inl, fun r hr => ?_, fun l0 hl0 => ?_, ?_, h.kp, ⟨fun hx => ?_, h.rl.2⟩, h.rlo⟩, ⟨fun b hb hn => ?_, fun b hb => ?_⟩⟩
  · rcases hF with hF | hF
    · exact h.h.live o b ho hb hF
    · rcases (s.s2 b hF).2.2.1 with h1 | h1
      · exact h.h.live o b ho hb h1
      · exact h1 (.inl ⟨o, hb⟩)
  · obtain ⟨h1, h2, h3⟩ := h.mks r hr
    exact ⟨h1, fun hx => hx.elim h2 fun hx => (s.s2 r hx).2.1 hr, h3⟩
  · obtain ⟨r, h1, h2, h3⟩ := h.rd l0 hl0
    refine ⟨r, h1, fun hx => hx.elim h2 fun hx => ?_, h3⟩
    rcases (s.s2 l0 hx).2.2.2 with h4 | h4
    · exact h2 (h.base.sub l0 h4)
    · have := h.rlo l0 hl0; omega
  · have b := h.base
    refine ⟨b.os, b.tape, b.output, b.size, b.fr, b.old, b.shape, fun b' hb => .inl (b.sub b' hb), fun b' hb => ?_, b.mnew⟩
    rcases hb with hb | hb
    · exact b.fnew b' hb
    · rcases (s.s2 b' hb).2.2.2 with h4 | h4
      · exact .inl h4
      · exact .inr (.inr h4)
  · exact hx.elim h.rl.1 fun hx => (s.s2 l hx).1 rfl
  · obtain ⟨h1, h2⟩ := s.s1 b hb hn
    exact ⟨fun hx => hx.elim h1 hn, h2⟩
  · obtain ⟨h1, h2, _, h3⟩ := s.s2 b hb
    exact ⟨h1, h2, .inl (.inr hb), h3⟩
end
def putL : List (Nat × PV) → Env → Env
  | [], env => env
  | (t, p) :: r, env => putL r ((t, .p p) :: env)
theorem putL_rv {F : Nat → Prop} {μ : Num} {w : World} : ∀ (xs : List (Nat × Value)) (ps : List (Nat × PV)) (tmps : Array Value) (env : Env), xs.length = ps.length → (∀ (i : Nat) x p, xs[i]? = some x → ps[i]? = some p → x.1 = p.1 ∧ x.1 < tmps.size ∧ RP F w x.2 p.2) →
    (∀ t, RV F μ w (tmps[t]?.getD undef) (env.get t)) → (xs.foldl (fun tmps x => tmps.setIfInBounds x.1 x.2) tmps).size = tmps.size ∧ ∀ t, RV F μ w ((xs.foldl (fun tmps x => tmps.setIfInBounds x.1 x.2) tmps)[t]?.getD undef) ((putL ps env).get t)
  | [], [], tmps, env, _, _, h => ⟨rfl, h⟩
  | (t, v) :: xs, (t', p) :: ps, tmps, env, hl, hx, h => by
    obtain ⟨e, hlt, hr⟩ := hx 0 _ _ rfl rfl
    simp only at e hlt hr
    subst e
    have := putL_rv (F := F) (μ := μ) (w := w) xs ps (tmps.setIfInBounds t v) ((t, .p p) :: env) (by simpa using hl) (fun i x p hi hp => by
      have := hx (i + 1) x p (by simpa using hi) (by simpa using hp)
      simpa using this) (fun u => by
      simp only [Env.get]
      by_cases e : t = u
      · subst e; simp [hlt]; exact .p hr
      · rw [if_neg e, Array.getElem?_setIfInBounds, if_neg e]; exact h u)
    simpa [putL] using this
  | [], _ :: _, _, _, hl, _, _ => by simp at hl
  | _ :: _, [], _, _, hl, _, _ => by simp at hl
section
variable {P : Program} {N : Nat} {kp nk : List Nat} {d0 : D0} {F0 : Nat → Prop} {μ0 : Num} {w0 : World} {tmps : Array Value} {env : Env} {yk : Nat} {ms : List Nat} {l : Nat} {K : Kt} {m : Nat} {I : Nat → Heap × Nat} {rec : LoopState → Option Code → Loop}
def jumpOk (K : Kt) (env : Env) (yk : Nat) (c : Code) (hp : Heap) (nx : Nat) : Prop := (∃ j, c = .exit j ∧ K.e j ⟨env, hp, nx, yk⟩) ∨ (c = .ret ∧ K.r ⟨env, hp, nx, yk⟩)
def JJ (nk : List Nat) (d0 : D0) (F0 : Nat → Prop) (μ0 : Num) (w0 : World) (tmps : Array Value) (env : Env) (yk : Nat) (ms : List Nat) (l : Nat) (K : Kt) (m : Nat) (I : Nat → Heap × Nat) (rec : LoopState → Option Code → Loop) (k : Nat) (Fg : Nat → Prop) (μg : Num) (W : World) : Prop :=
  ∃ F μ hp nx st pe, RC nk d0 F0 μ0 w0 tmps env ms l F μ hp nx W ∧ Sp F0 F μ w0 ms l Fg μg ∧ W.heap[l]? = some (.loop (rec st pe)) ∧
    ((k ≤ m ∧ st = .ready ∧ pe = none ∧ I k = (hp, nx)) ∨ (k = m + 1 ∧ st = .done ∧ ∃ c, pe = some c ∧ jumpOk K env yk c hp nx))
theorem JJ.cl {k : Nat} {Fg Fg' : Nat → Prop} {μg μg' : Num} {W W' : World} (h : JJ nk d0 F0 μ0 w0 tmps env yk ms l K m I rec k Fg μg W) (b : Base Fg μg W Fg' μg' W') : JJ nk d0 F0 μ0 w0 tmps env yk ms l K m I rec k Fg' μg' W' := by
  obtain ⟨F, μ, hp, nx, st, pe, hr, hs, hl, hx⟩ := h
  have hlt := lt_of_get hl
  have hsame : ∀ b', b' < W.heap.size → ¬ (μg.has b' ∧ ¬ Fg b') → W'.heap[b']? = W.heap[b']? := fun b' h1 h2 => by
    by_cases hf : Fg b'
    · exact b.fr b' hf
    · exact b.old b' h1 fun h3 => h2 ⟨h3, hf⟩
  refine ⟨F, μ, hp, nx, st, pe, hr.world (Pb := fun b => μg.has b ∧ ¬ Fg b) b.os b.tape b.output b.size hsame (fun b' h1 => ?_), ⟨fun b' hb hn => ?_, fun b' hb => ?_⟩, (hsame l hlt fun h1 => (hs.s1 l h1.1 h1.2).2.2.1 rfl).trans hl, hx⟩
  · obtain ⟨h2, h3, _, h4, h5⟩ := hs.s1 b' h1.1 h1.2; exact ⟨h2, h3, h4, h5⟩
  · rcases b.mnew b' hb with h1 | h1
    · exact hs.s1 b' h1 fun h2 => hn (b.sub b' h2)
    · exact ⟨fun h2 => by have := hr.h.fb b' h2; omega, fun h2 => by have := hr.h.mb b' h2; omega, by omega, fun h2 => by have := lt_of_get (hr.mks b' h2).1; omega, Nat.le_trans hr.base.size h1⟩
  · rcases b.fnew b' hb with h1 | h1 | h1
    · exact hs.s2 b' h1
    · by_cases hf : Fg b'
      · exact hs.s2 b' hf
      · obtain ⟨h2, h3, h4, h5, h6⟩ := hs.s1 b' h1 hf; exact ⟨h4, h5, .inr h3, .inr h6⟩
    · exact ⟨by omega, fun h2 => by have := lt_of_get (hr.mks b' h2).1; omega, .inr fun h2 => by have := hr.h.mb b' h2; omega, .inr (Nat.le_trans hr.base.size h1)⟩
def rdK (C' : Cx P) (K : Kt) (env : Env) (yk m k : Nat) (I : Nat → Heap × Nat) : Kt where
  n := fun s' => k < m ∧ Ent C' s' ⟨[], (I (k + 1)).1, (I (k + 1)).2, s'.yk⟩
  e := fun j s' => k = m ∧ K.e j ⟨env, s'.hp, s'.nx, yk⟩
  r := fun s' => k = m ∧ K.r ⟨env, s'.hp, s'.nx, yk⟩
  p := fun _ _ => False
theorem JJ.yld (hm : P.follows .mixedOrders = true) {ps : Array Tmp} {assign body : Code} {fn : FuncId} {df : Nat} {xs : List (List PV)} (hen : ∀ t, ∀ o ∈ numsV (env.get t), o ∈ nk)
    (hrec : rec = fun st pe => { state := st, pending := pe, fn := fn, tmps := tmps, params := ps, assign := assign, body := body, defers := df }) (hN : tmps.size = N) (hpN : ∀ t ∈ ps.toList, t < N)
    (hok : okc N assign = true ∧ okc N body = true) (V : List Nat) (hxs : ∀ x ∈ xs, x.length = ps.size)
    (hround : ∀ k, k < xs.length → k ≤ m → aw ⟨N, Gam.no P, nk⟩ V assign ⟨putL (ps.toList.zip (xs.getD k [])) env, (I k).1, (I k).2, yk⟩
      ⟨fun s' => aw ⟨N, Gam.no P, nk⟩ V body s' (rdK ⟨N, Gam.no P, nk⟩ K env yk m k I), fun _ _ => False, fun _ => False, fun _ _ => False⟩)
    {k : Nat} {Fg : Nat → Prop} {μg : Num} {W : World} {vs : Array Value} (ro : Option Nat) (n : Nat) (h : JJ nk d0 F0 μ0 w0 tmps env yk ms l K m I rec k Fg μg W) (hFb : ∀ b, Fg b → b < W.heap.size) (hMb : ∀ b, μg.has b → b < W.heap.size)
    (hk : k < xs.length) (hkm : k ≤ m) (hvs : vs.size = (xs.getD k []).length) (hrp : ∀ (i : Nat) p, (xs.getD k [])[i]? = some p → RP Fg W (vs[i]?.getD undef) p) :
    YieldAt (fc ro) n P l vs W fun e w' => e = .returned (.bool (decide (k ≠ m))) ∧ JJ nk d0 F0 μ0 w0 tmps env yk ms l K m I rec (k + 1) Fg μg w' ∧ KeepY Fg μg W w' := by
  obtain ⟨F1, μ, hp, nx, st, pe, hr1, hs1, hl, hx⟩ := h
  obtain ⟨_, rfl, rfl, hI⟩ := hx.resolve_right fun h => by have := h.1; omega
  obtain ⟨hr, hs⟩ := hr1.grow hs1 hFb
  have hlen : (xs.getD k []).length = ps.size := by
    have : xs.getD k [] = xs[k] := by simp [List.getD, List.getElem?_eq_getElem hk]
    rw [this]; exact hxs _ (List.getElem_mem hk)
  have hll := lt_of_get hl
  have hl' : W.heap[l]? = some (.loop { state := .ready, pending := none, fn := fn, tmps := tmps, params := ps, assign := assign, body := body, defers := df }) := by rw [hl, hrec]
  refine ⟨fn, _, assign, body, run_yield hl' (by rw [hvs]; exact hlen), roundIn_of_wpIn trivial ?_⟩
  have hT : ((ps.zip vs).foldl (fun tmps (x : Nat × Value) => tmps.setIfInBounds x.1 x.2) tmps).size = N ∧ ∀ t, RV (fun b => F1 b ∨ Fg b) μ W (((ps.zip vs).foldl (fun tmps (x : Nat × Value) => tmps.setIfInBounds x.1 x.2) tmps)[t]?.getD undef) ((putL (ps.toList.zip (xs.getD k [])) env).get t) := by
    rw [← Array.foldl_toList, Array.toList_zip]
    have := putL_rv (F := fun b => F1 b ∨ Fg b) (μ := μ) (w := W) (ps.toList.zip vs.toList) (ps.toList.zip (xs.getD k [])) tmps env (by simp [hvs]) (fun i x p hxi hpi => ?_) hr.env
    · rw [hN] at this; exact this
    · obtain ⟨h1, h2⟩ := List.getElem?_zip_eq_some.1 hxi
      obtain ⟨h3, h4⟩ := List.getElem?_zip_eq_some.1 hpi
      rw [h1] at h3; injection h3 with h3
      refine ⟨h3, by rw [hN]; exact hpN _ (List.mem_of_getElem? h1), ?_⟩
      have h5 := hrp i _ h4
      have : vs[i]? = some x.2 := by simpa using h2
      rw [this] at h5
      exact h5.mono (fun _ => .inr) (fun _ _ => rfl)
  have hsim : Sim (P := P) ⟨N, Gam.no P, nk⟩ ⟨[], 0, some l⟩ (fun b => F1 b ∨ Fg b) μ ⟨putL (ps.toList.zip (xs.getD k [])) env, (I k).1, (I k).2, yk⟩ { tmps := (ps.zip vs).foldl (fun tmps (x : Nat × Value) => tmps.setIfInBounds x.1 x.2) tmps, defers := [] } W := by
    refine ⟨by rw [hI]; exact hr.h, by rw [hI]; exact hr.fresh, hT.1, hT.2, ⟨[], ⟨fun _ => rfl, List.nodup_nil, Nat.zero_le _⟩, rfl, by simp⟩, fun l' hl'' => ?_, fun h => (by cases h), trivial⟩
    injection hl'' with hl''; subst hl''
    exact ⟨_, hl, hr.rl.1, hr.rl.2.1⟩
  refine aw_sound hm V assign _ _ (hround k hk hkm) hok.1 n _ ⟨[], 0, some l⟩ _ μ _ W hsim fun e s1 F2 μ2 a1 w1 g1 g2 g3 g4 => ?_
  have base1 : Base (fun b => F1 b ∨ Fg b) μ W F2 μ2 w1 := g2 rfl
  have hr2 := hr.step hen hll base1 g3 g4.h g4.fresh
  have hl1 : w1.heap[l]? = some (.loop { state := .ready, pending := none, fn := fn, tmps := tmps, params := ps, assign := assign, body := body, defers := df }) := (base1.old l hll hr.rl.2.1).trans hl'
  have hll1 := lt_of_get hl1
  cases e with
  | normal =>
    refine ⟨_, run_beginRound hl1 rfl, ?_⟩
    have hput : ∀ b, b ≠ l → (w1.putObj l (.loop { state := .busy, pending := none, fn := fn, tmps := tmps, params := ps, assign := assign, body := body, defers := df })).heap[b]? = w1.heap[b]? := fun b hb => World.putObj_heap_other hb
    obtain ⟨w2, hw2⟩ : ∃ w2, w2 = w1.putObj l (.loop { state := .busy, pending := none, fn := fn, tmps := tmps, params := ps, assign := assign, body := body, defers := df }) := ⟨_, rfl⟩
    rw [← hw2] at hput ⊢
    have hl2 : w2.heap[l]? = some (.loop { state := .busy, pending := none, fn := fn, tmps := tmps, params := ps, assign := assign, body := body, defers := df }) := by rw [hw2]; exact World.putObj_heap_same hll1
    have hne : ∀ b, F2 b ∨ μ2.has b → b ≠ l := fun b hb e => by subst e; exact hb.elim hr2.rl.1 hr2.rl.2.1
    have hsz : w1.heap.size ≤ w2.heap.size := by rw [hw2]; simp
    have hmsl : l ∉ ms := fun hx => by have := (hr2.mks l hx).1; rw [hl1] at this; cases this
    have hsim2 : Sim (P := P) ⟨N, Gam.no P, nk⟩ ⟨[], 0, some l⟩ F2 μ2 s1 a1 w2 := by
      refine ⟨g4.h.same hsz fun b hb => hput b (hne b hb), g4.fresh, g4.size, fun t => (g4.env t).same fun b hb => hput b (hne b hb), ?_, fun l' hl'' => ?_, fun h => (by cases h), trivial⟩
      · obtain ⟨ms2, q1, q2, q3⟩ := g4.mks
        refine ⟨ms2, ⟨q1.1, q1.2.1, Nat.zero_le _⟩, q2, fun r hr' => ?_⟩
        obtain ⟨q4, q5⟩ := q3 r hr'
        exact ⟨(hput r fun e => by subst e; rw [hl1] at q4; cases q4).trans q4, q5⟩
      · injection hl'' with hl''; subst hl''
        exact ⟨_, hl2, hr2.rl.1, hr2.rl.2.1⟩
    have hos : w2.os = w1.os ∧ w2.tape = w1.tape ∧ w2.output = w1.output := by rw [hw2]; exact ⟨rfl, rfl, rfl⟩
    have hr3 : RC nk d0 F0 μ0 w0 tmps env ms l F2 μ2 s1.hp s1.nx w2 := hr2.world (Pb := (· = l)) hos.1 hos.2.1 hos.2.2 hsz (fun b _ hb => hput b hb) (fun b hb => by subst hb; exact ⟨hr2.rl.1, hr2.rl.2.1, hmsl, hr2.rl.2.2⟩)
    refine aw_sound hm V body _ _ g1 hok.2 n _ ⟨[], 0, some l⟩ _ μ2 _ w2 hsim2 fun e s3 F3 μ3 a3 w3 k1 k2 k3 k4 => ?_
    have base2 : Base F2 μ2 w2 F3 μ3 w3 := k2 rfl
    have hll2 := lt_of_get hl2
    have hr4 := hr3.step hen hll2 base2 k3 k4.h k4.fresh
    have hl3 : w3.heap[l]? = some (.loop { state := .busy, pending := none, fn := fn, tmps := tmps, params := ps, assign := assign, body := body, defers := df }) := (base2.old l hll2 hr3.rl.2.1).trans hl2
    have hll3 := lt_of_get hl3
    have fin : ∀ (jump : Option Code) (F4 : Nat → Prop) (μ4 : Num) (hp4 : Heap) (nx4 : Nat), RC nk d0 F0 μ0 w0 tmps env ms l F4 μ4 hp4 nx4 w3 → Base F3 μ3 w3 F4 μ4 w3 →
        ((k + 1 ≤ m ∧ jump = none ∧ I (k + 1) = (hp4, nx4)) ∨ (k = m ∧ ∃ c, jump = some c ∧ jumpOk K env yk c hp4 nx4)) →
        ∃ v w4, (Instr.endRound l jump).run P w3 = .ok v w4 ∧ (Ending.returned v = .returned (.bool (decide (k ≠ m))) ∧ JJ nk d0 F0 μ0 w0 tmps env yk ms l K m I rec (k + 1) Fg μg w4 ∧ KeepY Fg μg W w4) := by
      intro jump F4 μ4 hp4 nx4 hr5 hb5 hj
      have hrun := run_endRound (P := P) jump hl3
      refine ⟨_, _, hrun, ?_, ?_, ?_⟩
      · rcases hj with ⟨h1, rfl, _⟩ | ⟨h1, c, rfl, _⟩
        · simp [show k ≠ m by omega]
        · simp [h1]
      · obtain ⟨st', hst'⟩ : ∃ st', st' = (if jump.isNone = true then LoopState.ready else LoopState.done) := ⟨_, rfl⟩
        have hput4 : ∀ (o : Obj) b, b ≠ l → (w3.putObj l o).heap[b]? = w3.heap[b]? := fun o b hb => World.putObj_heap_other hb
        have hmsl3 : l ∉ ms := hmsl
        refine ⟨F4, μ4, hp4, nx4, (if jump.isNone = true then LoopState.ready else LoopState.done), jump, hr5.world (Pb := (· = l)) rfl rfl rfl (by simp) (fun b _ hb => hput4 _ b hb) (fun b hb => by subst hb; exact ⟨hr5.rl.1, hr5.rl.2.1, hmsl3, hr5.rl.2.2⟩), ⟨fun b hb hn => ?_, fun b hb => ?_⟩, ?_, ?_⟩
        · obtain ⟨h1, h2, h3, h4, h5⟩ := hs.s1 b hb hn
          have hbW := hMb b hb
          have hW1 := base1.size
          have hW3 := base2.size
          have t2 : ¬ μ2.has b := fun hx => by rcases base1.mnew b hx with h | h; (exact h2 h); omega
          have t3 : ¬ μ3.has b := fun hx => by rcases base2.mnew b hx with h | h; (exact t2 h); omega
          have f2 : ¬ F2 b := fun hx => by rcases base1.fnew b hx with h | h | h; (exact h1 h); (exact h2 h); omega
          have f3 : ¬ F3 b := fun hx => by rcases base2.fnew b hx with h | h | h; (exact f2 h); (exact t2 h); omega
          refine ⟨fun hx => ?_, fun hx => ?_, h3, h4, h5⟩
          · rcases hb5.fnew b hx with h | h | h
            · exact f3 h
            · exact t3 h
            · omega
          · rcases hb5.mnew b hx with h | h
            · exact t3 h
            · omega
        · obtain ⟨h1, h2, _, h3⟩ := hs.s2 b hb
          exact ⟨h1, h2, .inl (hb5.sub b (base2.sub b (base1.sub b (.inr hb)))), h3⟩
        · rw [World.putObj_heap_same hll3, hrec]
        · rcases hj with ⟨h1, rfl, h2⟩ | ⟨h1, c, rfl, h2⟩
          · exact .inl ⟨h1, rfl, rfl, h2⟩
          · exact .inr ⟨by omega, rfl, c, rfl, h2⟩
      · refine ⟨?_, ?_, ?_, ?_, fun b hb => ?_⟩
        · exact base2.os.trans (hos.1.trans base1.os)
        · exact base2.tape.trans (hos.2.1.trans base1.tape)
        · exact base2.output.trans (hos.2.2.trans base1.output)
        · have h1 := base1.size; have h2 := base2.size; simp; omega
        · have hnl : b ≠ l := by
            rcases hb with hb | hb
            · exact (hs.s2 b hb).1
            · by_cases hf : Fg b
              · exact (hs.s2 b hf).1
              · exact (hs.s1 b hb hf).2.2.1
          rw [World.putObj_heap_other hnl]
          by_cases hf : Fg b
          · exact (base2.fr b (base1.sub b (.inr hf))).trans ((hput b hnl).trans (base1.fr b (.inr hf)))
          · have hb' := hb.resolve_left hf
            obtain ⟨h1, h2, _⟩ := hs.s1 b hb' hf
            have hbW := hMb b hb'
            have hW1 := base1.size
            have t2 : ¬ μ2.has b := fun hx => by rcases base1.mnew b hx with h | h; (exact h2 h); omega
            exact (base2.old b (by omega) t2).trans ((hput b hnl).trans (base1.old b hbW h2))
    cases e with
    | normal =>
      obtain ⟨q1, q2⟩ := k1
      obtain ⟨F4, μ4, e1, e2, e3⟩ := q2 ⟨[], 0, some l⟩ F3 μ3 a3 w3 k4
      exact fin none F4 μ4 _ _ (hr4.step hen hll3 e2 e3 e1.h e1.fresh) e2 (.inl ⟨q1, rfl, rfl⟩)
    | ret =>
      obtain ⟨q1, q2⟩ := k1
      exact fin (some .ret) F3 μ3 _ _ hr4 (Base.refl _ _ _) (.inr ⟨q1, _, rfl, .inr ⟨rfl, q2⟩⟩)
    | exit j =>
      obtain ⟨q1, q2⟩ := k1
      exact fin (some (.exit j)) F3 μ3 _ _ hr4 (Base.refl _ _ _) (.inr ⟨q1, _, rfl, .inl ⟨j, rfl, q2⟩⟩)
    | goto t => exact k1.elim
    | panic ch => obtain ⟨_, h, _⟩ := k1; exact h.elim
    | outgrown => exact k1.elim
  | exit j => exact g1.elim
  | ret => exact g1.elim
  | goto l => exact g1.elim
  | panic ch => obtain ⟨_, h, _⟩ := g1; exact h.elim
  | outgrown => exact g1.elim
theorem Wpc.range0 (hm : P.follows .mixedOrders = true) {gf : FuncId} {caps : List PV} {xs : List (List PV)} (hit : Iter P gf caps xs) (hent : enters P gf = true) {s : St} {K : Kt} {g : Operand} {ps : Array Tmp} {assign body : Code}
    (hg : evalO s.env g = .p (.fn (.func gf) [] caps)) (V : List Nat) (m : Nat) (nk : List Nat) (I : Nat → Heap × Nat) (h0 : I 0 = (s.hp, s.nx)) (hen : ∀ t, ∀ o ∈ numsV (s.env.get t), o ∈ nk) (hkp : ∀ o ∈ kp, o ∈ nk)
    (hpN : ∀ t ∈ ps.toList, t < N) (hxs : ∀ x ∈ xs, x.length = ps.size)
    (hround : ∀ k, k < xs.length → k ≤ m → aw ⟨N, Gam.no P, nk⟩ V assign ⟨putL (ps.toList.zip (xs.getD k [])) s.env, (I k).1, (I k).2, s.yk⟩
      ⟨fun s' => aw ⟨N, Gam.no P, nk⟩ V body s' (rdK ⟨N, Gam.no P, nk⟩ K s.env s.yk m k I), fun _ _ => False, fun _ => False, fun _ _ => False⟩)
    (hend : xs.length ≤ m → K.n ⟨s.env, (I xs.length).1, (I xs.length).2, s.yk⟩) : Wpc ⟨N, Gam.no P, kp⟩ (.rangeFunc g ps assign body) s K := by
  intro hok n Q d0 F μ a w hs hk
  simp only [okc, Bool.and_eq_true] at hok
  refine wpIn_rangeFunc fun fn _ => ?_
  obtain ⟨ms, ⟨_, hnd, hb0⟩, hdef, hms⟩ := hs.mks
  have hx := eval_rv hs.env g
  rw [hg] at hx
  obtain ⟨bs, hge, hbs, hbr⟩ : ∃ bs : Array Value, a.eval g = .func (.func gf) #[] bs ∧ bs.size = caps.length ∧ ∀ (i : Nat) p, caps[i]? = some p → RP F w (bs[i]?.getD undef) p := by
    generalize a.eval g = u at hx
    cases hx with
    | p hx =>
      cases hx with
      | fn _ as bs _ _ h1 h2 _ h4 =>
        have : as = #[] := Array.eq_empty_of_size_eq_zero (by simpa using h1)
        subst this
        exact ⟨bs, rfl, h2, h4⟩
  have hr0 : ∀ l, w.heap.size ≤ l → RC nk d0 F μ w a.tmps s.env ms l F μ s.hp s.nx w := fun l hl => by
    refine ⟨hs.h, hs.fresh, hs.env, hms, hs.rd, Base.refl _ _ _, Kp.refl _ _, ⟨fun h => by have := hs.h.fb l h; omega, fun h => by have := hs.h.mb l h; omega, hl⟩, fun l0 hl0 => ?_⟩
    obtain ⟨r, h, _⟩ := hs.rd l0 hl0
    exact lt_of_get h
  have core : ∀ (l : Nat) (mark : List Deferred) (w1 : World) (df : Nat) (ms1 : List Nat), (Instr.enterLoop fn a.tmps ps assign body d0.ro).run P w = .ok (l, mark) w1 →
      w1.heap[l]? = some (.loop { state := .ready, pending := none, fn := fn, tmps := a.tmps, params := ps, assign := assign, body := body, defers := df }) →
      (∀ b, F b → w1.heap[b]? = w.heap[b]?) → RC nk d0 F μ w a.tmps s.env ms1 l F μ s.hp s.nx w1 → mark ++ a.defers = ms1.map markD ++ d0.ds → ms1.Nodup →
      ∃ (l : Nat) (mark : List Deferred) (w₁ : World) (d : Deferred) (w₁' : World) (f : FuncId) (args : Array Value) (w₂ : World),
      (Instr.enterLoop fn a.tmps ps assign body (fc d0.ro).round).run P w = .ok (l, mark) w₁ ∧
      (resolve a.eval (rangeCall g l) 0).run P w₁ = .ok d w₁' ∧
      (∀ f', Target.leads P w₁' d.target d.args = some f' → (fc d0.ro).fn f') ∧
      (invoke d.target d.args).run P w₁' = .ok (.enter f args) w₂ ∧
      ((fc d0.ro).depth.isSome = true → 1 ≤ n) ∧
      CallsIn (fc d0.ro) (n - 1) P f args w₂ (rangePost (fc d0.ro) n P l Q { a with defers := mark ++ a.defers }) := by
    intro l mark w1 df ms1 h1 h2 hF1 h3 h4 h5
    refine ⟨l, mark, w1, { target := .fn (.func gf) bs, args := #[.func (.yield l) #[] #[]] }, w1, gf, #[.func (.yield l) #[] #[]] ++ bs, w1, h1, ?_, fun _ _ => trivial, ?_, fun h => by simp [fc, Fence.wide] at h, callsIn_fc.2 ?_⟩
    · simp only [resolve, hge]
      simp [go_sem]
    · simp only [invoke]
      exact run_callFunc hent _ _
    obtain ⟨rec, hrec⟩ : ∃ rec : LoopState → Option Code → Loop, rec = fun st pe => { state := st, pending := pe, fn := fn, tmps := a.tmps, params := ps, assign := assign, body := body, defers := df } := ⟨_, rfl⟩
    have hmsl : ∀ {W : World} {r : Loop}, W.heap[l]? = some (.loop r) → ∀ {F' : Nat → Prop} {μ' : Num} {hp : Heap} {nx : Nat}, RC nk d0 F μ w a.tmps s.env ms1 l F' μ' hp nx W → l ∉ ms1 := fun hW _ _ _ _ hR hx => by have := (hR.mks l hx).1; rw [hW] at this; cases this
    let G : Gam P :=
      { it := true
        J := JJ nk d0 F μ w a.tmps s.env s.yk ms1 l K m I rec
        l := l
        xs := xs
        stop := m
        cl := fun hJ hB => hJ.cl hB
        yld := fun _ {k Fg μg W vs} ro n' hJ hFb hMb h6 h7 h8 h9 => JJ.yld hm hen hrec hs.size hpN hok V hxs hround ro n' hJ hFb hMb h6 h7 h8 h9 }
    have hJ0 : G.J 0 F Num.no w1 := by
      refine ⟨F, μ, s.hp, s.nx, .ready, none, h3, ⟨fun b hb => (Num.no_has hb).elim, fun b hb => ⟨fun e => ?_, fun hx => (h3.mks b hx).2.1 hb, .inl hb, .inl hb⟩⟩, by rw [hrec]; exact h2, .inl ⟨Nat.zero_le _, rfl, rfl, h0⟩⟩
      subst e; exact h3.rl.1 hb
    refine Calls.mono (hit G rfl rfl F w1 bs h3.h.fb hbs (fun i p hp => (hbr i p hp).mono (fun _ h => h) hF1) hJ0) fun e w2 he => ?_
    obtain ⟨v, Fg, μg, rfl, F2, μ2, hp2, nx2, st, pe, q1, q2, q3, q4⟩ := he
    have hll := lt_of_get q3
    have hput : ∀ (o : Obj) b, b ≠ l → (w2.putObj l o).heap[b]? = w2.heap[b]? := fun o b hb => World.putObj_heap_other hb
    have hnb : (rec st pe).state ≠ .busy := by
      rw [hrec]
      rcases q4 with ⟨_, rfl, _⟩ | ⟨_, rfl, _⟩ <;> simp
    have hml := hmsl q3 q1
    obtain ⟨o, hrun⟩ : ∃ o : Obj, (Instr.endLoop l).run P w2 = .ok pe (w2.putObj l o) := by subst hrec; exact ⟨_, run_endLoop q3 hnb⟩
    refine ⟨_, _, hrun, ?_⟩
    have q5 := q1.world (W' := w2.putObj l o) (Pb := (· = l)) rfl rfl rfl (by simp) (fun b _ hb => hput _ b hb) (fun b hb => by subst hb; exact ⟨q1.rl.1, q1.rl.2.1, hml, q1.rl.2.2⟩)
    have hsim : Sim (P := P) ⟨N, Gam.no P, kp⟩ d0 F2 μ2 ⟨s.env, hp2, nx2, s.yk⟩ { a with defers := mark ++ a.defers } (w2.putObj l o) :=
      ⟨q5.h, q5.fresh, hs.size, q5.env, ⟨ms1, ⟨fun h => (by cases h), h5, Nat.le_trans hb0 q5.base.size⟩, h4, q5.mks⟩, q5.rd, fun h => (by cases h), trivial⟩
    have hkp2 : Kp kp μ μ2 := fun o ho b hb => q5.kp o (hkp o ho) b hb
    rcases q4 with ⟨p1, _, rfl, p3⟩ | ⟨_, _, c, rfl, p3⟩
    · have hle : xs.length ≤ m := by
        have : min (G.stop + 1) xs.length ≤ m := p1
        have e : G.stop = m := rfl
        rw [e] at this
        omega
      have e : min (G.stop + 1) xs.length = xs.length := by
        have e : G.stop = m := rfl
        rw [e]; omega
      rw [e] at p3
      have := hend hle
      rw [p3] at this
      exact hk .normal _ F2 μ2 _ _ this (.of q5.base) hkp2 hsim
    · rcases p3 with ⟨j, rfl, p3⟩ | ⟨rfl, p3⟩
      · exact wpIn_exit (hk (.exit j) _ F2 μ2 _ _ p3 (.of q5.base) hkp2 hsim)
      · exact wpIn_ret (hk .ret _ F2 μ2 _ _ p3 (.of q5.base) hkp2 hsim)
  have hA : ∀ (W : World) (o : Obj) b, b < W.heap.size → (W.alloc o).heap[b]? = W.heap[b]? := fun W o b hb => by
    show (W.heap.push o)[b]? = _
    rw [Array.getElem?_push, if_neg (by omega)]
  cases hro : d0.ro with
  | none =>
    rw [hro] at core
    obtain ⟨rc, hrc⟩ : ∃ rc : Obj, rc = .loop { state := .ready, pending := none, fn := fn, tmps := a.tmps, params := ps, assign := assign, body := body, defers := w.heap.size } := ⟨_, rfl⟩
    have hz : ((w.alloc (.deferred (some []))).alloc rc).heap.size = w.heap.size + 2 := by simp
    have hsame : ∀ b, b < w.heap.size → ((w.alloc (.deferred (some []))).alloc rc).heap[b]? = w.heap[b]? := fun b hb => (hA _ _ b (by simp; omega)).trans (hA _ _ b hb)
    have hD : ((w.alloc (.deferred (some []))).alloc rc).heap[w.heap.size]? = some (.deferred (some [])) := (hA _ _ _ (by simp)).trans (World.alloc_heap_new w _)
    have hL : ((w.alloc (.deferred (some []))).alloc rc).heap[w.heap.size + 1]? = some rc := by
      have := World.alloc_heap_new (w.alloc (.deferred (some []))) rc
      rwa [World.size_alloc] at this
    have hq := (hr0 (w.heap.size + 1) (by omega)).world (W' := (w.alloc (.deferred (some []))).alloc rc) (Pb := fun _ => False) rfl rfl rfl (by omega) (fun b hb _ => hsame b hb) (fun _ h => h.elim)
    have hmk : ∀ r ∈ w.heap.size :: ms, ((w.alloc (.deferred (some []))).alloc rc).heap[r]? = some (.deferred (some [])) ∧ ¬ F r ∧ ¬ μ.has r ∧ d0.b0 ≤ r := fun r hr => by
      rcases List.mem_cons.1 hr with hr | hr
      · subst hr
        exact ⟨hD, fun h => by have := hs.h.fb _ h; omega, fun h => by have := hs.h.mb _ h; omega, hb0⟩
      · exact hq.mks r hr
    have hq2 : RC nk d0 F μ w a.tmps s.env (w.heap.size :: ms) (w.heap.size + 1) F μ s.hp s.nx ((w.alloc (.deferred (some []))).alloc rc) := { hq with mks := hmk }
    refine core _ _ _ w.heap.size (w.heap.size :: ms) (by rw [hrc]; exact run_enterLoop_outer _ _ _ _ _) (by rw [hL, hrc]) (fun b hb => hsame b (hs.h.fb b hb)) hq2 (by rw [hdef]; rfl) (List.nodup_cons.2 ⟨fun h => ?_, hnd⟩)
    have := lt_of_get (hms _ h).1
    omega
  | some l0 =>
    rw [hro] at core
    obtain ⟨r0, hl0, _⟩ := hs.rd l0 hro
    obtain ⟨rc, hrc⟩ : ∃ rc : Obj, rc = .loop { state := .ready, pending := none, fn := fn, tmps := a.tmps, params := ps, assign := assign, body := body, defers := r0.defers } := ⟨_, rfl⟩
    have hq := (hr0 w.heap.size (Nat.le_refl _)).world (W' := w.alloc rc) (Pb := fun _ => False) rfl rfl rfl (by simp) (fun b hb _ => hA _ _ b hb) (fun _ h => h.elim)
    exact core _ [] _ r0.defers ms (by rw [hrc]; exact run_enterLoop_inner hl0 _ _ _ _ _) (by rw [World.alloc_heap_new, hrc]) (fun b hb => hA _ _ b (hs.h.fb b hb)) hq (by rw [hdef]; rfl) hnd
theorem Wpc.range (hm : P.follows .mixedOrders = true) {gf : FuncId} {caps : List PV} {xs : List (List PV)} (hit : Iter P gf caps xs) (hent : enters P gf = true) {s : St} {K : Kt} {g : Operand} {ps : Array Tmp} {assign body : Code}
    (hg : evalO s.env g = .p (.fn (.func gf) [] caps)) (V : List Nat) (m : Nat) (nk : List Nat) (I : Nat → Heap × Nat) (h0 : I 0 = (s.hp, s.nx)) (hen : ∀ t, ∀ o ∈ numsV (s.env.get t), o ∈ nk) (hkp : ∀ o ∈ kp, o ∈ nk)
    (hpN : ∀ t ∈ ps.toList, t < N) (hxs : ∀ x ∈ xs, x.length = ps.size)
    (hround : ∀ k, k < xs.length → k ≤ m → aw ⟨N, Gam.no P, nk⟩ V assign ⟨putL (ps.toList.zip (xs.getD k [])) s.env, (I k).1, (I k).2, s.yk⟩
      ⟨fun s' => aw ⟨N, Gam.no P, nk⟩ V body s' (rdK ⟨N, Gam.no P, nk⟩ K s.env s.yk m k I), fun _ _ => False, fun _ => False, fun _ _ => False⟩)
    (hend : xs.length ≤ m → K.n ⟨s.env, (I xs.length).1, (I xs.length).2, s.yk⟩) : Lp ⟨N, Gam.no P, kp⟩ (.rangeFunc g ps assign body) s K := ⟨Wpc.range0 hm hit hent hg V m nk I h0 hen hkp hpN hxs hround hend⟩
theorem hen_of {env : Env} {nk : List Nat} (h : (env.all fun x => subB (numsV x.2) nk) = true) : ∀ t, ∀ o ∈ numsV (env.get t), o ∈ nk := by
  intro t
  induction env with
  | nil => intro o ho; simp [Env.get, numsV] at ho
  | cons x r ih =>
    obtain ⟨u, v⟩ := x
    simp only [List.all_cons, Bool.and_eq_true] at h
    simp only [Env.get]
    split
    · exact subB_sub h.1
    · exact ih h.2
end
end Go.Sg
namespace Go.Sg
open Go
def hasE : Env → Nat → Bool
  | [], _ => false
  | (u, _) :: r, t => (match Nat.beq u t with | true => true | false => hasE r t)
def keepE (ov env : Env) : List Nat → Env
  | [] => ov
  | t :: V => (match hasE ov t with
    | true => keepE ov env V
    | false => (match env.get t with
      | .any => keepE ov env V
      | v => (t, v) :: keepE ov env V))
def lpE (ov env : Env) : List Nat → (Env → Prop) → Prop
  | [], K => K ov
  | t :: V, K => (match hasE ov t with
    | true => lpE ov env V K
    | false => frc (env.get t) fun v => (match v with
      | .any => lpE ov env V K
      | v => lpE ov env V fun e => K ((t, v) :: e)))
theorem lpE_eq (ov env : Env) : ∀ (V : List Nat) (K : Env → Prop), lpE ov env V K = K (keepE ov env V)
  | [], K => rfl
  | t :: V, K => by
    simp only [lpE, keepE, frc_eq]
    cases hasE ov t with
    | true => exact lpE_eq ov env V K
    | false =>
      simp only
      cases env.get t <;> simp only [lpE_eq ov env V]
section
variable {P : Program} {C : Cx P} {K : Kt} {c : Code}
def hdS (V : List Nat) (env : Env) (hp : Heap) (nx : Nat) (ov : Env) (oh : Heap) (yk : Nat) : St := ⟨keepE ov env V, keepH oh hp [], nx, yk⟩
theorem Wpc.loopA {α : Type} (hm : P.follows .mixedOrders = true) (V : List Nat) {env : Env} {hp : Heap} {nx yk : Nat} (ov : α → Env) (oh : α → Heap) (yo : α → Nat) (m : α → Nat) (i0 : α)
    (h0 : Ent C ⟨env, hp, nx, yk⟩ (hdS V env hp nx (ov i0) (oh i0) (yo i0)))
    (hstep : ∀ i, lpE (ov i) env V fun e => lpH (oh i) hp [] fun h => aw C V c ⟨e, h, nx, yo i⟩ (Kt.nx K fun s' => ∃ j, m j < m i ∧ Ent C s' (hdS V env hp nx (ov j) (oh j) (yo j)))) : Lp C (.loop c) ⟨env, hp, nx, yk⟩ K :=
  Wpc.loop hm V (fun i => hdS V env hp nx (ov i) (oh i) (yo i)) m i0 h0 fun i => by
    have := hstep i
    rw [lpE_eq, lpH_eq] at this
    exact this
theorem Wpc.loopB {α : Type} (hm : P.follows .mixedOrders = true) (V : List Nat) {env : Env} {hp : Heap} {nx yk : Nat} (ov : α → Env) (m : α → Nat) (i0 : α)
    (h0 : Ent C ⟨env, hp, nx, yk⟩ (hdS V env hp nx (ov i0) [] yk))
    (hstep : ∀ i, lpE (ov i) env V fun e => lpH [] hp [] fun h => aw C V c ⟨e, h, nx, yk⟩ (Kt.nx K fun s' => ∃ j, m j < m i ∧ Ent C s' (hdS V env hp nx (ov j) [] yk))) : Lp C (.loop c) ⟨env, hp, nx, yk⟩ K :=
  Wpc.loopA hm V ov (fun _ => []) (fun _ => yk) m i0 h0 hstep
def addR (o' o : Nat) (R : List (Nat × Nat)) (K : List (Nat × Nat) → Prop) : Prop :=
  match hasR R o' with
  | true => K R
  | false => K ((o', o) :: R)
where hasR : List (Nat × Nat) → Nat → Bool
  | [], _ => false
  | (u, _) :: r, t => (match Nat.beq u t with | true => true | false => hasR r t)
mutual
def pairV : Nat → AV → AV → List (Nat × Nat) → (List (Nat × Nat) → Prop) → Prop
  | 0, _, _, R, K => K R
  | _ + 1, .ptr o _, .ptr o' _, R, K => addR o' o R K
  | _ + 1, .msl o _ _ _, .msl o' _ _ _, R, K => addR o' o R K
  | _ + 1, .rsl o _ _ _, .rsl o' _ _ _, R, K => addR o' o R K
  | _ + 1, .csl o _ _ _ _, .csl o' _ _ _ _, R, K => addR o' o R K
  | _ + 1, .csl o _ _ _ _, .rsl o' _ _ _, R, K => addR o' o R K
  | _ + 1, .eptr o _ _ _, .eptr o' _ _ _, R, K => addR o' o R K
  | _ + 1, .mp o, .mp o', R, K => addR o' o R K
  | _ + 1, .ch o, .ch o', R, K => addR o' o R K
  | n + 1, .agg l, .agg l', R, K => pairL n l l' R K
  | n + 1, .tup l, .tup l', R, K => pairL n l l' R K
  | n + 1, .fn _ a b, .fn _ a' b', R, K => pairL n a a' R fun R => pairL n b b' R K
  | _ + 1, _, _, R, K => K R
def pairL : Nat → List AV → List AV → List (Nat × Nat) → (List (Nat × Nat) → Prop) → Prop
  | n + 1, a :: l, a' :: l', R, K => pairV n a a' R fun R => pairL n l l' R K
  | _, _, _, R, K => K R
end
def pairE (env : Env) : Env → List (Nat × Nat) → (List (Nat × Nat) → Prop) → Prop
  | [], R, K => K R
  | (t, v) :: r, R, K => frc (env.get t) fun u => frc v fun v => pairV 99 u v R fun R => pairE env r R K
def rgetK (o : Nat) (B : Prop) (A : Nat → Prop) : List (Nat × Nat) → Prop
  | [] => B
  | (u, x) :: r => (match Nat.beq u o with | true => A x | false => rgetK o B A r)
def pairH (hp : Heap) : Heap → List (Nat × Nat) → (List (Nat × Nat) → Prop) → Prop
  | [], R, K => K R
  | (o', x) :: r, R, K => rgetK o' (pairH hp r R K) (fun o => match hp.get o, x with
    | .cells l, .cells l' => pairL 99 l l' R fun R => pairH hp r R K
    | _, _ => pairH hp r R K) R
theorem addR_spec {o' o : Nat} {R : List (Nat × Nat)} {K : List (Nat × Nat) → Prop} (h : addR o' o R K) : ∃ R', K R' := by
  unfold addR at h
  split at h
  · exact ⟨_, h⟩
  · exact ⟨_, h⟩
theorem pair_both : ∀ n : Nat, (∀ (a a' : AV) (R : List (Nat × Nat)) (K : List (Nat × Nat) → Prop), pairV n a a' R K → ∃ R', K R') ∧ (∀ (a a' : List AV) (R : List (Nat × Nat)) (K : List (Nat × Nat) → Prop), pairL n a a' R K → ∃ R', K R') := by
  intro n
  induction n with
  | zero => exact ⟨fun a a' R K h => by simp only [pairV] at h; exact ⟨_, h⟩, fun a a' R K h => by simp only [pairL] at h; exact ⟨_, h⟩⟩
  | succ n ih =>
    refine ⟨fun a a' R K h => ?_, fun a a' R K h => ?_⟩
    · cases a <;> cases a' <;> simp only [pairV] at h <;> first | exact addR_spec h | exact ih.2 _ _ _ _ h | exact ⟨_, h⟩ | skip
      obtain ⟨R', h'⟩ := ih.2 _ _ _ _ h
      exact ih.2 _ _ _ _ h'
    · cases a with
      | nil => cases a' <;> (simp only [pairL] at h; exact ⟨_, h⟩)
      | cons x l =>
        cases a' with
        | nil => simp only [pairL] at h; exact ⟨_, h⟩
        | cons y m =>
          simp only [pairL] at h
          obtain ⟨R', h'⟩ := ih.1 _ _ _ _ h
          exact ih.2 _ _ _ _ h'
theorem pairE_spec {env : Env} : ∀ {e : Env} {R : List (Nat × Nat)} {K : List (Nat × Nat) → Prop}, pairE env e R K → ∃ R', K R'
  | [], R, K, h => ⟨_, h⟩
  | (t, v) :: r, R, K, h => by
    simp only [pairE, frc_eq] at h
    obtain ⟨R', h'⟩ := (pair_both 99).1 _ _ _ _ h
    exact pairE_spec h'
theorem rgetK_spec {o : Nat} {B : Prop} {A : Nat → Prop} : ∀ {R : List (Nat × Nat)}, rgetK o B A R → B ∨ ∃ x, A x
  | [], h => .inl h
  | (u, x) :: r, h => by
    unfold rgetK at h
    split at h
    · exact .inr ⟨x, h⟩
    · exact rgetK_spec h
theorem pairH_spec {hp : Heap} : ∀ {h' : Heap} {R : List (Nat × Nat)} {K : List (Nat × Nat) → Prop}, pairH hp h' R K → ∃ R', K R'
  | [], R, K, h => ⟨_, h⟩
  | (o', x) :: r, R, K, h => by
    unfold pairH at h
    rcases rgetK_spec h with h | ⟨o, h⟩
    · exact pairH_spec h
    · split at h
      · obtain ⟨R', h'⟩ := (pair_both 99).2 _ _ _ _ h
        exact pairH_spec h'
      · exact pairH_spec h
def nodupB : List (Nat × Nat) → Bool
  | [] => true
  | (_, x) :: r => (match hasS r x with | true => false | false => nodupB r)
where hasS : List (Nat × Nat) → Nat → Bool
  | [], _ => false
  | (_, u) :: r, t => (match Nat.beq u t with | true => true | false => hasS r t)
theorem hasS_not {t : Nat} : ∀ {R : List (Nat × Nat)}, nodupB.hasS R t = false → t ∉ R.map Prod.snd
  | [], _ => by simp
  | (x, u) :: r, h => by
    simp only [nodupB.hasS] at h
    split at h
    · cases h
    · rename_i e
      simp only [List.map_cons, List.mem_cons, not_or]
      exact ⟨fun hx => by subst hx; simp at e, hasS_not h⟩
theorem nodupB_spec : ∀ {R : List (Nat × Nat)}, nodupB R = true → (R.map Prod.snd).Nodup
  | [], _ => by simp
  | (x, u) :: r, h => by
    simp only [nodupB] at h
    split at h
    · cases h
    · rename_i e
      simp only [List.map_cons, List.nodup_cons]
      exact ⟨hasS_not e, nodupB_spec h⟩
def ltB (nx : Nat) : List (Nat × Nat) → Bool
  | [] => true
  | (x, _) :: r => (match Nat.ble (x + 1) nx with | true => ltB nx r | false => false)
theorem ltB_spec {nx : Nat} : ∀ {R : List (Nat × Nat)}, ltB nx R = true → ∀ x ∈ R, x.1 < nx
  | (x, u) :: r, h, y, hy => by
    simp only [ltB] at h
    split at h
    · rename_i e
      rcases List.mem_cons.1 hy with hy | hy
      · subst hy; exact Nat.le_of_ble_eq_true e
      · exact ltB_spec h y hy
    · cases h
def kpB (R : List (Nat × Nat)) : List Nat → Bool
  | [] => true
  | o :: l => (match rget R o with | some x => (match Nat.beq x o with | true => kpB R l | false => false) | none => false)
theorem kpB_spec {R : List (Nat × Nat)} : ∀ {l : List Nat}, kpB R l = true → ∀ o ∈ l, rget R o = some o
  | a :: l, h, o, ho => by
    simp only [kpB] at h
    split at h
    · rename_i x hx
      split at h
      · rename_i e
        rcases List.mem_cons.1 ho with ho | ho
        · subst ho; rw [hx, Nat.eq_of_beq_eq_true e]
        · exact kpB_spec h o ho
      · cases h
    · cases h
theorem Ent.ofC {env env' : Env} {hp hp' : Heap} {nx nx' yk yk' : Nat} (Z : List Nat) (h : pairE env env' [] fun R => pairH hp hp' R fun R => pairH hp hp' R fun R =>
    (nodupB R = true ∧ ltB nx' R = true ∧ kpB R C.kp = true) ∧ yk' = yk ∧ EnvLe hp (· ∈ Z) (rget R) env env' ∧ HpLe hp (· ∈ Z) (rget R) hp') : Ent C ⟨env, hp, nx, yk⟩ ⟨env', hp', nx', yk'⟩ := by
  obtain ⟨R1, h⟩ := pairE_spec h
  obtain ⟨R2, h⟩ := pairH_spec h
  obtain ⟨R3, h⟩ := pairH_spec h
  obtain ⟨⟨h1, h2, h3⟩, h4, h5, h6⟩ := h
  exact Ent.of Z R3 h5 h6 (nodupB_spec h1) (ltB_spec h2) (kpB_spec h3) h4
theorem Ent.ofK {env env' : Env} {hp hp' : Heap} {nx nx' yk yk' : Nat} (Z : List Nat) (h : pairE env env' (C.kp.map fun o => (o, o)) fun R => pairH hp hp' R fun R => pairH hp hp' R fun R =>
    (nodupB R = true ∧ ltB nx' R = true ∧ kpB R C.kp = true) ∧ yk' = yk ∧ EnvLe hp (· ∈ Z) (rget R) env env' ∧ HpLe hp (· ∈ Z) (rget R) hp') : Ent C ⟨env, hp, nx, yk⟩ ⟨env', hp', nx', yk'⟩ := by
  obtain ⟨R1, h⟩ := pairE_spec h
  obtain ⟨R2, h⟩ := pairH_spec h
  obtain ⟨R3, h⟩ := pairH_spec h
  obtain ⟨⟨h1, h2, h3⟩, h4, h5, h6⟩ := h
  exact Ent.of Z R3 h5 h6 (nodupB_spec h1) (ltB_spec h2) (kpB_spec h3) h4
theorem Ent.ofA {V : List Nat} {env env' ov : Env} {hp hp' oh : Heap} {nx nx' nx0 yk yk' : Nat} (Z : List Nat) (h : lpE ov env' V fun env' => lpH oh hp' [] fun hp' => pairE env env' [] fun R => pairH hp hp' R fun R => pairH hp hp' R fun R =>
    (nodupB R = true ∧ ltB nx0 R = true ∧ kpB R C.kp = true) ∧ yk' = yk ∧ EnvLe hp (· ∈ Z) (rget R) env env' ∧ HpLe hp (· ∈ Z) (rget R) hp') : Ent C ⟨env, hp, nx, yk⟩ (hdS V env' hp' nx0 ov oh yk') := by
  rw [lpE_eq, lpH_eq] at h
  exact Ent.ofC Z h
end
end Go.Sg
namespace Go.Sg
section
variable {α : Type} (right : α → Bool) (no : α → Int)
def okFrom : Int → List α → Bool
  | _, [] => true
  | n, x :: l => right x && decide (n < no x) && okFrom (no x) l
def lastNo (l : List α) : Nat → Int
  | 0 => -1
  | i + 1 => match l[i]? with | some x => no x | none => -1
theorem lastNo_succ {l : List α} {i : Nat} {x : α} (h : l[i]? = some x) : lastNo no l (i + 1) = no x := by simp [lastNo, h]
theorem okFrom_step {l : List α} {i : Nat} {x : α} (n : Int) (h : l[i]? = some x) : okFrom right no n (l.drop i) = (right x && decide (n < no x) && okFrom right no (no x) (l.drop (i + 1))) := by
  obtain ⟨h1, h2⟩ := List.getElem?_eq_some_iff.1 h
  rw [List.drop_eq_getElem_cons h1, h2, okFrom]
theorem okFrom_end {l : List α} {i : Nat} (n : Int) (h : l.length ≤ i) : okFrom right no n (l.drop i) = true := by
  rw [List.drop_of_length_le h, okFrom]
theorem okFrom_iff : ∀ (l : List α) (n : Int), okFrom right no n l = true ↔ (∀ x ∈ l, right x = true ∧ n < no x) ∧ l.Pairwise (fun a b => no a < no b)
  | [], n => by simp [okFrom]
  | x :: l, n => by
    simp only [okFrom, Bool.and_eq_true, decide_eq_true_eq, okFrom_iff l, List.mem_cons, List.pairwise_cons, forall_eq_or_imp]
    constructor
    · rintro ⟨⟨h1, h2⟩, h3, h4⟩
      exact ⟨⟨⟨h1, h2⟩, fun a ha => ⟨(h3 a ha).1, by have := (h3 a ha).2; omega⟩⟩, fun a ha => (h3 a ha).2, h4⟩
    · rintro ⟨⟨⟨h1, h2⟩, h3⟩, h4, h5⟩
      exact ⟨⟨h1, h2⟩, fun a ha => ⟨(h3 a ha).1, h4 a ha⟩, h5⟩
def posN (n : Int) (l : List α) : Nat := (l.takeWhile fun y => decide (no y < n)).length
def hasN (n : Int) (l : List α) : Bool := match l[posN no n l]? with | some y => decide (no y = n) | none => false
def insN (l : List α) (x : α) : List α := l.take (posN no (no x) l) ++ x :: l.drop (posN no (no x) l)
theorem posN_le (n : Int) (l : List α) : posN no n l ≤ l.length := by
  unfold posN
  have := congrArg List.length (List.takeWhile_append_dropWhile (p := fun y => decide (no y < n)) (l := l))
  simp only [List.length_append] at this
  omega
theorem posN_cons (n : Int) (x : α) (l : List α) : posN no n (x :: l) = if no x < n then posN no n l + 1 else 0 := by
  unfold posN
  by_cases h : no x < n <;> simp [List.takeWhile, h]
theorem posN_eq : ∀ (l : List α) (n : Int) (i : Nat), i ≤ l.length → (∀ j x, j < i → l[j]? = some x → no x < n) → (∀ x, l[i]? = some x → n ≤ no x) → posN no n l = i
  | [], n, i, h, _, _ => by simp at h; simp [posN, h]
  | x :: l, n, 0, _, _, h2 => by
    have := h2 x rfl
    rw [posN_cons, if_neg (by omega)]
  | x :: l, n, i + 1, h, h1, h2 => by
    have := h1 0 x (by omega) rfl
    rw [posN_cons, if_pos this, posN_eq l n i (by simpa using h) (fun j y hj hy => h1 (j + 1) y (by omega) (by simpa using hy)) (fun y hy => h2 y (by simpa using hy))]
theorem srt_lt {l : List α} (h : l.Pairwise (fun a b => no a < no b)) {i j : Nat} {x y : α} (hij : i < j) (hx : l[i]? = some x) (hy : l[j]? = some y) : no x < no y := by
  obtain ⟨h1, h2⟩ := List.getElem?_eq_some_iff.1 hx
  obtain ⟨h3, h4⟩ := List.getElem?_eq_some_iff.1 hy
  have := List.pairwise_iff_getElem.1 h i j h1 h3 hij
  rw [h2, h4] at this; exact this
theorem srt_le {l : List α} (h : l.Pairwise (fun a b => no a < no b)) {i j : Nat} {x y : α} (hij : i ≤ j) (hx : l[i]? = some x) (hy : l[j]? = some y) : no x ≤ no y := by
  rcases Nat.lt_or_eq_of_le hij with h1 | h1
  · exact Int.le_of_lt (srt_lt no h h1 hx hy)
  · subst h1; rw [hx] at hy; injection hy with hy; subst hy; exact Int.le_refl _
theorem okFrom_no {l : List α} {i : Nat} {x : α} (h : l[i]? = some x) (hq : okFrom right no (lastNo no l i) (l.drop i) = okFrom right no (-1) l) (hx : (right x && decide (lastNo no l i < no x)) = false) : okFrom right no (-1) l = false := by
  rw [← hq, okFrom_step right no _ h, hx]; rfl
theorem okFrom_yes {l : List α} {i : Nat} {x : α} (h : l[i]? = some x) (hq : okFrom right no (lastNo no l i) (l.drop i) = okFrom right no (-1) l) (hx : (right x && decide (lastNo no l i < no x)) = true) : okFrom right no (lastNo no l (i + 1)) (l.drop (i + 1)) = okFrom right no (-1) l := by
  rw [← hq, okFrom_step right no _ h, hx, lastNo_succ no h]; rfl
theorem okFrom_fin {l : List α} {i : Nat} (hq : okFrom right no (lastNo no l i) (l.drop i) = okFrom right no (-1) l) (h : l.length ≤ i) : okFrom right no (-1) l = true := by
  rw [← hq, okFrom_end right no _ h]
section
variable {κ : Type} [DecidableEq κ] (cnt : α → Bool) (key : α → κ) (tm : α → Int)
def after (x y : α) : Prop := tm y < tm x ∨ tm x = tm y ∧ no y < no x
end
end
section
variable {κ β γ : Type} [DecidableEq κ] (eK : κ → PV) (eV : β → γ)
def aget (k : κ) : List (κ × β) → Option β
  | [] => none
  | (k', v) :: r => if k = k' then some v else aget k r
def aput (k : κ) (v : β) : List (κ × β) → List (κ × β)
  | [] => [(k, v)]
  | (k', v') :: r => if k = k' then (k, v) :: r else (k', v') :: aput k v r
def eM (m : List (κ × β)) : List (PV × γ) := m.map fun x => (eK x.1, eV x.2)
theorem aget_put (k k' : κ) (v : β) : ∀ m : List (κ × β), aget k (aput k' v m) = if k = k' then some v else aget k m
  | [] => by simp [aput, aget]
  | (a, b) :: r => by
    have ih := aget_put k k' v r
    simp only [aput]
    by_cases h1 : k' = a
    · subst h1; rw [if_pos rfl]; simp only [aget]; by_cases h2 : k = k' <;> simp [h2]
    · rw [if_neg h1]; simp only [aget, ih]
      by_cases h2 : k = a
      · subst h2; rw [if_pos rfl, if_pos rfl, if_neg (fun e => h1 e.symm)]
      · rw [if_neg h2, if_neg h2]
structure KeyOf : Prop where
  eq : ∀ a b : κ, eqPs (eK a).cells (eK b).cells = decide (a = b)
variable {eK}
theorem mfindAt_map (hk : KeyOf eK) (k : κ) : ∀ (m : List (κ × β)) (i : Nat), (mfindAt (eK k) i (eM eK eV m)).map Prod.snd = (aget k m).map eV
  | [], i => rfl
  | (k', v) :: r, i => by
    have ih := mfindAt_map hk k r (i + 1)
    simp only [eM, List.map_cons, mfindAt, hk.eq, aget] at ih ⊢
    by_cases h : k = k'
    · subst h; simp
    · simp only [h, decide_false, if_false]; exact ih
theorem mfind_map (hk : KeyOf eK) (k : κ) (m : List (κ × β)) : mfind (eK k) (eM eK eV m) = (aget k m).map eV := mfindAt_map eV hk k m 0
theorem mfindAt_put (hk : KeyOf eK) (k : κ) (v : β) : ∀ (m : List (κ × β)) (i0 : Nat), (match mfindAt (eK k) i0 (eM eK eV m) with | some (i, _) => (eM eK eV m).set (i - i0) (eK k, eV v) | none => eM eK eV m ++ [(eK k, eV v)]) = eM eK eV (aput k v m)
  | [], i0 => rfl
  | (k', v') :: r, i0 => by
    have ih := mfindAt_put hk k v r (i0 + 1)
    simp only [eM, List.map_cons, mfindAt, hk.eq, aput] at ih ⊢
    by_cases h : k = k'
    · subst h; simp
    · simp only [h, decide_false, if_false, List.map_cons]
      cases hf : mfindAt (eK k) (i0 + 1) (List.map (fun x => (eK x.1, eV x.2)) r) with
      | none => rw [hf] at ih; simp only at ih ⊢; rw [← ih]; rfl
      | some x =>
        obtain ⟨i, u⟩ := x
        rw [hf] at ih
        have := (mfindAt_ge hf).1
        simp only at ih ⊢
        rw [← ih, show i - i0 = (i - (i0 + 1)) + 1 by omega, List.set_cons_succ]
theorem mput_map (hk : KeyOf eK) (k : κ) (v : β) (m : List (κ × β)) : mput (eK k) (eV v) (eM eK eV m) = eM eK eV (aput k v m) := by
  have := mfindAt_put eV hk k v m 0
  unfold mput
  rw [← this]
  split <;> rename_i h <;> rw [h] <;> simp
end
def fIx {α : Type} (q : α → Bool) (l : List α) : Int := match l.findIdx? q with | some i => i | none => -1
theorem fIx_some {α : Type} {q : α → Bool} {l : List α} {i : Nat} {x : α} (h : l[i]? = some x) (hq : q x = true) (hn : ∀ j w, j < i → l[j]? = some w → q w = false) : fIx q l = i := by
  have : l.findIdx? q = some i := by
    rw [List.findIdx?_eq_some_iff_getElem]
    obtain ⟨h1, h2⟩ := List.getElem?_eq_some_iff.1 h
    refine ⟨h1, by rw [h2]; exact hq, fun j hj => ?_⟩
    rw [hn j l[j] hj (List.getElem?_eq_getElem _)]; simp
  simp [fIx, this]
theorem fIx_none {α : Type} {q : α → Bool} {l : List α} (hn : ∀ j w, j < l.length → l[j]? = some w → q w = false) : fIx q l = -1 := by
  have : l.findIdx? q = none := by
    rw [List.findIdx?_eq_none_iff]
    intro x hx
    obtain ⟨j, hj⟩ := List.getElem?_of_mem hx
    exact hn j x (List.getElem?_eq_some_iff.1 hj).1 hj
  simp [fIx, this]
def cmpI (a b : Int) : Int := if a < b then -1 else if b < a then 1 else 0
theorem cmpI_lt {a b : Int} : cmpI a b < 0 ↔ a < b := by unfold cmpI; split; (simp; assumption); split <;> simp <;> omega
theorem cmpI_eq {a b : Int} : cmpI a b = 0 ↔ a = b := by unfold cmpI; split; (simp; omega); split <;> simp <;> omega
theorem mid_eq (a b : Nat) (h : a + b < 2000000) : Go.IntKind.i64.wrap ((Go.IntKind.u64.wrap ((a : Int) + b)).fdiv (2 ^ min (Int.toNat 1) Go.IntKind.u64.bits)) = (((a + b) / 2 : Nat) : Int) := by
  have e1 : Go.IntKind.u64.wrap ((a : Int) + b) = ((a + b : Nat) : Int) := by rw [fits_u64 (by omega) (by omega)]; omega
  rw [e1]
  show Go.IntKind.i64.wrap (Int.fdiv ((a + b : Nat) : Int) (2 ^ 1)) = _
  rw [Int.fdiv_eq_ediv_of_nonneg _ (by omega)]
  have e2 : (((a + b : Nat) : Int) / (2 ^ 1)) = (((a + b) / 2 : Nat) : Int) := by simp
  rw [e2]
  exact fits_i64 (by omega) (by omega)
theorem ins_grow {α : Type} (B C : List α) (a z : α) : List.take (B.length + (C.length + 1)) (List.take (B.length + 1) (List.take B.length (List.take B.length (B ++ C) ++ List.replicate (C.length + 1) z) ++ List.take (min 1 (B.length + (C.length + 1) - B.length)) (List.take 1 [a]) ++
    List.drop (B.length + min 1 (B.length + (C.length + 1) - B.length)) (List.take B.length (B ++ C) ++ List.replicate (C.length + 1) z)) ++
    List.take (min (B.length + C.length - B.length) (B.length + (C.length + 1) - (B.length + 1))) (List.take (B.length + C.length - B.length) (List.drop B.length (B ++ C))) ++
    List.drop (B.length + 1 + min (B.length + C.length - B.length) (B.length + (C.length + 1) - (B.length + 1))) (List.take B.length (List.take B.length (B ++ C) ++ List.replicate (C.length + 1) z) ++ List.take (min 1 (B.length + (C.length + 1) - B.length)) (List.take 1 [a]) ++
      List.drop (B.length + min 1 (B.length + (C.length + 1) - B.length)) (List.take B.length (B ++ C) ++ List.replicate (C.length + 1) z))) = B ++ a :: C := by
  have e1 : min 1 (B.length + (C.length + 1) - B.length) = 1 := by omega
  have e2 : min (B.length + C.length - B.length) (B.length + (C.length + 1) - (B.length + 1)) = C.length := by omega
  have e3 : B.length + C.length - B.length = C.length := by omega
  rw [e1, e2, e3]
  have f1 : List.take B.length (B ++ C) = B := List.take_left' rfl
  have f2 : List.drop B.length (B ++ C) = C := List.drop_left' rfl
  rw [f1, f2]
  have f3 : List.take B.length (B ++ List.replicate (C.length + 1) z) = B := List.take_left' rfl
  have f4 : List.drop (B.length + 1) (B ++ List.replicate (C.length + 1) z) = List.replicate C.length z := by rw [← List.drop_drop, List.drop_left' rfl]; simp
  rw [f3, f4]
  have f5 : List.take (B.length + 1) (B ++ List.take 1 (List.take 1 [a]) ++ List.replicate C.length z) = B ++ [a] := List.take_left' (by simp)
  have f6 : List.drop (B.length + 1 + C.length) (B ++ List.take 1 (List.take 1 [a]) ++ List.replicate C.length z) = [] := List.drop_of_length_le (by simp <;> omega)
  rw [f5, f6, List.take_of_length_le (l := C) (Nat.le_refl _), List.append_nil, List.take_of_length_le (by simp <;> omega)]
  simp
theorem ins_place {α : Type} (B C : List α) (a : α) : List.take (B.length + C.length + 1) (List.take B.length (List.take (B.length + 1) (B ++ C) ++ List.take (min (B.length + C.length + 1 - B.length) (B.length + C.length + 1 - (B.length + 1))) (List.drop B.length (B ++ C)) ++
      List.drop (B.length + 1 + min (B.length + C.length + 1 - B.length) (B.length + C.length + 1 - (B.length + 1))) (B ++ C)) ++
    List.take (min 1 (B.length + C.length + 1 - B.length)) (List.take 1 [a]) ++
    List.drop (B.length + min 1 (B.length + C.length + 1 - B.length)) (List.take (B.length + 1) (B ++ C) ++ List.take (min (B.length + C.length + 1 - B.length) (B.length + C.length + 1 - (B.length + 1))) (List.drop B.length (B ++ C)) ++
      List.drop (B.length + 1 + min (B.length + C.length + 1 - B.length) (B.length + C.length + 1 - (B.length + 1))) (B ++ C))) = B ++ a :: C := by
  have e1 : min 1 (B.length + C.length + 1 - B.length) = 1 := by omega
  have e2 : min (B.length + C.length + 1 - B.length) (B.length + C.length + 1 - (B.length + 1)) = C.length := by omega
  rw [e1, e2]
  have f2 : List.drop B.length (B ++ C) = C := List.drop_left' rfl
  have f6 : List.drop (B.length + 1 + C.length) (B ++ C) = [] := List.drop_of_length_le (by simp <;> omega)
  rw [f2, f6, List.append_nil, List.take_of_length_le (l := C) (Nat.le_refl _)]
  have g : List.take (B.length + 1) (B ++ C) = B ++ C.take 1 := by rw [List.take_append, List.take_of_length_le (by omega)]; congr 2; omega
  rw [g]
  have f3 : List.take B.length (B ++ C.take 1 ++ C) = B := by rw [List.append_assoc]; exact List.take_left' rfl
  rw [f3]
  cases C with
  | nil => simp only [List.take_nil, List.append_nil, List.drop_of_length_le (Nat.le_succ B.length)]; exact List.take_of_length_le (by simp)
  | cons c C =>
    have f4 : List.drop (B.length + 1) (B ++ List.take 1 (c :: C) ++ c :: C) = c :: C := List.drop_left' (by simp)
    rw [f4, List.take_of_length_le (by simp <;> omega)]; simp
def tT2 (P : Go.Program) (t : Go.TypeId) : Bool := match tT P t with | some (_, g) => g | none => false
section
variable {α : Type} (q : α → Bool)
end
end Go.Sg
namespace Go.Sg
theorem cl1 {P : Prop} (h : P := by first | ((with_reducible show _ = _); exact rfl) | ((with_reducible show (_ : Nat) < _); exact Nat.zero_lt_succ _) | ((with_reducible show (_ : Nat) ≤ _); exact Nat.le_of_ble_eq_true rfl)) : P := h
theorem cl2 {P : Prop} (h : P := by first | exact OkR.mk (by kernel_rfl) | exact OkC.mk (by kernel_rfl) | exact OkX.mk (by kernel_rfl)) : P := h
theorem cl3 {P : Prop} (h : P := by first | exact PV.le_refl _ | exact Nat.zero_lt_succ _ | exact Nat.le_of_ble_eq_true rfl | exact onesOf rfl | exact Or.inl rfl | exact noMem | exact onesOfP rfl | exact okAll rfl | exact okMap (fun _ => ⟨rfl, onesOfP rfl⟩) | exact nonz) : P := h
theorem cl4 {P : Prop} (h : P := by first | exact LeG.refl _ | omega | ((with_reducible first | show (_ : Int) ≤ _ | show (_ : Int) < _ | show (_ : Nat) ≤ _ | show (_ : Nat) < _ | show ¬ _ | show (_ : Int) = _ | show (_ : Nat) = _); (simp only [List.length_map, List.length_append, List.length_cons, List.length_nil, List.length_replicate, List.length_take, List.length_drop, List.length_set, Int.toNat_natCast, Int.reduceToNat] <;> omega))) : P := h
theorem cl5 {P : Prop} (h : P := by first | exact cl4 | exact of_decide_eq_true rfl) : P := h
theorem cl6 {P : Prop} (h : P := by repeat' (first | exact alln_nil | refine alln_cons ?_ ?_ | exact row_ne | exact cells_ne | exact map_ne | exact iter_ne | exact chan_ne | exact mapS_ne)) : P := h
theorem cl7 {P : Prop} (h : P := by intro i hi; simp only [List.length_cons, List.length_nil, Nat.zero_add, Nat.reduceAdd] at hi; simp only [Heap.get]; repeat' (first | rfl | (rw [if_neg (by omega)]))) : P := h
theorem cl8 {P : Prop} (h : P := by intro i hi; simp only [List.length_cons, List.length_nil, Nat.zero_add, Nat.reduceAdd] at hi; simp [keys]; omega) : P := h
theorem cl9 {P : Prop} (h : P := by first | exact VLe.refl _ | exact VLe.msl rfl | exact VLe.rsl rfl | exact VLe.csl rfl | exact VLe.cslr rfl | exact VLe.mp rfl | exact VLe.ch rfl | exact VLe.eptr rfl | exact VLe.ptr rfl | exact VLe.any _) : P := h
class Stp (p : Prop) : Prop where
  t : True
class Stq (p : Prop) : Prop where
  t : True
instance {a b : PV} : Stp (LeG a b) := ⟨trivial⟩
instance {P : Program} {C : Cx P} {c : Code} {s : St} {K : Kt} : Stp (Lp C c s K) := ⟨trivial⟩
instance {α : Sort _} {f : α → Prop} : Stp (Exists f) := ⟨trivial⟩
instance {P : Program} {c : AV × List AV} {s : Heap} {n : Nat} {K : AV → Heap → Prop} : Stp (callX P c s n K) := ⟨trivial⟩
instance {a b : Int} : Stp (a ≤ b) := ⟨trivial⟩
instance {a b : Int} : Stp (a < b) := ⟨trivial⟩
instance {a b : Nat} : Stp (a ≤ b) := ⟨trivial⟩
instance {a b : Nat} : Stp (a < b) := ⟨trivial⟩
instance {a b : PV} : Stq (LeG a b) := ⟨trivial⟩
instance {P : Program} {C : Cx P} {c : Code} {s : St} {K : Kt} : Stq (Lp C c s K) := ⟨trivial⟩
instance {α : Sort _} {f : α → Prop} : Stq (Exists f) := ⟨trivial⟩
instance {P : Program} {c : AV × List AV} {s : Heap} {n : Nat} {K : AV → Heap → Prop} : Stq (callX P c s n K) := ⟨trivial⟩
theorem stp {p : Prop} [Stp p] (h : p) : p := h
theorem stq {p : Prop} [Stq p] (h : p) : p := h
end Go.Sg
namespace Go.Sg
open Go
theorem ix_at {α : Type} {f : α → PV} {l : List α} {n : Nat} {x : α} {K : PV → Prop} (hx : l[n]? = some x) (k : K (f x)) : ∀ p, (l.map f)[n]? = some p → K p := fun p hp => by
  rw [List.getElem?_map, hx] at hp; injection hp with hp; subst hp; exact k
theorem mfindAt_hM (k : PV) : ∀ (q : List (PV × List PV)) (i : Nat), mfindAt k i (hM q) = (mfindAt k i q).map fun x => (x.1, MV.h x.2)
  | [], i => rfl
  | (k', l) :: r, i => by
    have ih := mfindAt_hM k r (i + 1)
    simp only [hM, List.map_cons, mfindAt] at ih ⊢
    split
    · rfl
    · exact ih
theorem mfind_hM (k : PV) (q : List (PV × List PV)) : mfind k (hM q) = (mfind k q).map MV.h := by
  unfold mfind
  rw [mfindAt_hM]
  cases mfindAt k 0 q <;> rfl
theorem mput_hM (k : PV) (l : List PV) (q : List (PV × List PV)) : mput k (.h l) (hM q) = hM (mput k l q) := by
  unfold mput
  rw [mfindAt_hM]
  cases mfindAt k 0 q with
  | none => simp [hM]
  | some x => simp [hM, List.map_set]
theorem mfindAt_mput {β : Type} {k : PV} (hk : eqPs k.cells k.cells = true) (v : β) : ∀ (m : List (PV × β)) (i : Nat), mfindAt k i (match mfindAt k i m with | some (j, _) => m.set (j - i) (k, v) | none => m ++ [(k, v)]) = some (match mfindAt k i m with | some (j, _) => (j, v) | none => (i + m.length, v))
  | [], i => by simp [mfindAt, hk]
  | (k', x) :: r, i => by
    have ih := mfindAt_mput hk v r (i + 1)
    cases hc : eqPs k.cells k'.cells with
    | true => simp [mfindAt, hc, hk]
    | false =>
      have e1 : ∀ i, mfindAt k i ((k', x) :: r) = mfindAt k (i + 1) r := fun i => by simp [mfindAt, hc]
      rw [e1]
      cases hf : mfindAt k (i + 1) r with
      | none =>
        rw [hf] at ih
        simp only at ih ⊢
        rw [List.cons_append, mfindAt, hc]
        simp only
        rw [ih]; simp; omega
      | some y =>
        obtain ⟨j, u⟩ := y
        rw [hf] at ih
        have hj := (mfindAt_ge hf).1
        simp only at ih ⊢
        rw [show j - i = (j - (i + 1)) + 1 by omega, List.set_cons_succ, mfindAt, hc]
        simp only
        exact ih
theorem mfind_mput {β : Type} {k : PV} (hk : eqPs k.cells k.cells = true) (v : β) (m : List (PV × β)) : mfind k (mput k v m) = some v := by
  have := mfindAt_mput hk v m 0
  have e : mput k v m = (match mfindAt k 0 m with | some (j, _) => m.set (j - 0) (k, v) | none => m ++ [(k, v)]) := by unfold mput; cases mfindAt k 0 m <;> rfl
  rw [← e] at this
  unfold mfind
  rw [this]
  cases mfindAt k 0 m <;> rfl
theorem mput_mput {β : Type} {k : PV} (hk : eqPs k.cells k.cells = true) (v v' : β) (m : List (PV × β)) : mput k v (mput k v' m) = mput k v m := by
  have := mfindAt_mput hk v' m 0
  have e : mput k v' m = (match mfindAt k 0 m with | some (j, _) => m.set (j - 0) (k, v') | none => m ++ [(k, v')]) := by unfold mput; cases mfindAt k 0 m <;> rfl
  rw [← e] at this
  cases hf : mfindAt k 0 m with
  | none =>
    rw [hf] at this
    simp only [Nat.zero_add] at this
    have e1 : mput k v' m = m ++ [(k, v')] := by unfold mput; rw [hf]
    have e2 : mput k v m = m ++ [(k, v)] := by unfold mput; rw [hf]
    rw [e2]
    rw [show mput k v (mput k v' m) = (match mfindAt k 0 (mput k v' m) with | some (i, _) => (mput k v' m).set i (k, v) | none => mput k v' m ++ [(k, v)]) from rfl, this, e1]
    simp
  | some x =>
    obtain ⟨j, u⟩ := x
    rw [hf] at this
    simp only at this
    have e1 : mput k v' m = m.set j (k, v') := by unfold mput; rw [hf]
    have e2 : mput k v m = m.set j (k, v) := by unfold mput; rw [hf]
    rw [e2]
    rw [show mput k v (mput k v' m) = (match mfindAt k 0 (mput k v' m) with | some (i, _) => (mput k v' m).set i (k, v) | none => mput k v' m ++ [(k, v)]) from rfl, this, e1]
    simp
section
variable {P : Program} {F : Nat → Prop} {μ : Num} {σ : Heap} {w : World}
theorem Lp.ent {C : Cx P} {c : Code} {s s' : St} {K : Kt} (h : Ent C s s') (k : Lp C c s' K) : Lp C c s K := ⟨Wpc.ent h k.w⟩
theorem Ent.mapS0 {C : Cx P} {env : Env} {hp : Heap} {nx yk : Nat} (o sz : Nat) {kt : KT} (ho : hp.get o = .map kt []) : Ent C ⟨env, hp, nx, yk⟩ ⟨env, (o, .mapS kt sz (hM [])) :: hp, nx, yk⟩ := fun d0 F μ a w hs => by
  have h := SimH.reread (o := o) (x := .map kt []) (y := .mapS kt sz (hM [])) (σ := hp) (F := F) (μ := μ) (w := w) (hs.h.congr fun i => by
    rw [Heap.get_cons]
    split
    · rename_i e; rw [← e]; exact ho.symm
    · rfl) (fun h => AObj.noConfusion h) (fun b hr => by
      obtain ⟨h0, es, clock, h1, h2, h3, h4⟩ := hr
      exact ⟨by simp [hM], es, clock, h1, h2, h3, fun _ => 0, fun i k x hx => by simp [hM] at hx, fun i j k k' l l' hi => by simp [hM] at hi⟩)
  exact ⟨F, μ, ⟨h, hs.fresh, hs.size, hs.env, hs.mks, hs.rd, hs.itro, hs.j⟩, Base.refl F μ w, Kp.refl _ _⟩
theorem Lp.mapS0 {C : Cx P} {c : Code} {env : Env} {hp : Heap} {nx yk : Nat} {K : Kt} (o sz : Nat) {kt : KT} (ho : hp.get o = .map kt []) (k : Lp C c ⟨env, keepH [] ((o, .mapS kt sz (hM [])) :: hp) [], nx, yk⟩ K) : Lp C c ⟨env, hp, nx, yk⟩ K :=
  Lp.ent ((Ent.mapS0 o sz ho).trans Ent.hp) k
end
end Go.Sg
namespace Go.Sg
open Go
section
variable {P : Program} {F : Nat → Prop} {μ : Num} {σ : Heap} {w : World}
theorem SimH.hide (hσ : SimH F μ σ w) {o n sz i : Nat} {kt : KT} {l : List (PV × MV)} {key : PV} {r : List PV} (ho : σ.get o = .mapS kt sz l) (hn : σ.get n = .row sz r) (hno : n ≠ o) (hk' : l[i]? = some (key, .v (.rsl n sz 0 r.length))) :
    ∃ μ', Step F μ w F μ' w ∧ SimH F μ' ((o, .mapS kt sz (l.set i (key, .h r))) :: (n, .dead) :: σ) w ∧ ∀ i, μ' i = μ i := by
  have hdo : σ.get o ≠ .dead := by rw [ho]; simp
  have hdn : σ.get n ≠ .dead := by rw [hn]; simp
  obtain ⟨b, hb⟩ := hσ.has o hdo
  have hro := hσ.obj o b hb
  rw [ho] at hro
  obtain ⟨h0, es, clock, h1, h2, h3, c, h4, h5⟩ := hro
  obtain ⟨d, hd⟩ := hσ.has n hdn
  obtain ⟨en, g1, g2, g3⟩ := h4 i key _ hk'
  have hrow := RowAt.h hσ hn rfl rfl g3 hd
  have hdb : d ≠ b := fun x => hno (hσ.inj n o b hdn hdo (x ▸ hd) hb)
  have hdF : ¬ F d := hσ.live n d hdn hd
  let μ' : Num := ⟨μ, fun x y => μ.hid x y ∨ (x = d ∧ y = b)⟩
  have hst : Step F μ w F μ' w := ⟨rfl, rfl, rfl, Nat.le_refl _, fun _ _ => rfl, fun _ _ _ => rfl, fun _ _ h => h, fun _ h => h, fun _ h => .inl h, fun _ _ h => h, fun k hk => by
    rcases hk with ⟨i, hi⟩ | ⟨x, hx | ⟨rfl, _⟩⟩
    · exact .inl (.inl ⟨i, hi⟩)
    · exact .inl (.inr ⟨x, hx⟩)
    · exact .inl (.inl ⟨n, hd⟩)⟩
  have old : ∀ {x : MV} {k v}, MVok F μ w b sz k v x → MVok F μ' w b sz k v x := fun {x k v} g => by
    cases x with
    | h l => exact ⟨.inl g.1, g.2⟩
    | v av => exact RV.step g hst
  have hnew : ∀ (i : Nat) k p, l[i]? = some (k, .h p) → c i ≠ d := fun i k p hi e => by
    obtain ⟨_, _, _, g⟩ := h4 i k _ hi
    exact (hσ.hd _ b g.1).2 n hdn (e ▸ hd)
  have hil : i < l.length := (List.getElem?_eq_some_iff.1 hk').1
  have get : ∀ j, (j = o ∧ Heap.get ((o, .mapS kt sz (l.set i (key, .h r))) :: (n, .dead) :: σ) j = .mapS kt sz (l.set i (key, .h r))) ∨ (j = n ∧ Heap.get ((o, .mapS kt sz (l.set i (key, .h r))) :: (n, .dead) :: σ) j = .dead) ∨ (j ≠ o ∧ j ≠ n ∧ Heap.get ((o, .mapS kt sz (l.set i (key, .h r))) :: (n, .dead) :: σ) j = σ.get j) := fun j => by
    simp only [Heap.get_cons]
    by_cases e1 : o = j
    · exact .inl ⟨e1.symm, if_pos e1⟩
    · rw [if_neg e1]
      by_cases e2 : n = j
      · exact .inr (.inl ⟨e2.symm, if_pos e2⟩)
      · exact .inr (.inr ⟨fun k => e1 k.symm, fun k => e2 k.symm, if_neg e2⟩)
  have nd : ∀ j, Heap.get ((o, .mapS kt sz (l.set i (key, .h r))) :: (n, .dead) :: σ) j ≠ .dead → σ.get j ≠ .dead ∧ j ≠ n := fun j hj => by
    rcases get j with ⟨e, _⟩ | ⟨_, e⟩ | ⟨_, e2, e⟩
    · exact ⟨e ▸ hdo, e ▸ Ne.symm hno⟩
    · exact absurd e hj
    · exact ⟨e ▸ hj, e2⟩
  refine ⟨μ', hst, ⟨fun k hk => hσ.fb k hk, fun k hk => ?_, fun i hi => hσ.has i (nd i hi).1, fun j bi hbi => ?_, fun i bi hi => hσ.live i bi (nd i hi).1, fun i j bb hi hj => hσ.inj i j bb (nd i hi).1 (nd j hj).1, fun x y hxy => ?_, fun x y z hy hz => ?_⟩, fun _ => rfl⟩
  · rcases hst.mnew k hk with h | h
    · exact hσ.mb k h
    · rcases hk with ⟨i, hi⟩ | ⟨x, hx | ⟨rfl, _⟩⟩
      · exact hσ.mb k (.inl ⟨i, hi⟩)
      · exact hσ.mb k (.inr ⟨x, hx⟩)
      · exact hσ.mb k (.inl ⟨n, hd⟩)
  · have hbi : μ j = some bi := hbi
    rcases get j with ⟨e, e2⟩ | ⟨_, e⟩ | ⟨e1, e2, e⟩
    · rw [e2]
      rw [e, hb] at hbi; injection hbi with hbi; subst hbi
      refine ⟨fun x hx => ?_, es, clock, h1, by simpa using h2, h3, fun j => if j = i then d else c j, fun j a x hac => ?_, fun j1 j2 k k' p p' hj1 hj2 hij => ?_⟩
      · rcases List.mem_or_eq_of_mem_set hx with hx | hx
        · exact h0 x hx
        · subst hx; exact h0 (key, MV.v (.rsl n sz 0 r.length)) (List.mem_of_getElem? hk')
      · rw [List.getElem?_set] at hac
        split at hac
        · rename_i hij
          subst hij
          have hac' : some (key, MV.h r) = some (a, x) := by simpa [hil] using hac
          injection hac' with hac'; injection hac' with e1 e2; subst e1; subst e2
          refine ⟨en, g1, g2, ?_⟩
          simp only [↓reduceIte]; exact ⟨.inr ⟨rfl, rfl⟩, hrow⟩
        · rename_i hij
          obtain ⟨en, q1, q2, q3⟩ := h4 j a x hac
          refine ⟨en, q1, q2, ?_⟩
          have hij' : j ≠ i := fun e => hij e.symm
          simp only [if_neg hij']; exact old q3
      · simp only at hij
        by_cases e1 : j1 = i <;> by_cases e2 : j2 = i
        · omega
        · rw [List.getElem?_set_ne (fun e => e2 e.symm)] at hj2
          rw [if_pos e1, if_neg e2] at hij
          exact absurd hij.symm (hnew j2 k' p' hj2)
        · rw [List.getElem?_set_ne (fun e => e1 e.symm)] at hj1
          rw [if_neg e1, if_pos e2] at hij
          exact absurd hij (hnew j1 k p hj1)
        · rw [List.getElem?_set_ne (fun e => e1 e.symm)] at hj1
          rw [List.getElem?_set_ne (fun e => e2 e.symm)] at hj2
          rw [if_neg e1, if_neg e2] at hij
          exact h5 j1 j2 k k' p p' hj1 hj2 hij
    · rw [e]; trivial
    · rw [e]
      have hro := hσ.obj j bi hbi
      by_cases hdd : σ.get j = .dead
      · rw [hdd]; trivial
      · exact hro.step hst rfl fun x hx => ⟨.inl hx, rfl⟩
  · rcases hxy with hxy | ⟨rfl, rfl⟩
    · exact ⟨(hσ.hd x y hxy).1, fun i hi => (hσ.hd x y hxy).2 i (nd i hi).1⟩
    · exact ⟨hdF, fun i hi hm => (nd i hi).2 (hσ.inj i n x (nd i hi).1 hdn hm hd)⟩
  · rcases hy with hy | ⟨rfl, rfl⟩ <;> rcases hz with hz | ⟨hz1, rfl⟩
    · exact hσ.hu x y z hy hz
    · exact absurd hd (hz1 ▸ (hσ.hd x y hy).2 n hdn)
    · exact absurd hd ((hσ.hd x z hz).2 n hdn)
    · rfl
theorem mput_back {kt : KT} {key : PV} {q : List (PV × List PV)} {l : List PV} {a : AV} (hks : ∀ x ∈ q, okK kt x.1 = true) (hkey : okK kt key = true) (hf : mfind key q = some l) : ∃ i, (mput key (.v a) (hM q))[i]? = some (key, MV.v a) ∧ (mput key (.v a) (hM q)).set i (key, .h l) = hM q := by
  unfold mfind at hf
  obtain ⟨⟨i, l'⟩, h1, e⟩ := Option.map_eq_some_iff.1 hf
  have e : l' = l := e
  subst e
  obtain ⟨_, k', hk', heq⟩ := mfindAt_ge h1
  rw [Nat.sub_zero] at hk'
  have hlt := (List.getElem?_eq_some_iff.1 hk').1
  have hput : mput key (.v a) (hM q) = (hM q).set i (key, .v a) := by
    simp only [mput, mfindAt_hM, h1, Option.map_some]
  have hlt' : i < (hM q).length := by simpa [hM] using hlt
  have hkk : key = k' := okK_cells hkey (hks _ (List.mem_of_getElem? hk')) heq
  subst hkk
  refine ⟨i, by rw [hput, List.getElem?_set_self hlt'], ?_⟩
  rw [hput, List.set_set]
  refine List.ext_getElem? fun j => ?_
  rw [List.getElem?_set]
  split
  · rename_i hij; subst hij
    have e := (List.getElem?_eq_some_iff.1 hk').2
    simp [hM, hlt, e]
  · rfl
structure Hid (hp hp' : Heap) (o n sz : Nat) (kt : KT) (q : List (PV × List PV)) (key : PV) (l : List PV) : Prop where
  e : hp' = (o, .mapS kt sz (hM q)) :: (n, .dead) :: hp
  ho : hp.get o = .mapS kt sz (mput key (.v (.rsl n sz 0 l.length)) (hM q))
  hn : hp.get n = .row sz l
  no : n ≠ o
  ks : ∀ x ∈ q, okK kt x.1 = true
  kk : okK kt key = true
  f : mfind key q = some l
theorem SimH.hid {hp hp' : Heap} (hσ : SimH F μ hp w) {o n sz : Nat} {kt : KT} {q : List (PV × List PV)} {key : PV} {l : List PV} (h : Hid hp hp' o n sz kt q key l) : ∃ μ', Step F μ w F μ' w ∧ SimH F μ' hp' w ∧ ∀ i, μ' i = μ i := by
  obtain ⟨i, h1, h2⟩ := mput_back (a := .rsl n sz 0 l.length) h.ks h.kk h.f
  have := hσ.hide h.ho h.hn h.no h1
  rw [h2] at this
  rw [h.e]; exact this
theorem Ent.hid {C : Cx P} {env : Env} {hp hp' : Heap} {nx yk : Nat} {o n sz : Nat} {kt : KT} {q : List (PV × List PV)} {key : PV} {l : List PV} (h : Hid hp hp' o n sz kt q key l) : Ent C ⟨env, hp, nx, yk⟩ ⟨env, hp', nx, yk⟩ := fun d0 F μ a w hs => by
  obtain ⟨μ', h1, h2, h3⟩ := hs.h.hid h
  exact ⟨F, μ', ⟨h2, fun i hi => by rw [h3]; exact hs.fresh i hi, hs.size, fun t => (hs.env t).step h1, hs.mks.base h1.base rfl, hs.rd.base h1.base, hs.itro, C.G.cl hs.j h1.base⟩, h1.base, .step h1⟩
def resH (P : Program) (res : List ResultVar) (m : Nat) (r : AV) (σ1 : Heap) (s : St) : Prop :=
  resI P res m r σ1 s ∨ ∃ hp' o n sz kt q key l, Hid s.hp hp' o n sz kt q key l ∧ resI P res m r σ1 ⟨s.env, hp', s.nx, s.yk⟩
end
section
variable {P : Program} {f : FuncId} {fn : Func} {c : Code} {N : Nat} {res : List ResultVar}
theorem ICalls.ofH {m nx : Nat} {σ0 σ1 : Heap} {as : List AV} {r : AV} (hm : P.follows .mixedOrders = true) (hf : P.funcs[f]? = some fn) (hb : fn.body = some c)
    (hN : fn.ntmps = N) (hr : fn.results.toList = res) (hok : okc N c = true) (ha : as.length ≤ N) (V : List Nat) (hnx : m ≤ nx)
    (h : aw ⟨N, Gam.no P, List.range m⟩ V c ⟨argEnv 0 as, σ0, nx, 0⟩ ⟨resH P res m r σ1, fun _ _ => False, resH P res m r σ1, fun _ _ => False⟩) : ICalls P f m σ0 as r σ1 := by
  intro F μ w vs hσ hfr hvs hrv
  refine calls_of (C := ⟨N, Gam.no P, List.range m⟩) (as := as) (μ := μ) (F := F) hm hf hb hN hr hok ha V h rfl hσ (fun o ho => hfr o (Nat.le_trans hnx ho)) trivial hvs hrv (fun _ h => h) (fun _ _ h => h) ?_ (fun _ _ _ _ _ _ h => h.elim)
  intro s F' μ' w' ts hK h2 hkp h3 _ h5 _
  have h2 := h2 rfl
  have fin : ∀ {s : St} {μ' : Num}, resI P res m r σ1 s → Base F μ w F' μ' w' → (∀ o, o < m → ∀ b, μ o = some b → μ' o = some b) → SimH F' μ' s.hp w' → (∀ t, RV F' μ' w' (ts[t]?.getD undef) (s.env.get t)) →
      ∃ us : List Value, (res.mapM (resOne ts)).run P w' = .ok us w' ∧ ∃ v F'' μ'', Ending.returned (if h : us.toArray.size = 1 then us.toArray[0] else .tuple us.toArray) = .returned v ∧ Base F μ w F'' μ'' w' ∧ SimH F'' μ'' σ1 w' ∧ RV F'' μ'' w' v r ∧ (∀ o, o < m → ∀ b, μ o = some b → μ'' o = some b) ∧ ∀ o, m + 64 ≤ o → μ'' o = none := by
    intro s μ' hK h2 hkp h3 h5
    obtain ⟨env, hp, nx', yk⟩ := s
    obtain ⟨us, avs, ⟨Z, R, e1, e2, e3, e4, e5⟩, k2, k3, k4⟩ := resVs_sound h3 h5 res _ hK
    refine ⟨us, k4 w' (fun _ _ => rfl), ?_⟩
    obtain ⟨g1, g2⟩ := h3.ent Z R e2 e3
    refine ⟨_, _, _, rfl, h2.trans g2, g1, e1 F' μ' w' _ (fun o b _ _ hmo => h3.obj o b hmo) (one_of k2 k3), fun o ho b hb' => ?_, fun o ho => ?_⟩
    · show (rget R o).bind μ' = some b
      rw [e5 o ho]; exact hkp o ho b hb'
    · show (rget R o).bind μ' = none
      cases hr' : rget R o with
      | none => rfl
      | some x => have h6 : o < m + 64 := e4 _ (rget_mem hr'); omega
  rcases hK with hK | ⟨hp', o, n, sz, kt, q, key, l, hH, hK⟩
  · exact fin hK h2 (fun o ho b hb => hkp o (List.mem_range.2 ho) b hb) h3 h5
  · obtain ⟨μ2, g1, g2, g3⟩ := h3.hid hH
    exact fin hK (h2.trans g1.base) (fun o ho b hb => by rw [g3]; exact hkp o (List.mem_range.2 ho) b hb) g2 (fun t => (h5 t).step g1)
theorem Sq.hid {C : Cx P} {V : List Nat} {id : Nat} {env : Env} {hp hp' : Heap} {nx yk : Nat} {Q : St → Prop} (o n : Nat) {sz : Nat} {kt : KT} {q : List (PV × List PV)} {key : PV} {l : List PV} (h : Hid hp hp' o n sz kt q key l) (k : Sq C V id Q ⟨env, hp', nx, yk⟩) : Sq C V id Q ⟨env, hp, nx, yk⟩ :=
  Sq.ent _ (Ent.hid h) k
theorem Lp.hid {C : Cx P} {c : Code} {env : Env} {hp hp' : Heap} {nx yk : Nat} {K : Kt} (o n : Nat) {sz : Nat} {kt : KT} {q : List (PV × List PV)} {key : PV} {l : List PV} (h : Hid hp hp' o n sz kt q key l) (k : Lp C c ⟨env, hp', nx, yk⟩ K) : Lp C c ⟨env, hp, nx, yk⟩ K :=
  Lp.ent (Ent.hid h) k
theorem renO_hM (g : Nat → Nat) (kt : KT) (sz : Nat) (q : List (PV × List PV)) : renO g (.mapS kt sz (hM q)) = .mapS kt sz (hM q) := by
  simp only [renO, hM, List.map_map]
  congr 1
theorem call_iE {σ : Heap} {nid : Nat} {K : AV → Heap → Prop} {c' : AV × List AV} {as as0 : List AV} {σ0 σ1 : Heap} {r : AV} (ρ : List Nat) (us : Heap) (hi : ICalls P f ρ.length σ0 as0 r σ1) (he : enters P f = true) (hc : calleeOf c'.1 c'.2 = some (f, as)) (ha : as = renL (rn ρ nid) as0) (hn : ρ.Nodup)
    (hl : ∀ o ∈ ρ, σ.get o ≠ .dead) (hs : ∀ i, i < ρ.length → σ.get (ρ.getD i 0) = renO (rn ρ nid) (σ0.get i)) (hd : ∀ i, ρ.length ≤ i → σ0.get i = .dead) (hcov : ∀ i, i < ρ.length → i ∈ keys σ1)
    (hb : ∀ k ∈ keys σ1, k < ρ.length + 64) (hus : (σ1.map fun x => (rn ρ nid x.1, renO (rn ρ nid) x.2)) = us) (hk : K (renV (rn ρ nid) r) us) : callX P c' σ nid K :=
  call_i ρ hi he hc ha hn hl hs hd hcov hb (hus.symm ▸ hk)
theorem Ent.put {C : Cx P} {env : Env} {hp : Heap} {nx yk : Nat} {o : Nat} {x : AObj} (ho : hp.get o = x) : Ent C ⟨env, hp, nx, yk⟩ ⟨env, (o, x) :: hp, nx, yk⟩ := fun d0 F μ a w hs =>
  ⟨F, μ, ⟨hs.h.congr fun i => by
    rw [Heap.get_cons]
    split
    · rename_i e; rw [← e, ho]
    · rfl, hs.fresh, hs.size, hs.env, hs.mks, hs.rd, hs.itro, hs.j⟩, Base.refl F μ w, Kp.refl _ _⟩
theorem Lp.put {C : Cx P} {c : Code} {env : Env} {hp : Heap} {nx yk : Nat} {K : Kt} (o : Nat) (x : AObj) (ho : hp.get o = x) (k : Lp C c ⟨env, keepH [] ((o, x) :: hp) [], nx, yk⟩ K) : Lp C c ⟨env, hp, nx, yk⟩ K :=
  Lp.ent ((Ent.put ho).trans Ent.hp) k
end
end Go.Sg
namespace Go.Sg
open Go
def Gam.once (P : Program) (F0 : Nat → Prop) (μ0 : Num) (w0 : World) : Gam P where
  it := true
  J := fun _ F μ w => Base F0 μ0 w0 F μ w
  l := 0
  xs := []
  stop := 0
  cl := fun h k => h.trans k
  yld := fun _ {k} {F} {μ} {w} {vs} ro n hj h1 h2 h3 => absurd h3 (by simp)
theorem RV.kp {F F' : Nat → Prop} {μ μ' : Num} {w w' : World} {kp : List Nat} {v : Value} {o off : Nat} (h : RV F μ w v (.ptr o off)) (ho : o ∈ kp) (hk : Kp kp μ μ') : RV F' μ' w' v (.ptr o off) := by
  cases h with
  | ptr _ _ b hb => exact .ptr o off b (hk o ho b hb)
theorem Ent.ofAK {P : Program} {C : Cx P} {V : List Nat} {env env' ov : Env} {hp hp' oh : Heap} {nx nx0 yk yk' : Nat} (Z : List Nat) (h : lpE ov env' V fun env' => lpH oh hp' [] fun hp' => pairE env env' (C.kp.map fun o => (o, o)) fun R => pairH hp hp' R fun R => pairH hp hp' R fun R =>
    (nodupB R = true ∧ ltB nx0 R = true ∧ kpB R C.kp = true) ∧ yk' = yk ∧ EnvLe hp (· ∈ Z) (rget R) env env' ∧ HpLe hp (· ∈ Z) (rget R) hp') : Ent C ⟨env, hp, nx, yk⟩ (hdS V env' hp' nx0 ov oh yk') := by
  rw [lpE_eq, lpH_eq] at h
  exact Ent.ofK Z h
section
variable {P : Program}
end
end Go.Sg
namespace Go.Sg
open Go
theorem wrap_un {k : IntKind} (hk : k.signed = false) (n : Int) : k.wrap n = n % (2 ^ k.bits : Int) := by
  unfold IntKind.wrap; simp [hk]
theorem wrap_nat {k : IntKind} (hk : k.signed = false) {a : Nat} (ha : a < 2 ^ k.bits) : k.wrap (a : Int) = a := by
  rw [wrap_un hk]
  have : ((2 ^ k.bits : Nat) : Int) = (2 ^ k.bits : Int) := by norm_cast
  rw [← this, ← Int.natCast_emod, Nat.mod_eq_of_lt ha]
theorem wrap_u64 (n : Int) : IntKind.u64.wrap n = n % 18446744073709551616 := wrap_un rfl n
theorem wrap_u8 (n : Int) : IntKind.u8.wrap n = n % 256 := wrap_un rfl n
section
variable {k : IntKind} {a b : Nat}
theorem bits_or (hk : k.signed = false) (ha : a < 2 ^ k.bits) (hb : b < 2 ^ k.bits) : bitsI .or k a b = ((a ||| b : Nat) : Int) := by
  unfold bitsI
  simp only [BitVec.ofInt_natCast, BitVec.toNat_or, BitVec.toNat_ofNat, Nat.mod_eq_of_lt ha, Nat.mod_eq_of_lt hb]
  exact wrap_nat hk (Nat.or_lt_two_pow ha hb)
theorem bits_xor (hk : k.signed = false) (ha : a < 2 ^ k.bits) (hb : b < 2 ^ k.bits) : bitsI .xor k a b = ((a ^^^ b : Nat) : Int) := by
  unfold bitsI
  simp only [BitVec.ofInt_natCast, BitVec.toNat_xor, BitVec.toNat_ofNat, Nat.mod_eq_of_lt ha, Nat.mod_eq_of_lt hb]
  exact wrap_nat hk (Nat.xor_lt_two_pow ha hb)
end
theorem xor_ones {w a : Nat} (h : a < 2 ^ w) : a ^^^ (2 ^ w - 1) = 2 ^ w - 1 - a := by
  have e := congrArg BitVec.toNat (BitVec.xor_allOnes (x := BitVec.ofNat w a))
  simp only [BitVec.toNat_xor, BitVec.toNat_ofNat, BitVec.toNat_allOnes, BitVec.toNat_not, Nat.mod_eq_of_lt h] at e
  exact e
theorem or_shift {a b i : Nat} (h : a < 2 ^ i) : a ||| (b * 2 ^ i) = a + b * 2 ^ i := by
  rw [Nat.or_comm, Nat.mul_comm, ← Nat.two_pow_add_eq_or_of_lt h b, Nat.add_comm]
end Go.Sg
namespace Go.Sg
open Go Go.ChangeShapes Go.WideShapes
theorem mem_weightsAll {H : Type} {P : Program} {e : TypeId} {n : Nat} : ∀ {ds : List (DataW H)} {d : DataW H}, d ∈ ds → n ∈ DataW.weights P e d → n ∈ DataW.weightsAll P e ds
  | x :: r, d, h, hn => by
    simp only [DataW.weightsAll, List.mem_append]
    rcases List.mem_cons.1 h with h | h
    · subst h; exact .inl hn
    · exact .inr (mem_weightsAll h hn)
def allB (w : World) : Nat → Prop := fun b => b < w.heap.size
structure Rdc (P : Program) (t : TypeId) (α : Type) (ec : α → List PV) (ok : α → Prop) : Prop where
  sz : ∀ x, ok x → (ec x).length = P.cellsOf t
  one : ∀ x, ok x → ∀ c ∈ ec x, c.one = true
  rd : ∀ {H : Type} {enc : TypeId × Value → H} {w : World} {n : Nat} {cs : List Value} {y}, DataW.trod enc P w 0 (fun _ => true) true n t cs = some y → (∀ k ∈ DataW.weights P t y.1, k ≤ reachBytes) →
    ∃ x, ok x ∧ cs.length = P.cellsOf t ∧ ∀ (i : Nat) p, (ec x)[i]? = some p → RP (allB w) w (cs[i]?.getD undef) p
section
variable {P : Program} {t e : TypeId} {α β : Type} {ec : α → List PV} {ok : α → Prop}
theorem Rdc.map {ec' : β → List PV} {ok' : β → Prop} (h : Rdc P t α ec ok) (f : α → β) (g : β → α) (hg : ∀ x, f (g x) = x) (he : ∀ x, ok x → ec' (f x) = ec x) (ho : ∀ x, ok x → ok' (f x)) (hb : ∀ y, ok' y → ok (g y)) : Rdc P t β ec' ok' where
  sz y hy := by rw [← hg y, he _ (hb y hy)]; exact h.sz _ (hb y hy)
  one y hy := by rw [← hg y, he _ (hb y hy)]; exact h.one _ (hb y hy)
  rd hr hw := by
    obtain ⟨x, h1, h2, h3⟩ := h.rd hr hw
    exact ⟨f x, ho x h1, h2, fun i p hp => h3 i p (by rw [← he x h1]; exact hp)⟩
theorem Rdc.int {k : IntKind} (ht : P.underlying t = some (.int k)) (hc : P.cellsOf t = 1) : Rdc P t Int (fun n => [.int k n]) (fun n => (Lit.int k n).wf = true) where
  sz _ _ := by rw [hc]; rfl
  one _ _ c hc := by simp at hc; subst hc; rfl
  rd hr _ := by
    obtain ⟨n, rfl, _, hw⟩ := DataW.trod_int ht hr
    exact ⟨n, hw, by rw [hc]; rfl, fun i p hp => by
      cases i with
      | zero => simp at hp; subst hp; exact .int k n
      | succ i => simp at hp⟩
theorem Rdc.bool (ht : P.underlying t = some .bool) (hc : P.cellsOf t = 1) : Rdc P t Bool (fun b => [.bool b]) (fun _ => True) where
  sz _ _ := by rw [hc]; rfl
  one _ _ c hc := by simp at hc; subst hc; rfl
  rd hr _ := by
    obtain ⟨b, rfl, _⟩ := DataW.trod_bool ht hr
    exact ⟨b, trivial, by rw [hc]; rfl, fun i p hp => by
      cases i with
      | zero => simp at hp; subst hp; exact .bool b
      | succ i => simp at hp⟩
theorem Rdc.str (ht : P.underlying t = some .string) (hc : P.cellsOf t = 1) : Rdc P t ByteArray (fun b => [.str b]) (fun b => b.size ≤ reachBytes) where
  sz _ _ := by rw [hc]; rfl
  one _ _ c hc := by simp at hc; subst hc; rfl
  rd hr hk := by
    obtain ⟨b, rfl, rfl, hw⟩ := DataW.trod_string ht hr
    exact ⟨b, by have := hk b.data.toList.length (by simp [DataW.weights]); simpa using this, by rw [hc]; rfl, fun i p hp => by
      cases i with
      | zero => simp at hp; subst hp; exact .str b
      | succ i => simp at hp⟩
theorem addr_none {w : World} {a : Addr} {i : Nat} {v : Value} (h : w.cell? (a.add i) = some v) : (i = 0 → a.spot = none) ∧ w.cell? ⟨a.block, a.off + i, none⟩ = some v := by
  obtain ⟨b, off, sp⟩ := a
  unfold Addr.add at h
  split at h
  · rename_i h0; subst h0
    cases sp with
    | none => exact ⟨fun _ => rfl, h⟩
    | some s =>
      exfalso
      unfold World.cell? at h
      split at h <;> simp at h
  · rename_i h0
    exact ⟨fun e => absurd e h0, h⟩
theorem cells_lt {w : World} {b off : Nat} {v : Value} (h : w.cell? ⟨b, off, none⟩ = some v) : b < w.heap.size := by
  unfold World.cell? at h
  split at h
  · rename_i hb; exact lt_of_get hb
  · cases h
theorem Rdc.slice {sz : Nat} {ep : α → PV} (ht : P.underlying t = some (.slice e)) (hc : P.cellsOf t = 1) (h : Rdc P e α ec ok) (hz : P.cellsOf e = sz) (h0 : 0 < sz) (hbt : 0 < P.bytesOf e) (hcells : ∀ x, ok x → (ep x).cells = ec x) :
    Rdc P t (List α) (fun l => [.sl sz false (l.map ep)]) (fun l => l.length ≤ reachBytes ∧ ∀ x ∈ l, ok x) where
  sz _ _ := by rw [hc]; rfl
  one _ _ c hc := by simp at hc; subst hc; rfl
  rd := by
    intro H enc w n cs y hr hwt
    rcases DataW.trod_slice ht hr with ⟨rfl, _⟩ | ⟨a, len, cap, elems, rest, m, _, rfl, rfl, hb, hl, hm, hlen, hel, _, _⟩
    · refine ⟨[], ⟨by simp, by simp⟩, by rw [hc]; rfl, fun i p hp => ?_⟩
      cases i with
      | zero => simp at hp; subst hp; exact .esl none 0 sz false (Nat.zero_le _) (fun _ => rfl) (fun h => by cases h)
      | succ i => simp at hp
    · have hlenb : len ≤ reachBytes := by
        have h1 := hwt ((elems.length + rest.length) * P.bytesOf e) (by simp [DataW.weights, ht])
        have h2 : len ≤ (elems.length + rest.length) * P.bytesOf e := by
          rw [← hlen]
          calc elems.length ≤ elems.length + rest.length := Nat.le_add_right _ _
            _ ≤ (elems.length + rest.length) * P.bytesOf e := Nat.le_mul_of_pos_right _ hbt
        omega
      have each : ∀ i, i < len → ∃ cs' x, w.cells? 0 (a.add (i * sz)) sz = some cs' ∧ ok x ∧ cs'.length = sz ∧ ∀ (j : Nat) p, (ec x)[j]? = some p → RP (allB w) w (cs'[j]?.getD undef) p := by
        intro i hi
        have h1 := hel i hi
        rw [List.getElem?_eq_getElem (by omega)] at h1
        obtain ⟨cs', k1, k2⟩ := Option.bind_eq_some_iff.1 h1
        obtain ⟨x, q1, q2, q3⟩ := h.rd k2 (fun k hk => hwt k (by
          simp only [DataW.weights, ht, List.mem_cons, List.mem_append]
          exact .inr (.inl (mem_weightsAll (List.mem_map.2 ⟨_, List.getElem_mem _, rfl⟩) hk))))
        rw [hz] at k1 q2
        exact ⟨cs', x, k1, q1, q2, q3⟩
      rcases Nat.eq_zero_or_pos len with hl0 | hlp
      · subst hl0
        refine ⟨[], ⟨by simp, by simp⟩, by rw [hc]; rfl, fun i p hp => ?_⟩
        cases i with
        | zero => simp at hp; subst hp; exact .esl (some a) cap sz false hm (fun h => by cases h) (fun h => by cases h)
        | succ i => simp at hp
      · have hcellOf : ∀ i cs', i < len → w.cells? 0 (a.add (i * sz)) sz = some cs' → cs'.length = sz → ∀ j, j < sz → (i * sz + j = 0 → a.spot = none) ∧ w.cell? ⟨a.block, a.off + i * sz + j, none⟩ = some (cs'[j]?.getD undef) := by
          intro i cs' hi hcs hcl j hj
          obtain ⟨_, _, hg⟩ := World.cells?_some hcs
          have h1 := hg j hj
          rw [List.getElem?_eq_getElem (by omega)] at h1
          have h2 := h1
          have e0 : (a.add (i * sz)).add j = a.add (i * sz + j) := by
            unfold Addr.add
            by_cases hi : i * sz = 0 <;> by_cases hj : j = 0 <;> simp [hi, hj, Nat.add_assoc]
          rw [e0] at h1
          obtain ⟨g1, g2⟩ := addr_none h1
          refine ⟨g1, ?_⟩
          rw [Nat.add_assoc, g2, List.getElem?_eq_getElem (by omega)]; rfl
        classical
        let fx : Nat → α := fun i => if hi : i < len then Classical.choose (Classical.choose_spec (each i hi)) else Classical.choose (Classical.choose_spec (each 0 hlp))
        let fc : Nat → List Value := fun i => if hi : i < len then Classical.choose (each i hi) else []
        have hfx : ∀ i, i < len → w.cells? 0 (a.add (i * sz)) sz = some (fc i) ∧ ok (fx i) ∧ (fc i).length = sz ∧ ∀ (j : Nat) p, (ec (fx i))[j]? = some p → RP (allB w) w ((fc i)[j]?.getD undef) p := by
          intro i hi
          have := Classical.choose_spec (Classical.choose_spec (each i hi))
          simp only [fx, fc, hi, dif_pos]
          exact this
        have hsp : a.spot = none := by
          obtain ⟨k1, _, k3, _⟩ := hfx 0 hlp
          exact (hcellOf 0 _ hlp k1 k3 0 h0).1 (by simp)
        have ha : a = ⟨a.block, a.off, none⟩ := by cases a; simp_all
        have hblk : a.block < w.heap.size := by
          obtain ⟨k1, _, k3, _⟩ := hfx 0 hlp
          exact cells_lt (hcellOf 0 _ hlp k1 k3 0 h0).2
        have hget : ∀ (i : Nat) p, ((List.range len).map (fun i => ep (fx i)))[i]? = some p → i < len ∧ p = ep (fx i) := by
          intro i p hp
          simp only [List.getElem?_map, Option.map_eq_some_iff] at hp
          obtain ⟨k, hk, rfl⟩ := hp
          obtain ⟨g1, g2⟩ := List.getElem?_eq_some_iff.1 hk
          simp at g1 g2
          subst g2
          exact ⟨g1, rfl⟩
        refine ⟨(List.range len).map fx, ⟨by simpa using hlenb, by
          intro x hx
          simp only [List.mem_map, List.mem_range] at hx
          obtain ⟨i, hi, rfl⟩ := hx
          exact (hfx i hi).2.1⟩, by rw [hc]; rfl, fun i p hp => ?_⟩
        cases i with
        | succ i => simp at hp
        | zero =>
          simp at hp; subst hp
          show RP (allB w) w (.slice (some a) len cap) _
          rw [ha]
          refine RP.sl a.block a.off len cap sz false _ (fun i j => (fc i)[j]?.getD undef) hblk (by simp) hl hm (fun h => by cases h) ?_ ?_ ?_
          · intro i p hp
            obtain ⟨h1, rfl⟩ := hget i p (by simpa [Function.comp] using hp)
            obtain ⟨_, k2, _⟩ := hfx i h1
            exact ⟨by rw [hcells _ k2, h.sz _ k2, hz], by rw [hcells _ k2]; exact h.one _ k2⟩
          · intro i p j q hp hq
            obtain ⟨h1, rfl⟩ := hget i p (by simpa [Function.comp] using hp)
            obtain ⟨k1, k2, k3, _⟩ := hfx i h1
            have hj : j < sz := by
              have := (List.getElem?_eq_some_iff.1 hq).1
              rw [hcells _ k2, h.sz _ k2, hz] at this; exact this
            exact (hcellOf i _ h1 k1 k3 j hj).2
          · intro i p j q hp hq
            obtain ⟨h1, rfl⟩ := hget i p (by simpa [Function.comp] using hp)
            obtain ⟨k1, k2, k3, k4⟩ := hfx i h1
            rw [hcells _ k2] at hq
            exact k4 j q hq
structure Rdf (P : Program) (off : Nat) (fs : List Field) (α : Type) (ec : α → List PV) (ok : α → Prop) : Prop where
  sz : ∀ x, ok x → (ec x).length = (fs.map fun f => P.cellsOf f.type).sum
  one : ∀ x, ok x → ∀ c ∈ ec x, c.one = true
  rd : ∀ {H : Type} {enc : TypeId × Value → H} {w : World} {n : Nat} {cs : List Value}, (∀ f ∈ fs, ∃ y, DataW.trod enc P w 0 (fun _ => true) true n f.type ((cs.drop f.offset).take (P.cellsOf f.type)) = some y ∧ ∀ k ∈ DataW.weights P f.type y.1, k ≤ reachBytes) →
    ∃ x, ok x ∧ ∀ (i : Nat) p, (ec x)[i]? = some p → RP (allB w) w (cs[off + i]?.getD undef) p
theorem Rdf.nil {off : Nat} : Rdf P off [] Unit (fun _ => []) (fun _ => True) where
  sz _ _ := rfl
  one _ _ c hc := by simp at hc
  rd _ := ⟨(), trivial, fun i p hp => by simp at hp⟩
theorem Rdf.cons {off off' : Nat} {f : Field} {fs : List Field} {ec' : β → List PV} {ok' : β → Prop} (h : Rdc P f.type α ec ok) (k : Rdf P off' fs β ec' ok') (hoff : f.offset = off) (ho : off' = off + P.cellsOf f.type) :
    Rdf P off (f :: fs) (α × β) (fun x => ec x.1 ++ ec' x.2) (fun x => ok x.1 ∧ ok' x.2) := by
 subst ho; exact {
  sz := fun x hx => by simp [h.sz _ hx.1, k.sz _ hx.2]
  one := fun x hx c hc => by
    rcases List.mem_append.1 hc with hc | hc
    · exact h.one _ hx.1 c hc
    · exact k.one _ hx.2 c hc
  rd := by
    intro H enc w n cs hf
    obtain ⟨y, hy, hyw⟩ := hf f (by simp)
    obtain ⟨x, h1, h2, h3⟩ := h.rd hy hyw
    obtain ⟨x', k1, k2⟩ := k.rd (cs := cs) (fun g hg => hf g (by simp [hg]))
    refine ⟨(x, x'), ⟨h1, k1⟩, fun i p hp => ?_⟩
    have hp : (ec x ++ ec' x')[i]? = some p := hp
    rw [List.getElem?_append, h.sz x h1] at hp
    split at hp
    · rename_i hi
      have := h3 i p hp
      rw [List.getElem?_take, if_pos hi, List.getElem?_drop, hoff] at this
      exact this
    · rename_i hi
      have := k2 _ p hp
      rw [show off + P.cellsOf f.type + (i - P.cellsOf f.type) = off + i by omega] at this
      exact this }
theorem Rdc.struct {fs : Array Field} (ht : P.underlying t = some (.struct fs)) (h : Rdf P 0 fs.toList α ec ok) (hc : P.cellsOf t = (fs.toList.map fun f => P.cellsOf f.type).sum) : Rdc P t α ec ok where
  sz x hx := by rw [h.sz x hx, hc]
  one := h.one
  rd := by
    intro H enc w n cs y hr hwt
    obtain ⟨xs, m, _, rfl, hl, hlen, hf⟩ := DataW.trod_struct ht hr
    obtain ⟨x, h1, h2⟩ := h.rd (enc := enc) (w := w) (n := m) (cs := cs) (fun f hfm => by
      obtain ⟨i, hi, he⟩ := List.getElem_of_mem hfm
      have hi' : i < fs.size := by simpa using hi
      have e : fs[i]? = some f := by rw [Array.getElem?_eq_getElem hi']; simpa using he
      have := hf i f e
      rw [List.getElem?_eq_getElem (by omega)] at this
      refine ⟨_, this, fun k hk => hwt k ?_⟩
      simp only [DataW.weights, ht]
      exact DataW.weights_mem_each (j := i) (by rw [List.getElem?_map, Array.getElem?_toList, e]; rfl) (by rw [List.getElem?_map, List.getElem?_eq_getElem (by omega)]; rfl) k hk)
    exact ⟨x, h1, hl, fun i p hp => by have := h2 i p hp; rwa [Nat.zero_add] at this⟩
theorem Rdc.array {n sz : Nat} (ht : P.underlying t = some (.array n e)) (h : Rdc P e α ec ok) (hz : P.cellsOf e = sz) (hc : P.cellsOf t = n * sz) (h0 : 0 < sz) : Rdc P t (List α) (fun l => l.flatMap ec) (fun l => l.length = n ∧ ∀ x ∈ l, ok x) where
  sz l hl := by
    rw [hc, ← hl.1]
    have : ∀ l : List α, (∀ x ∈ l, ok x) → (l.flatMap ec).length = l.length * sz := by
      intro l
      induction l with
      | nil => intro _; simp
      | cons x l ih =>
        intro hx
        rw [List.flatMap_cons, List.length_append, ih (fun y hy => hx y (by simp [hy])), h.sz x (hx x (by simp)), hz, List.length_cons, Nat.add_mul]; omega
    exact this l hl.2
  one l hl c hc := by
    obtain ⟨x, hx, hcx⟩ := List.mem_flatMap.1 hc
    exact h.one x (hl.2 x hx) c hcx
  rd := by
    intro H enc w k cs y hr hwt
    obtain ⟨xs, m, _, rfl, hl, hlen, hf⟩ := DataW.trod_array ht hr
    have each : ∀ i, i < n → ∃ x, ok x ∧ ∀ (j : Nat) p, (ec x)[j]? = some p → RP (allB w) w (cs[i * sz + j]?.getD undef) p := by
      intro i hi
      have h1 := hf i hi
      rw [List.getElem?_eq_getElem (by omega)] at h1
      obtain ⟨x, q1, q2, q3⟩ := h.rd h1 (fun k hk => hwt k (by
        simp only [DataW.weights, ht]
        exact mem_weightsAll (List.mem_map.2 ⟨_, List.getElem_mem _, rfl⟩) hk))
      refine ⟨x, q1, fun j p hp => ?_⟩
      have hj : j < P.cellsOf e := by rw [← h.sz x q1]; exact (List.getElem?_eq_some_iff.1 hp).1
      have := q3 j p hp
      rw [List.getElem?_take, if_pos hj, List.getElem?_drop, hz] at this
      exact this
    have build : ∀ k, k ≤ n → ∃ l : List α, l.length = k ∧ (∀ x ∈ l, ok x) ∧ ∀ (i : Nat) x, l[i]? = some x → ∀ (j : Nat) p, (ec x)[j]? = some p → RP (allB w) w (cs[i * sz + j]?.getD undef) p := by
      intro k
      induction k with
      | zero => intro _; exact ⟨[], rfl, by simp, by simp⟩
      | succ k ih =>
        intro hk
        obtain ⟨l, a1, a2, a3⟩ := ih (by omega)
        obtain ⟨x, b1, b2⟩ := each k (by omega)
        refine ⟨l ++ [x], by simp [a1], fun y hy => ?_, fun i y hy => ?_⟩
        · rcases List.mem_append.1 hy with hy | hy
          · exact a2 y hy
          · simp at hy; subst hy; exact b1
        · rw [List.getElem?_append] at hy
          split at hy
          · exact a3 i y hy
          · rename_i hi
            rw [a1] at hi hy
            have : i = k := by
              have := (List.getElem?_eq_some_iff.1 hy).1
              simp at this; omega
            subst this
            simp at hy; subst hy
            exact b2
    obtain ⟨l, a1, a2, a3⟩ := build n (Nat.le_refl _)
    refine ⟨l, ⟨a1, a2⟩, hl, fun i p hp => ?_⟩
    have fm : ∀ (l : List α), (∀ x ∈ l, ok x) → ∀ (i : Nat) p, (l.flatMap ec)[i]? = some p → ∃ x, l[i / sz]? = some x ∧ (ec x)[i % sz]? = some p := by
      intro l
      induction l with
      | nil => intro _ i p hp; simp at hp
      | cons x l ih =>
        intro hx i p hp
        have hs : (ec x).length = sz := by rw [h.sz x (hx x (by simp)), hz]
        rw [List.flatMap_cons, List.getElem?_append, hs] at hp
        split at hp
        · rename_i hi
          exact ⟨x, by rw [Nat.div_eq_of_lt hi]; rfl, by rw [Nat.mod_eq_of_lt hi]; exact hp⟩
        · rename_i hi
          obtain ⟨y, c1, c2⟩ := ih (fun z hz => hx z (by simp [hz])) _ p hp
          have hi' : sz ≤ i := by omega
          refine ⟨y, ?_, ?_⟩
          · rw [show i / sz = (i - sz) / sz + 1 by rw [← Nat.sub_add_cancel hi', Nat.add_div_right _ h0, Nat.add_sub_cancel]]
            simpa using c1
          · rw [show i % sz = (i - sz) % sz by rw [← Nat.mod_eq_sub_mod hi']]; exact c2
    obtain ⟨x, c1, c2⟩ := fm l a2 i p hp
    have := a3 _ x c1 _ p c2
    rwa [Nat.div_add_mod' i sz] at this
def Rda (P : Program) (t : TypeId) (α : Type) (ev : α → PV) (ok : α → Prop) : Prop :=
  ∀ {H : Type} {enc : TypeId × Value → H} {w : World} {r : Reach} {b0 : Nat} {v : Value} {d : DataW H} {ps : List MemPlace}, Value.okWide P w r b0 t v → DataW.Trod enc P w 0 (fun _ => true) true t v d ps → (∀ k ∈ DataW.weights P t d, k ≤ reachBytes) → ∃ x, ok x ∧ RP (allB w) w v (ev x)
def aggT (P : Program) (t : TypeId) : Bool := match P.underlying t with | some (.struct _) => true | some (.array _ _) => true | _ => false
theorem Rda.agg (h : Rdc P t α ec ok) (ht : aggT P t = true) : Rda P t α (fun x => .agg (ec x)) ok := by
  intro H enc w r b0 v d ps hv hd hwt
  obtain ⟨n, hn⟩ := hd
  obtain ⟨x, h1, h2, h3⟩ := h.rd hn hwt
  refine ⟨x, h1, ?_⟩
  have hv' : ∃ cs, v = .agg cs := by
    unfold aggT at ht
    unfold Value.okWide at hv
    split at ht <;> simp_all
    · obtain ⟨cs, e, _⟩ := hv; exact ⟨cs, e⟩
    · obtain ⟨cs, e, _⟩ := hv; exact ⟨cs, e⟩
  obtain ⟨cs, rfl⟩ := hv'
  have hl : cs.size = P.cellsOf t := by simpa [Value.cells] using h2
  refine .agg cs _ (by rw [hl, h.sz x h1]) fun i p hp => ?_
  have := h3 i p hp
  simpa [Value.cells] using this
theorem Rda.one {ev : α → PV} (h : Rdc P t α (fun x => [ev x]) ok) (ht : aggT P t = false) : Rda P t α ev ok := by
  intro H enc w r b0 v d ps hv hd hwt
  obtain ⟨n, hn⟩ := hd
  obtain ⟨x, h1, h2, h3⟩ := h.rd hn hwt
  refine ⟨x, h1, ?_⟩
  have hv' : v.cells = #[v] := by
    cases v <;> try rfl
    exfalso
    rename_i cs
    unfold aggT at ht
    unfold Value.okWide Cell.okWide Cell.ok at hv
    split at ht <;> try (cases ht; done)
    cases hu : P.underlying t with
    | none => simp [hu] at hv
    | some u => cases u <;> simp_all
  have := h3 0 _ rfl
  rw [hv'] at this
  simpa using this
theorem keptBut_of {F F' : Nat → Prop} {w w' : World} (b : Base F Num.no w F' Num.no w') (may : MemPlace → Prop) : w.keptBut w' may := by
  refine ⟨b.os, b.output, fun i hi => ?_⟩
  have := b.old i hi (fun h => Num.no_has h)
  rw [this]
  cases h : w.heap[i]? with
  | none => trivial
  | some o => cases o <;> simp
theorem sameAt_of {F F' : Nat → Prop} {w w' : World} (b : Base F Num.no w F' Num.no w') (p : MemPlace) (hp : p.block < w.heap.size) : w.sameAt w' p := by
  have := b.old p.block hp (fun h => Num.no_has h)
  cases p with
  | cell k off => exact cell_of_block this
  | map k => exact this
theorem trodAll_carry {H : Type} {enc : TypeId × Value → H} {w w' : World} {base : Nat} {spare : Nat → Bool} {held : Bool} : ∀ {ts : List TypeId} {vs : List Value} {ds : List (DataW H)} {ps : List MemPlace},
    DataW.TrodAll enc P w base spare held ts vs ds ps → (∀ p ∈ ps, w.sameAt w' p) → DataW.TrodAll enc P w' base spare held ts vs ds ps
  | [], [], [], _, h, _ => h
  | _ :: _, _ :: _, _ :: _, _, ⟨p, q, ⟨n, h1⟩, h2, e⟩, hs => ⟨p, q, ⟨n, DataW.trod_carry n _ _ _ h1 fun x hx => hs x (by rw [e]; exact List.mem_append_left _ hx)⟩, trodAll_carry h2 (fun x hx => hs x (by rw [e]; exact List.mem_append_right _ hx)), e⟩
theorem law_post {H : Type} {enc : TypeId × Value → H} {fn : Func} {s : ChangeSpec} {W W' : World} {args : Array Value} {ds gs : List (DataW H)} {before : List MemPlace} {F F' : Nat → Prop} {tb : TypeId}
    (K : Kids P (· < P.types.size)) (hz : ∀ t e, t < P.types.size → P.underlying t = some (.slice e) → 0 < P.cellsOf e) (hts : ∀ t ∈ fn.params.toList, t < P.types.size)
    (hW : DataW.Whole enc P fn.params.toList s.vars false W args.toList ds gs before) (hb : Base F Num.no W F' Num.no W')
    (hv0 : s.vars = []) (hres : (s.fn H (ds ++ gs)).results = [.lit (.bool true)]) (hargs : (s.fn H (ds ++ gs)).args = ds) (hvars : (s.fn H (ds ++ gs)).vars = [])
    (hrt : fn.resultTypes = #[tb]) (hbt : P.underlying tb = some .bool) :
    s.post enc P fn false true false false W args (.bool true) W' := by
  have hlt := hW.lt
  have hW2 := hW
  obtain ⟨p, q, hA, hV, rfl, hfz, hnd⟩ := hW2
  refine ⟨ds, gs, p ++ q, [], p, [], hW, ?_, ?_, ?_, keptBut_of hb _, fun h => by cases h⟩
  · rw [hres, hrt]
    exact trodAll_mk1 (Go.RowKit.shut_bool hbt true)
  · rw [hargs]
    have h1 : DataW.TrodAll enc P W 0 (fun b => decide (b < W.heap.size)) true fn.params.toList args.toList ds p :=
      DataW.TrodAll.respare K hz hts hA (fun x hx => by simpa using hlt x (List.mem_append_left _ hx))
    exact trodAll_carry h1 fun x hx => sameAt_of hb x (hlt x (List.mem_append_left _ hx))
  · rw [hvars, hv0]; rfl
def ArgR (P : Program) (ts : List TypeId) (A : Type) (ev : A → List PV) (ok : A → Prop) : Prop :=
  ∀ {H : Type} {enc : TypeId × Value → H} {w : World} {r : Reach} {b0 : Nat} {vs : List Value} {ds : List (DataW H)} {ps : List MemPlace}, (∀ (j : Nat) t v, ts[j]? = some t → vs[j]? = some v → Value.okWide P w r b0 t v) →
    DataW.TrodAll enc P w 0 (fun _ => true) true ts vs ds ps → (∀ k ∈ DataW.weightsEach P ts ds, k ≤ reachBytes) → ∃ a, ok a ∧ vs.length = (ev a).length ∧ ∀ (i : Nat) p, (ev a)[i]? = some p → RP (allB w) w (vs[i]?.getD undef) p
theorem ArgR.nil : ArgR P [] Unit (fun _ => []) (fun _ => True) := by
  intro H enc w r b0 vs ds ps _ h _
  obtain ⟨rfl, rfl, rfl⟩ := trodAll_nil h
  exact ⟨(), trivial, rfl, fun i p hp => by simp at hp⟩
theorem ArgR.cons {ts : List TypeId} {ev : α → PV} {B : Type} {ev' : B → List PV} {ok' : B → Prop} (h : Rda P t α ev ok) (k : ArgR P ts B ev' ok') : ArgR P (t :: ts) (α × B) (fun x => ev x.1 :: ev' x.2) (fun x => ok x.1 ∧ ok' x.2) := by
  intro H enc w r b0 vs ds ps hv hd hw
  obtain ⟨v, vs', d, ds', p, q, rfl, rfl, rfl, h1, h2⟩ := trodAll_cons hd
  obtain ⟨x, a1, a2⟩ := h (hv 0 t v rfl rfl) h1 (fun n hn => hw n (by simp only [DataW.weightsEach, List.mem_append]; exact .inl hn))
  obtain ⟨y, b1, b2, b3⟩ := k (fun j t v ht hv' => hv (j + 1) t v (by simpa using ht) (by simpa using hv')) h2 (fun n hn => hw n (by simp only [DataW.weightsEach, List.mem_append]; exact .inr hn))
  refine ⟨(x, y), ⟨a1, b1⟩, by simp [b2], fun i p hp => ?_⟩
  cases i with
  | zero => simp at hp; subst hp; exact a2
  | succ i => simpa using b3 i p (by simpa using hp)
theorem law_lifted {C : Checked} {os : Os} {f : FuncId} {fn : Func} {s : ChangeSpec} {H : Type} {enc : TypeId × Value → H} {A : Type} {ev : A → List PV} {ok : A → Prop} {tb : TypeId} (own : ownKnob C.prog.godebug = none) (started : os.Started) (noInit : C.prog.inits.idxOf? f = none)
    (hfn : C.prog.funcs[f]? = some fn)
    (witness : ∃ (w : World) (tape : Tape) (i : Input), w.os = os ∧ (w.forCall tape i).Shaped C.prog ∧ i.vars = [] ∧ Input.okWide C.prog (w.forCall tape i) .any w.heap.size f i ∧
      s.pre6 enc C.prog fn [] false (w.forCall tape i).memory i.args ∧ ({} : Assume).holds C.prog (lone (Frame.enter C.prog f i.args .normal) [] (w.forCall tape i)))
    (hl : laidOutB C.prog = true) (hmr : mapsRowed C.prog = true) (hz : ((List.range C.prog.types.size).all fun t => match C.prog.underlying t with | some (.slice e) => decide (0 < C.prog.cellsOf e) | _ => true) = true)
    (hts : (fn.params.toList.all fun t => decide (t < C.prog.types.size)) = true) (hv0 : s.vars = [])
    (hrt : fn.resultTypes = #[tb]) (hbt : C.prog.underlying tb = some .bool)
    (hspec : ∀ ds : List (DataW H), ds.length = fn.params.size → s.fn H ds = { results := [.lit (.bool true)], args := ds })
    (hA : ArgR C.prog fn.params.toList A ev ok) (hlaw : ∀ a, ok a → PCalls C.prog f (ev a) (.bool true)) :
    ReturnsInHanded {} C os f .any (s.pre6 enc C.prog fn [] false) (s.post enc C.prog fn false true false false) := by
  refine returnsInHanded_of_change_sized own started noInit hfn witness ?_
  intro W base args ds gs before hval hW _ hwt _
  have hW' := hW
  obtain ⟨p, q, hT, hV, rfl, hfz, hnd⟩ := hW'
  have hgs : gs = [] := by
    rw [hv0] at hV
    cases gs with
    | nil => rfl
    | cons g r => simp [DataW.TrodVars] at hV
  subst hgs
  have hvt : s.plain.varTypes C.prog = [] := by
    simp [DataSpec.varTypes, ChangeSpec.plain, hv0]
  rw [hvt, List.append_nil, List.append_nil] at hwt
  obtain ⟨a, a1, a2, a3⟩ := hA (fun j t v ht hv => hval j t v (by simpa using ht) (by simpa using hv)) hT (fun k hk => by simpa using List.all_eq_true.1 hwt k hk)
  have hcall := hlaw a a1 (allB W) W args (fun b hb => hb) (by simpa using a2) (fun i p hp => by simpa using a3 i p hp)
  refine hcall.mono fun e W' ⟨v, F', he, hb, _, hv⟩ => ?_
  cases hv
  refine ⟨_, he, ?_⟩
  have hlen : ds.length = fn.params.size := by
    have := (trodAll_length hT).2
    simpa using this
  have hsp := hspec ds hlen
  exact law_post (kids_rows hl hmr) (slices_full_of C.prog hz) (fun t ht => by simpa using List.all_eq_true.1 hts t ht) hW hb hv0 (by rw [List.append_nil, hsp]) (by rw [List.append_nil, hsp]) (by rw [List.append_nil, hsp]) hrt hbt
end
end Go.Sg
namespace Go.Sg
theorem kBy {p : Prop} [Decidable p] {A B : Prop} (h : p) (k : p → A) : Br (decide p) A B := Br.dec k fun c => absurd h c
theorem kBn {p : Prop} [Decidable p] {A B : Prop} (h : ¬ p) (k : ¬ p → B) : Br (decide p) A B := Br.dec (fun c => absurd c h) k
theorem kW1 {P : Prop} (h : P := by first | exact PV.leL_nil | exact cl3) : P := h
theorem kW2 {P : Prop} (h : P := by first | exact rfl | exact trivial) : P := h
theorem kQ1 {P : Prop} (h : P := by first | exact trivial | exact cl9 | exact VLeL.nil | exact OLe.row _ _) : P := h
theorem kQ2 {P : Prop} (h : P := by first | rfl | exact OLe.mapS0 rfl) : P := h
theorem kZ {P : Prop} (h : P := by first | (simp; done) | (congr 1; omega) | (congr 1; (first | (simp; done) | (simp; omega)))) : P := h
class Stx (p : Prop) : Prop where
  t : True
instance {α : Sort _} {f : α → Prop} : Stx (Exists f) := ⟨trivial⟩
theorem stx {p : Prop} [Stx p] (h : p) : p := h
theorem kE {P : Prop} (h : P := by (with_reducible show Exists _); exact exHM _) : P := h
end Go.Sg
