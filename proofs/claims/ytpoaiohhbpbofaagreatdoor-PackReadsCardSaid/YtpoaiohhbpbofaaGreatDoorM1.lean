/-
  Joined by program out of the texts ZE1 ZE2 ZE3 ZE4 ZE5 ZE6 ZE7 ZP1 ZP2 ZE8 ZP3 ZP4 ZP5 ZE9 ZP6 ZE10 ZE11 ZE12 ZE13: contracts for the functions that the law reaches, and the engine that proves them.
-/
import Derived.Orders
import Derived.WalkKit
import Derived.WalkSpells
import Derived.WalkLawsBesides
import Derived.Deep.LoopGhost
import Derived.Lib.AppendStr
import Derived.Laws.CopyRow
import Derived.KernelRfl
import Derived.Scope
import Derived.Laws.MakeOwn
import Derived.Laws.Cover3
import Derived.MapKept
import Derived.Lib.LaidTab
import Derived.Sort.Grow
import Derived.Deep.Draws
/-
  A region that draws its order, walked once in the order of its text, where operations that no edge orders commute: operations are quiet (they yield one value in every world of a class), reads (they leave the world alone) or effects. Speaks of no program.
-/
set_option linter.unusedVariables false
namespace Go.Eng

inductive Cls where
  | q | r | e | z
  deriving DecidableEq

section
variable {P : Program} {C : World → Prop} {cl : Oper → Cls} {ops : Array Oper} {md : Region.Mode}

def QF : Exit → Act → World → Prop := fun _ _ _ => False

/-- One operation, by its class. -/
def tRun (P : Program) (C : World → Prop) (cl : Oper → Cls) (o : Oper) (K : Act → World → Prop) (a : Act) (w : World) : Prop :=
  match cl o with
  | .q => ∃ v, (∀ w', C w' → (execOp a.eval o).run P w' = .ok (.value v) w') ∧ K (a.put o.dst v) w
  | .r => ∃ v, (execOp a.eval o).run P w = .ok (.value v) w ∧ K (a.put o.dst v) w
  | .e => o.wp P a w (fun a' w' => C w' ∧ K a' w') QF
  | .z => o.wp P a w K QF

def gOp (P : Program) (C : World → Prop) (cl : Oper → Cls) (ops : Array Oper) (o : Oper) (K : Act → World → Prop) (a : Act) (w : World) : Prop :=
  if Region.wanted o (yielded ops a.tmps) then tRun P C cl o K a w else K (a.put o.dst undef) w

/-- The walk in the order of the text. -/
def wpT (P : Program) (C : World → Prop) (cl : Oper → Cls) (ops : Array Oper) (Q : Act → World → Prop) : List Oper → Act → World → Prop
  | [], a, w => Q a w
  | o :: rest, a, w => gOp P C cl ops o (wpT P C cl ops Q rest) a w

theorem wp_shape {o : Oper} {a : Act} {w : World} {K : Act → World → Prop} (h : o.wp P a w K QF) :
    o.wp P a w (fun a' w' => K a' w' ∧ ∃ d u, a' = Act.put { a with defers := d } o.dst u) QF := by
  unfold Oper.wp at *
  generalize (execOp a.eval o).run P w = r at *
  cases r with
  | ok n w' =>
    cases n <;> simp only [Oper.upon] at h ⊢
    case value u => exact ⟨h, a.defers, u, rfl⟩
    case skip => exact ⟨h, a.defers, undef, rfl⟩
    case defer d => exact ⟨h, d :: a.defers, undef, rfl⟩
    case enter f args =>
      refine Calls.mono h fun e w'' he => ?_
      cases e with
      | returned u => exact ⟨he, a.defers, u, rfl⟩
      | panicked c => exact he
      | outgrown => exact he
    case row row args => exact Rows.mono h fun u w'' he => ⟨he, a.defers, u, rfl⟩
  | halt x w' => cases x <;> simp only [Oper.upon] at h ⊢ <;> exact h

theorem wp_exists {o : Oper} {a : Act} {w : World} {K : Act → World → Prop} (h : o.wp P a w K QF) : ∃ a' w', K a' w' := by
  unfold Oper.wp at *
  generalize (execOp a.eval o).run P w = r at *
  cases r with
  | ok n w' =>
    cases n <;> simp only [Oper.upon] at h
    case value u => exact ⟨_, _, h⟩
    case skip => exact ⟨_, _, h⟩
    case defer d => exact ⟨_, _, h⟩
    case enter f args =>
      obtain ⟨e, w'', fr, hr, _⟩ := h []
      cases e with
      | returned u => exact ⟨_, _, hr⟩
      | panicked c => exact hr.elim
      | outgrown => obtain ⟨_, _, hq⟩ := hr; exact hq.elim
    case row row args =>
      obtain ⟨v, w'', hr, _⟩ := h default []
      exact ⟨_, _, hr⟩
  | halt x w' =>
    cases x <;> simp only [Oper.upon] at h
    case panic u => exact h.elim

theorem wp_move {o : Oper} {a a2 : Act} {w : World} {K K2 : Act → World → Prop} (h : o.wp P a w K QF) (he : execOp a2.eval o = execOp a.eval o) (hd : a2.defers = a.defers)
    (hk : ∀ d u w', K (Act.put { a with defers := d } o.dst u) w' → K2 (Act.put { a2 with defers := d } o.dst u) w') : o.wp P a2 w K2 QF := by
  have e1 : ∀ (a : Act), ({ a with defers := a.defers } : Act) = a := fun a => rfl
  unfold Oper.wp at *
  rw [he]
  generalize (execOp a.eval o).run P w = r at *
  cases r with
  | ok n w' =>
    cases n <;> simp only [Oper.upon] at h ⊢
    case value u => have := hk a.defers u w' h; rw [← hd] at this; exact this
    case skip => have := hk a.defers undef w' h; rw [← hd] at this; exact this
    case defer d => rw [hd]; exact hk _ _ _ h
    case enter f args =>
      refine Calls.mono h fun e w'' he => ?_
      cases e with
      | returned u => have := hk a.defers u w'' he; rw [← hd] at this; exact this
      | panicked c => exact he
      | outgrown => exact he
    case row row args => exact Rows.mono h fun u w'' he => by have := hk a.defers u w'' he; rw [← hd] at this; exact this
  | halt x w' => cases x <;> simp only [Oper.upon] at h ⊢ <;> exact h

theorem gOp_mono {o : Oper} {K K' : Act → World → Prop} {a : Act} {w : World} (hz : cl o ≠ .z) (hC : C w) (h : ∀ a' w', C w' → K a' w' → K' a' w') (hh : gOp P C cl ops o K a w) : gOp P C cl ops o K' a w := by
  unfold gOp at *
  split
  · rename_i hw
    simp only [hw, if_true] at hh
    unfold tRun at *
    cases hc : cl o <;> simp only [hc] at hh ⊢
    case q => obtain ⟨v, h1, h2⟩ := hh; exact ⟨v, h1, h _ _ hC h2⟩
    case r => obtain ⟨v, h1, h2⟩ := hh; exact ⟨v, h1, h _ _ hC h2⟩
    case e => exact Oper.wp_mono (fun a w hk => ⟨hk.1, h _ _ hk.1 hk.2⟩) hh
    case z => exact absurd hc hz
  · rename_i hw
    simp only [hw] at hh
    exact h _ _ hC hh

theorem gOp_exists {o : Oper} {K : Act → World → Prop} {a : Act} {w : World} (hh : gOp P C cl ops o K a w) : ∃ a' w', K a' w' := by
  unfold gOp at hh
  split at hh
  · unfold tRun at hh
    cases hc : cl o <;> simp only [hc] at hh
    case q => obtain ⟨v, _, h2⟩ := hh; exact ⟨_, _, h2⟩
    case r => obtain ⟨v, _, h2⟩ := hh; exact ⟨_, _, h2⟩
    case e => obtain ⟨a', w', h⟩ := wp_exists hh; exact ⟨a', w', h.2⟩
    case z => obtain ⟨a', w', h⟩ := wp_exists hh; exact ⟨a', w', h⟩
  · exact ⟨_, _, hh⟩

/-- quiet, or passed over: it yields v wherever it comes up -/
def YQ (P : Program) (C : World → Prop) (cl : Oper → Cls) (ops : Array Oper) (o : Oper) (v : Value) (a : Act) : Prop :=
  (Region.wanted o (yielded ops a.tmps) = true ∧ cl o = .q ∧ ∀ w', C w' → (execOp a.eval o).run P w' = .ok (.value v) w') ∨
  (Region.wanted o (yielded ops a.tmps) = false ∧ v = undef)

theorem YQ.gOp {o : Oper} {v : Value} {a : Act} {K : Act → World → Prop} {w : World} (hy : YQ P C cl ops o v a) (h : K (a.put o.dst v) w) : gOp P C cl ops o K a w := by
  unfold Eng.gOp
  rcases hy with ⟨hw, hc, hv⟩ | ⟨hw, rfl⟩
  · simp only [hw, if_true, tRun, hc]; exact ⟨v, hv, h⟩
  · simp only [hw, Bool.false_eq_true, if_false]; exact h

theorem YQ.of_same {o : Oper} {v : Value} {a a' : Act} (hy : YQ P C cl ops o v a) (he : execOp a'.eval o = execOp a.eval o)
    (hw : Region.wanted o (yielded ops a'.tmps) = Region.wanted o (yielded ops a.tmps)) : YQ P C cl ops o v a' := by
  unfold YQ at *
  rw [he, hw]
  exact hy

theorem yq_of_gOp {o : Oper} {a : Act} {K : Act → World → Prop} {w : World} (hq : cl o = .q ∨ Region.wanted o (yielded ops a.tmps) = false) (h : gOp P C cl ops o K a w) :
    ∃ v, YQ P C cl ops o v a ∧ K (a.put o.dst v) w := by
  unfold gOp at h
  by_cases hw : Region.wanted o (yielded ops a.tmps) = true
  · simp only [hw, if_true] at h
    have hc : cl o = .q := hq.resolve_right (by simp [hw])
    simp only [tRun, hc] at h
    obtain ⟨v, h1, h2⟩ := h
    exact ⟨v, .inl ⟨hw, hc, h1⟩, h2⟩
  · simp only [hw] at h
    exact ⟨undef, .inr ⟨by simpa using hw, rfl⟩, h⟩

theorem YQ.uniq {o : Oper} {v v' : Value} {a : Act} {w : World} (hC : C w) (h : YQ P C cl ops o v a) (h' : YQ P C cl ops o v' a) : v = v' := by
  rcases h with ⟨hw, _, hv⟩ | ⟨hw, rfl⟩ <;> rcases h' with ⟨hw', _, hv'⟩ | ⟨hw', rfl⟩
  · have := (hv w hC).symm.trans (hv' w hC); simpa using this
  · rw [hw] at hw'; cases hw'
  · rw [hw] at hw'; cases hw'
  · rfl

theorem put_defers_comm (a : Act) (x : Option Tmp) (v : Value) (d : List Deferred) : ({ a.put x v with defers := d } : Act) = ({ a with defers := d } : Act).put x v := by cases x <;> rfl

variable {oi oj : Oper}

/-- The first is quiet. -/
theorem swap_q (hzj : cl oj ≠ .z) (hap : oi.apart ops oj = true) (hsi : ∀ cs b, oi.op ≠ .select cs b) (hsj : ∀ cs b, oj.op ≠ .select cs b) {K : Act → World → Prop} {a : Act} {w : World} {v : Value}
    (hy : YQ P C cl ops oi v a) (h : gOp P C cl ops oj K (a.put oi.dst v) w) : gOp P C cl ops oj (gOp P C cl ops oi K) a w := by
  obtain ⟨h1, h2, h3⟩ := Oper.apart_spec hap
  have keep : ∀ (a : Act), YQ P C cl ops oi v a → ∀ u, YQ P C cl ops oi v (a.put oj.dst u) := fun a hy u =>
    hy.of_same (execOp_put oi hsi a oj.dst u h3) (wanted_put oi a oj.dst u h3)
  have keepD : ∀ d, YQ P C cl ops oi v { a with defers := d } := fun d => hy.of_same rfl rfl
  unfold gOp at h ⊢
  rw [wanted_put oj a oi.dst v h1] at h
  split
  · rename_i hw
    simp only [hw, if_true] at h
    unfold tRun at h ⊢
    rw [execOp_put oj hsj a oi.dst v h1] at h
    cases hc : cl oj <;> simp only [hc] at h ⊢
    case q => obtain ⟨u, hu, hk⟩ := h; exact ⟨u, hu, (keep a hy u).gOp (by rw [← Act.put_comm a v u h2]; exact hk)⟩
    case r => obtain ⟨u, hu, hk⟩ := h; exact ⟨u, hu, (keep a hy u).gOp (by rw [← Act.put_comm a v u h2]; exact hk)⟩
    case e =>
      refine wp_move h (execOp_put oj hsj a oi.dst v h1).symm (by cases oi.dst <;> rfl) ?_
      rintro d u w' ⟨hCw, hk⟩
      refine ⟨hCw, (keep _ (keepD d) u).gOp ?_⟩
      rw [put_defers_comm, Act.put_comm _ v u h2] at hk
      exact hk
    case z => exact absurd hc hzj
  · rename_i hw
    simp only [hw] at h
    exact (keep a hy _).gOp (by rw [← Act.put_comm a v undef h2]; exact h)

/-- The second is quiet. -/
theorem swap_e (hzi : cl oi ≠ .z) (hzj : cl oj ≠ .z) (hap : oi.apart ops oj = true) (hsi : ∀ cs b, oi.op ≠ .select cs b) (hsj : ∀ cs b, oj.op ≠ .select cs b) {K : Act → World → Prop} {a : Act} {w : World}
    (hq : cl oj = .q ∨ Region.wanted oj (yielded ops a.tmps) = false) (h : gOp P C cl ops oi (gOp P C cl ops oj K) a w) : gOp P C cl ops oj (gOp P C cl ops oi K) a w := by
  obtain ⟨h1, h2, h3⟩ := Oper.apart_spec hap
  -- what j yields: at a
  have atJ : ∀ d u, Region.wanted oj (yielded ops (Act.put { a with defers := d } oi.dst u).tmps) = Region.wanted oj (yielded ops a.tmps) := fun d u => wanted_put oj { a with defers := d } oi.dst u h1
  have exJ : ∀ d u, execOp (Act.put { a with defers := d } oi.dst u).eval oj = execOp a.eval oj := fun d u => execOp_put oj hsj { a with defers := d } oi.dst u h1
  by_cases hwi : Region.wanted oi (yielded ops a.tmps) = true
  case neg =>
    have hyi : YQ P C cl ops oi undef a := .inr ⟨by simpa using hwi, rfl⟩
    have h' : gOp P C cl ops oj K (a.put oi.dst undef) w := by
      unfold gOp at h; simp only [hwi] at h; exact h
    exact swap_q hzj hap hsi hsj hyi h'
  case pos =>
  cases hci : cl oi
  case q =>
    obtain ⟨v, hy, hk⟩ := yq_of_gOp (.inl hci) h
    exact swap_q hzj hap hsi hsj hy hk
  case r =>
    unfold gOp at h; simp only [hwi, if_true, tRun, hci] at h
    obtain ⟨v, hv, hk⟩ := h
    have hk' : gOp P C cl ops oj K (a.put oi.dst v) w := hk
    obtain ⟨u, hyj, hK⟩ := yq_of_gOp (by rw [wanted_put oj a oi.dst v h1]; exact hq) hk'
    have hyj' : YQ P C cl ops oj u a := hyj.of_same (execOp_put oj hsj a oi.dst v h1).symm (wanted_put oj a oi.dst v h1).symm
    refine hyj'.gOp ?_
    unfold gOp
    rw [wanted_put oi a oj.dst u h3]
    simp only [hwi, if_true, tRun, hci]
    exact ⟨v, by rw [execOp_put oi hsi a oj.dst u h3]; exact hv, by rw [← Act.put_comm a v u h2]; exact hK⟩
  case e =>
    unfold gOp at h; simp only [hwi, if_true, tRun, hci] at h
    have hsh := wp_shape h
    obtain ⟨a', w', ⟨⟨hCw', hg⟩, d, u, rfl⟩⟩ := wp_exists hsh
    have hg' : gOp P C cl ops oj K (Act.put { a with defers := d } oi.dst u) w' := hg
    obtain ⟨v, hyj, _⟩ := yq_of_gOp (by rw [atJ]; exact hq) hg'
    have hyj' : YQ P C cl ops oj v a := hyj.of_same (exJ d u).symm (atJ d u).symm
    refine hyj'.gOp ?_
    unfold gOp
    rw [wanted_put oi a oj.dst v h3]
    simp only [hwi, if_true, tRun, hci]
    refine wp_move h (execOp_put oi hsi a oj.dst v h3) (by cases oj.dst <;> rfl) ?_
    rintro d' u' w'' ⟨hCw, hk⟩
    refine ⟨hCw, ?_⟩
    have hk' : gOp P C cl ops oj K (Act.put { a with defers := d' } oi.dst u') w'' := hk
    obtain ⟨v2, hy2, hK⟩ := yq_of_gOp (by rw [atJ]; exact hq) hk'
    have hy2' : YQ P C cl ops oj v2 a := hy2.of_same (exJ d' u').symm (atJ d' u').symm
    obtain rfl := hyj'.uniq hCw hy2'
    rw [put_defers_comm, ← Act.put_comm _ u' v h2]
    exact hK
  case z => exact absurd hci hzi

/-- Both read. -/
theorem swap_r (hzi : cl oi ≠ .z) (hzj : cl oj ≠ .z) (hap : oi.apart ops oj = true) (hsi : ∀ cs b, oi.op ≠ .select cs b) (hsj : ∀ cs b, oj.op ≠ .select cs b) {K : Act → World → Prop} {a : Act} {w : World} (hC : C w)
    (hri : cl oi = .r) (hrj : cl oj = .r) (h : gOp P C cl ops oi (gOp P C cl ops oj K) a w) : gOp P C cl ops oj (gOp P C cl ops oi K) a w := by
  obtain ⟨h1, h2, h3⟩ := Oper.apart_spec hap
  by_cases hwj : Region.wanted oj (yielded ops a.tmps) = true
  case neg => exact swap_e hzi hzj hap hsi hsj (.inr (by simpa using hwj)) h
  by_cases hwi : Region.wanted oi (yielded ops a.tmps) = true
  case neg =>
    have hyi : YQ P C cl ops oi undef a := .inr ⟨by simpa using hwi, rfl⟩
    have h' : gOp P C cl ops oj K (a.put oi.dst undef) w := by
      unfold gOp at h; simp only [hwi] at h; exact h
    exact swap_q hzj hap hsi hsj hyi h'
  unfold gOp at h; simp only [hwi, if_true, tRun, hri] at h
  obtain ⟨v, hv, hk⟩ := h
  rw [wanted_put oj a oi.dst v h1] at hk
  simp only [hwj, if_true, hrj] at hk
  obtain ⟨u, hu, hK⟩ := hk
  rw [execOp_put oj hsj a oi.dst v h1] at hu
  unfold gOp
  simp only [hwj, if_true, tRun, hrj]
  refine ⟨u, hu, ?_⟩
  rw [wanted_put oi a oj.dst u h3]
  simp only [hwi, if_true, hri]
  exact ⟨v, by rw [execOp_put oi hsi a oj.dst u h3]; exact hv, by rw [← Act.put_comm a v u h2]; exact hK⟩

def commuteB (cl : Oper → Cls) (ops : Array Oper) (oi oj : Oper) : Bool :=
  oi.apart ops oj && (match cl oi, cl oj with | .z, _ => false | _, .z => false | .q, _ => true | _, .q => true | .r, .r => true | _, _ => false)

theorem commute_z (hB : commuteB cl ops oi oj = true) : cl oi ≠ .z ∧ cl oj ≠ .z := by
  simp only [commuteB, Bool.and_eq_true] at hB
  obtain ⟨_, hc⟩ := hB
  refine ⟨fun h => ?_, fun h => ?_⟩
  · rw [h] at hc; cases hc
  · rw [h] at hc; cases hi : cl oi <;> rw [hi] at hc <;> cases hc
theorem swap (hB : commuteB cl ops oi oj = true) (hsi : ∀ cs b, oi.op ≠ .select cs b) (hsj : ∀ cs b, oj.op ≠ .select cs b) {K : Act → World → Prop} {a : Act} {w : World} (hC : C w)
    (h : gOp P C cl ops oi (gOp P C cl ops oj K) a w) : gOp P C cl ops oj (gOp P C cl ops oi K) a w := by
  obtain ⟨hzi, hzj⟩ := commute_z hB
  simp only [commuteB, Bool.and_eq_true] at hB
  obtain ⟨hap, hc⟩ := hB
  cases hi : cl oi
  case z => exact absurd hi hzi
  case q =>
    obtain ⟨v, hy, hk⟩ := yq_of_gOp (.inl hi) h
    exact swap_q hzj hap hsi hsj hy hk
  case r =>
    cases hj : cl oj
    case z => exact absurd hj hzj
    case q => exact swap_e hzi hzj hap hsi hsj (.inl hj) h
    case r => exact swap_r hzi hzj hap hsi hsj hC hi hj h
    case e => rw [hi, hj] at hc; cases hc
  case e =>
    cases hj : cl oj
    case z => exact absurd hj hzj
    case q => exact swap_e hzi hzj hap hsi hsj (.inl hj) h
    case r => rw [hi, hj] at hc; cases hc
    case e => rw [hi, hj] at hc; cases hc

/-- Operation number i. -/
def tOp (P : Program) (C : World → Prop) (cl : Oper → Cls) (ops : Array Oper) (i : Nat) (K : Act → World → Prop) (a : Act) (w : World) : Prop :=
  match ops[i]? with
  | none => K a w
  | some o => gOp P C cl ops o K a w

def wpAnyT (P : Program) (C : World → Prop) (cl : Oper → Cls) (md : Region.Mode) (ops : Array Oper) (Q : Act → World → Prop) : Nat → Array Bool → Act → World → Prop
  | 0, listed, a, w => Region.ready md ops listed = [] ∧ Q a w
  | fuel + 1, listed, a, w =>
    (Region.ready md ops listed = [] → Q a w) ∧
    ∀ i ∈ Region.ready md ops listed, tOp P C cl ops i (wpAnyT P C cl md ops Q fuel (listed.setIfInBounds i true)) a w ∧
      (∀ o, ops[i]? = some o → cl o = .z → Region.ready md ops (listed.setIfInBounds i true) = [])

theorem wpOp_of_tOp {i : Nat} {a : Act} {w : World} {K : Act → World → Prop} {K' : Act → World → Prop} {Q' : Exit → Act → World → Prop} (hC : C w)
    (h : ∀ a' w', (C w' ∨ ∃ o, ops[i]? = some o ∧ cl o = .z) → K a' w' → K' a' w') (hh : tOp P C cl ops i K a w) : wpOp P ops Q' i K' a w := by
  unfold tOp at hh
  unfold wpOp
  split
  · rename_i ho; simp only [ho] at hh; exact h _ _ (.inl hC) hh
  · rename_i o ho
    simp only [ho, gOp] at hh
    split
    · rename_i hw
      simp only [hw, if_true, tRun] at hh
      refine .inl ?_
      cases hc : cl o <;> simp only [hc] at hh
      case q => obtain ⟨v, h1, h2⟩ := hh; unfold Oper.wp; rw [h1 w hC]; exact h _ _ (.inl hC) h2
      case r => obtain ⟨v, h1, h2⟩ := hh; unfold Oper.wp; rw [h1]; exact h _ _ (.inl hC) h2
      case e =>
        unfold Oper.wp at hh ⊢
        generalize (execOp a.eval o).run P w = r at *
        cases r with
        | ok n w' =>
          cases n <;> simp only [Oper.upon] at hh ⊢
          case enter f args =>
            refine Calls.mono hh fun e w'' he => ?_
            cases e with
            | returned u => exact h _ _ (.inl he.1) he.2
            | panicked c => exact he.elim
            | outgrown => obtain ⟨_, _, hq⟩ := he; exact hq.elim
          case row row args => exact Rows.mono hh fun u w'' he => h _ _ (.inl he.1) he.2
          all_goals exact h _ _ (.inl hh.1) hh.2
        | halt x w' =>
          cases x <;> simp only [Oper.upon] at hh ⊢
          case panic u => exact hh.elim
      case z =>
        unfold Oper.wp at hh ⊢
        generalize (execOp a.eval o).run P w = r at *
        cases r with
        | ok n w' =>
          cases n <;> simp only [Oper.upon] at hh ⊢
          case enter f args =>
            refine Calls.mono hh fun e w'' he => ?_
            cases e with
            | returned u => exact h _ _ (.inr ⟨o, ho, hc⟩) he
            | panicked c => exact he.elim
            | outgrown => obtain ⟨_, _, hq⟩ := he; exact hq.elim
          case row row args => exact Rows.mono hh fun u w'' he => h _ _ (.inr ⟨o, ho, hc⟩) he
          all_goals exact h _ _ (.inr ⟨o, ho, hc⟩) hh
        | halt x w' =>
          cases x <;> simp only [Oper.upon] at hh ⊢
          case panic u => exact hh.elim
    · rename_i hw; simp only [hw] at hh; exact h _ _ (.inl hC) hh

theorem wpAny_of_T {Q : Act → World → Prop} {Q' : Exit → Act → World → Prop} (hQ : ∀ a w, Q a w → Q' .normal a w) : ∀ (fuel : Nat) (listed : Array Bool) (a : Act) (w : World), (C w ∨ Region.ready md ops listed = []) →
    wpAnyT P C cl md ops Q fuel listed a w → wpAny P md ops Q' fuel listed a w
  | 0, _, _, _, _, h => ⟨h.1, hQ _ _ h.2⟩
  | fuel + 1, listed, _, _, hC, h => by
    refine ⟨fun h0 => hQ _ _ (h.1 h0), fun i hi => ?_⟩
    rcases hC with hC | hC
    · refine wpOp_of_tOp hC (fun a' w' hC' => wpAny_of_T hQ fuel _ a' w' ?_) (h.2 i hi).1
      rcases hC' with hC' | ⟨o, ho, hz⟩
      · exact .inl hC'
      · exact .inr ((h.2 i hi).2 o ho hz)
    · rw [hC] at hi; cases hi

/-- Operation k first: A: whatever may come up ahead of it. -/
theorem wpAnyT_first {Q : Act → World → Prop} {k : Nat} {ok : Oper} (hk : ops[k]? = some ok) (hzk : cl ok ≠ .z) (hsel : ∀ (j : Nat) (o : Oper) cs b, ops[j]? = some o → o.op ≠ .select cs b) (A : List Nat)
    (hA : ∀ j oj, ops[j]? = some oj → k < j → (∀ e ∈ oj.after, Region.binds md e = true → e.on < k ∨ e.on ∈ A) → j ∈ A)
    (hcom : ∀ j ∈ A, ∀ oj, ops[j]? = some oj → commuteB cl ops ok oj = true) :
    ∀ (fuel : Nat) (listed : Array Bool) (a : Act) (w : World), C w → (∀ j, listed.getD j false = true → j < k ∨ j ∈ A) → (∀ j, j < k → listed.getD j true = true) →
      k ∈ Region.ready md ops listed → gOp P C cl ops ok (wpAnyT P C cl md ops Q fuel (listed.setIfInBounds k true)) a w → wpAnyT P C cl md ops Q (fuel + 1) listed a w := by
  intro fuel
  induction fuel with
  | zero =>
    intro listed a w hC hin hall hr H
    refine ⟨fun h => (by rw [h] at hr; cases hr), fun j hj => ?_⟩
    by_cases hji : j = k
    · subst hji
      refine ⟨by unfold tOp; simp only [hk]; exact H, fun o ho hz => ?_⟩
      rw [hk] at ho; cases ho; exact absurd hz hzk
    · obtain ⟨a', w', h'⟩ := gOp_exists H
      have := ready_mono hj hji
      rw [h'.1] at this
      cases this
  | succ fuel ih =>
    intro listed a w hC hin hall hr H
    refine ⟨fun h => (by rw [h] at hr; cases hr), fun j hj => ?_⟩
    by_cases hji : j = k
    · subst hji
      refine ⟨by unfold tOp; simp only [hk]; exact H, fun o ho hz => ?_⟩
      rw [hk] at ho; cases ho; exact absurd hz hzk
    · obtain ⟨hjun, oj, hoj, hdeps⟩ := mem_ready.1 hj
      have hkj : k < j := by
        rcases Nat.lt_trichotomy j k with h | h | h
        · rw [hall j h] at hjun; cases hjun
        · exact absurd h hji
        · exact h
      have hjA : j ∈ A := hA j oj hoj hkj fun e he hb => hin _ (hdeps e he hb)
      have h1 : gOp P C cl ops ok (gOp P C cl ops oj (wpAnyT P C cl md ops Q fuel ((listed.setIfInBounds k true).setIfInBounds j true))) a w :=
        gOp_mono hzk hC (fun a' w' _ h => by have := (h.2 j (ready_mono hj hji)).1; unfold tOp at this; simp only [hoj] at this; exact this) H
      have hzj := (commute_z (hcom j hjA oj hoj)).2
      have h2 := swap (hcom j hjA oj hoj) (fun cs b => hsel k ok cs b hk) (fun cs b => hsel j oj cs b hoj) hC h1
      refine ⟨?_, fun o ho hz => by rw [hoj] at ho; cases ho; exact absurd hz hzj⟩
      unfold tOp; simp only [hoj]
      refine gOp_mono hzj hC (fun a' w' hC' h3 => ih (listed.setIfInBounds j true) a' w' hC' ?_ ?_ (ready_mono hr (Ne.symm hji)) ?_) h2
      · intro i hi
        by_cases hij : j = i
        · subst hij; exact .inr hjA
        · rw [getD_set_ne false hij] at hi; exact hin i hi
      · intro i hi
        by_cases hij : j = i
        · subst hij; omega
        · rw [getD_set_ne true hij]; exact hall i hi
      · rw [Array.setIfInBounds_comm _ _ hji]; exact h3

/-- What may come up ahead of number k. -/
def availB (md : Region.Mode) (l : List Oper) (k : Nat) : List Nat :=
  (l.foldl (fun (s : Nat × List Nat) o => (s.1 + 1, if k < s.1 && o.after.all (fun e => !Region.binds md e || Nat.blt e.on k || s.2.contains e.on) then s.1 :: s.2 else s.2)) (0, [])).2

def closedB (md : Region.Mode) (l : List Oper) (k : Nat) (A : List Nat) : Bool :=
  (l.foldl (fun (s : Nat × Bool) o => (s.1 + 1, s.2 && (Nat.ble s.1 k || A.contains s.1 || !(o.after.all (fun e => !Region.binds md e || Nat.blt e.on k || A.contains e.on))))) (0, true)).2

def lexAt (cl : Oper → Cls) (md : Region.Mode) (ops : Array Oper) (l : List Oper) (k : Nat) (o : Oper) : Bool :=
  o.after.all (fun e => !Region.binds md e || Nat.blt e.on k) && closedB md l k (availB md l k) &&
    (availB md l k).all fun j => match l[j]? with | some oj => commuteB cl ops o oj | none => true

def isZ : Cls → Bool | .z => true | _ => false
/-- an effect of class z stands last -/
def lexFromT (cl : Oper → Cls) (md : Region.Mode) (ops : Array Oper) (l : List Oper) : Nat → List Oper → Bool
  | _, [] => true
  | k, o :: rest => if isZ (cl o) then rest.isEmpty && o.after.all (fun e => !Region.binds md e || Nat.blt e.on k) else lexAt cl md ops l k o && lexFromT cl md ops l (k + 1) rest

def lexT (cl : Oper → Cls) (md : Region.Mode) (l : List Oper) : Bool := Region.noSelect l.toArray && lexFromT cl md l.toArray l 0 l

theorem closed_spec (A : List Nat) (k : Nat) : ∀ (l : List Oper) (m : Nat) (b : Bool),
    (l.foldl (fun (s : Nat × Bool) o => (s.1 + 1, s.2 && (Nat.ble s.1 k || A.contains s.1 || !(o.after.all (fun e => !Region.binds md e || Nat.blt e.on k || A.contains e.on))))) (m, b)).2 = true →
    b = true ∧ ∀ j o, l[j]? = some o → k < m + j → (∀ e ∈ o.after, Region.binds md e = true → e.on < k ∨ e.on ∈ A) → m + j ∈ A
  | [], m, b, h => ⟨h, fun j o ho => by simp at ho⟩
  | o :: l, m, b, h => by
    simp only [List.foldl_cons] at h
    obtain ⟨hb, hr⟩ := closed_spec A k l _ _ h
    rw [Bool.and_eq_true] at hb
    refine ⟨hb.1, ?_⟩
    intro j o' ho' hkj hdeps
    cases j with
    | zero =>
      simp only [List.getElem?_cons_zero, Option.some.injEq] at ho'
      subst ho'
      have h2 := hb.2
      simp only [Bool.or_eq_true, Bool.not_eq_true', List.contains_eq_mem, decide_eq_true_eq] at h2
      rcases h2 with (h2 | h2) | h2
      · have := Nat.le_of_ble_eq_true h2; simp at hkj; omega
      · simpa using h2
      · rw [Array.all_eq_false'] at h2
        obtain ⟨e, he, hne⟩ := h2
        simp only [Bool.or_eq_true, Bool.not_eq_true', decide_eq_true_eq, not_or] at hne
        obtain ⟨⟨h3, h4⟩, h5⟩ := hne
        rcases hdeps e he (by simpa using h3) with h6 | h6
        · exact absurd (by simpa [Nat.blt] using Nat.ble_eq_true_of_le (Nat.succ_le_of_lt h6)) h4
        · exact absurd h6 h5
    | succ j =>
      have := hr j o' (by simpa using ho') (by omega) hdeps
      rw [show m + (j + 1) = m + 1 + j by omega]; exact this

theorem wpAnyT_lex {Q : Act → World → Prop} {l0 : List Oper} (hs : Region.noSelect l0.toArray = true) : ∀ (l : List Oper) (k : Nat) (listed : Array Bool) (a : Act) (w : World), (l = [] ∨ C w) →
    (∀ j, l[j]? = l0[k + j]?) → listed.size = l0.length → (∀ j, j < l0.length → (listed.getD j false = true ↔ j < k)) → k ≤ l0.length →
    lexFromT cl md l0.toArray l0 k l = true → wpT P C cl l0.toArray Q l a w → wpAnyT P C cl md l0.toArray Q l.length listed a w
  | [], k, listed, a, w, _, hl, hsz, hlist, hkn, _, h => by
    refine ⟨?_, h⟩
    have hk : l0.length ≤ k := by
      have := hl 0; simp only [Nat.add_zero, List.getElem?_nil] at this
      exact List.getElem?_eq_none_iff.1 this.symm
    rcases hr : Region.ready md l0.toArray listed with _ | ⟨i, rest⟩
    · rfl
    · exfalso
      have hi : i ∈ Region.ready md l0.toArray listed := by rw [hr]; exact List.mem_cons_self
      obtain ⟨hun, o, ho, _⟩ := mem_ready.1 hi
      have hlt : i < l0.length := by
        have := (Array.getElem?_eq_some_iff.1 ho).1; simpa using this
      have := (hlist i hlt).2 (by omega)
      rw [Array.getD_eq_getD_getElem?, Array.getElem?_eq_getElem (by omega)] at this hun
      simp at this hun
      rw [this] at hun; cases hun
  | o :: l, k, listed, a, w, hC, hl, hsz, hlist, hkn, hB, h => by
    have h0 : l0[k]? = some o := by simpa using (hl 0).symm
    have hklt : k < l0.length := (List.getElem?_eq_some_iff.1 h0).1
    have hC : C w := hC.resolve_left (by simp)
    have h0' : l0.toArray[k]? = some o := by simpa using h0
    by_cases hz : isZ (cl o) = true
    · simp only [lexFromT, hz, if_true, Bool.and_eq_true, List.isEmpty_iff] at hB
      obtain ⟨rfl, hrd⟩ := hB
      have hlen : l0.length = k + 1 := by
        have h1 := hl 1
        simp only [List.getElem?_cons_succ, List.getElem?_nil] at h1
        have := List.getElem?_eq_none_iff.1 h1.symm
        omega
      have hcz : cl o = .z := by cases hc : cl o <;> rw [hc] at hz <;> first | rfl | cases hz
      have hsome : ∀ (li : Array Bool) j, li.size = l0.length → j < l0.length → li.getD j true = li.getD j false := fun li j hs hj => by
        rw [Array.getD_eq_getD_getElem?, Array.getD_eq_getD_getElem?, Array.getElem?_eq_getElem (by omega)]; rfl
      have hone : ∀ i ∈ Region.ready md l0.toArray listed, i = k := by
        intro i hi
        obtain ⟨hun, oi, hoi, _⟩ := mem_ready.1 hi
        have hil : i < l0.length := by have := (Array.getElem?_eq_some_iff.1 hoi).1; simpa using this
        rcases Nat.lt_or_ge i k with h' | h'
        · rw [hsome listed i hsz hil, (hlist i hil).2 h'] at hun; cases hun
        · omega
      have hend : Region.ready md l0.toArray (listed.setIfInBounds k true) = [] := by
        rcases hr : Region.ready md l0.toArray (listed.setIfInBounds k true) with _ | ⟨i, rest⟩
        · rfl
        · exfalso
          have hi : i ∈ Region.ready md l0.toArray (listed.setIfInBounds k true) := by rw [hr]; exact List.mem_cons_self
          obtain ⟨hun, oi, hoi, _⟩ := mem_ready.1 hi
          have hil : i < l0.length := by have := (Array.getElem?_eq_some_iff.1 hoi).1; simpa using this
          by_cases hik : k = i
          · subst hik
            simp [Array.getD_eq_getD_getElem?, hsz, hklt] at hun
          · rw [getD_set_ne true hik, hsome listed i hsz hil, (hlist i hil).2 (by omega)] at hun; cases hun
      have hrdy : k ∈ Region.ready md l0.toArray listed := by
        refine mem_ready.2 ⟨?_, o, h0', ?_⟩
        · rw [hsome listed k hsz hklt]
          cases hx : listed.getD k false
          · rfl
          · have := (hlist k hklt).1 hx; omega
        · intro e he hb
          have := Array.all_eq_true'.1 hrd e he
          simp only [hb, Bool.not_true, Bool.false_or] at this
          have hlt : e.on < k := by simp [Nat.blt] at this; omega
          exact (hlist _ (by omega)).2 hlt
      refine ⟨fun hr => (by rw [hr] at hrdy; cases hrdy), fun i hi => ?_⟩
      obtain rfl := hone i hi
      refine ⟨?_, fun _ _ _ => hend⟩
      unfold tOp; simp only [h0']
      unfold wpT gOp at h
      unfold gOp
      split
      · rename_i hw
        simp only [hw, if_true, tRun, hcz] at h ⊢
        exact Oper.wp_mono (fun a w hk => ⟨hend, hk⟩) h
      · rename_i hw
        simp only [hw] at h
        exact ⟨hend, h⟩
    have hz' : cl o ≠ .z := fun e => hz (by rw [e]; rfl)
    simp only [lexFromT, hz, Bool.and_eq_true, lexAt, Bool.false_eq_true, if_false] at hB
    obtain ⟨⟨⟨hrd, hcl⟩, hav⟩, hB'⟩ := hB
    have getT : ∀ j, j < l0.length → listed.getD j true = listed.getD j false := fun j hj => by
      rw [Array.getD_eq_getD_getElem?, Array.getD_eq_getD_getElem?, Array.getElem?_eq_getElem (by omega)]; rfl
    have hready : k ∈ Region.ready md l0.toArray listed := by
      refine mem_ready.2 ⟨?_, o, h0', ?_⟩
      · rw [getT k hklt]
        cases hx : listed.getD k false
        · rfl
        · have := (hlist k hklt).1 hx; omega
      · intro e he hb
        have := Array.all_eq_true'.1 hrd e he
        simp only [hb, Bool.not_true, Bool.false_or] at this
        have hlt : e.on < k := by simp [Nat.blt] at this; omega
        exact (hlist _ (by omega)).2 hlt
    have hsp := (closed_spec (md := md) (availB md l0 k) k l0 0 true hcl).2
    refine wpAnyT_first h0' hz' (fun j oj cs b hj => Region.noSelect_spec hs j oj cs b hj) (availB md l0 k) ?_ ?_ l.length listed a w hC ?_ ?_ hready ?_
    · intro j oj hoj hkj hd
      have := hsp j oj (by simpa using hoj) (by omega) hd
      simpa using this
    · intro j hj oj hoj
      have := List.all_eq_true.1 hav j hj
      have hoj' : l0[j]? = some oj := by simpa using hoj
      rw [hoj'] at this; exact this
    · intro j hj
      have hlt : j < l0.length := by
        rcases Nat.lt_or_ge j l0.length with h' | h'
        · exact h'
        · rw [Array.getD_eq_getD_getElem?, Array.getElem?_eq_none (by omega)] at hj; simp at hj
      exact .inl ((hlist j hlt).1 hj)
    · intro j hj
      rw [getT j (by omega)]; exact (hlist j (by omega)).2 hj
    · refine gOp_mono hz' hC (fun a' w' hC' h' => wpAnyT_lex hs l (k + 1) _ a' w' (.inr hC') (fun j => by have := hl (j + 1); simpa [Nat.add_assoc, Nat.add_comm 1 j] using this) (by simpa using hsz) ?_ (by omega) hB' h') h
      intro j hj
      by_cases hjk : k = j
      · subst hjk
        simp [Array.getD_eq_getD_getElem?, hsz, hklt]
      · rw [getD_set_ne false hjk, hlist j hj]; omega

/-- A region that draws its order. -/
theorem wp_region_T {id : Nat} {Q : Exit → Act → World → Prop} {a : Act} {w : World} {l : List Oper} (hm : P.follows .mixedOrders = true) (hB : lexT cl .any l = true) (hC : C { w with drawn := w.drawn + 1 })
    (h : wpT P C cl l.toArray (Q .normal) l a { w with drawn := w.drawn + 1 }) : (Code.region id l.toArray true).wp P Q a w := by
  simp only [lexT, Bool.and_eq_true] at hB
  refine wp_region_any hm (wpAny_of_T (Q := Q .normal) (C := C) (cl := cl) (fun _ _ h => h) _ _ _ _ (.inl hC) ?_)
  have := wpAnyT_lex (md := .any) (P := P) (C := C) (Q := Q .normal) hB.1 l 0 (Array.replicate l.length false) a _ (.inr hC) (by simp) (by simp) (fun j hj => by simp [Array.getD_eq_getD_getElem?, hj]) (Nat.zero_le _) hB.2 h
  simpa using this

end
end Go.Eng
/-
  Temporaries as a list of pairs, memory as a list of predicates on parts of it; one law for each operation. Speaks of no program.
-/
set_option linter.unusedVariables false
namespace Go.Eng

/- memory -/
abbrev Hp := Nat → Option Obj
abbrev HP := Hp → Prop
def part (own : Nat → Nat) (i : Nat) (h : Hp) : Hp := fun k => if own k = i then h k else none
def star (L : List HP) : HP := fun h => ∃ own : Nat → Nat, ∀ (i : Nat) (p : HP), L[i]? = some p → p (part own i h)
def hp (w : World) : Hp := fun k => w.heap[k]?
def pt (b : Nat) (o : Obj) : HP := fun h => h b = some o
/-- a block of cells -/
def cel (b : Nat) (T : TypeId) (l : List Value) : HP := pt b (.cells l.toArray T (0, 0))
def exH {α : Type} (p : α → HP) : HP := fun h => ∃ x, p x h

structure WS (w0 : World) (H : List HP) (w : World) : Prop where
  sat : star H (hp w)
  os : w.os = w0.os
  tape : w.tape = w0.tape
  output : w.output = w0.output

inductive Mem : HP → List HP → Prop
  | here {p r} : Mem p (p :: r)
  | there {p q r} : Mem p r → Mem p (q :: r)
/-- p in its place becomes p' -/
inductive Rep : List HP → HP → HP → List HP → Prop
  | here {p p' r} : Rep (p :: r) p p' (p' :: r)
  | there {p p' q r r'} : Rep r p p' r' → Rep (q :: r) p p' (q :: r')
inductive SetAt : List Value → Nat → Value → List Value → Prop
  | zero {x y r} : SetAt (x :: r) 0 y (y :: r)
  | succ {x y r r' n} : SetAt r n y r' → SetAt (x :: r) (n + 1) y (x :: r')

theorem Mem.idx {p : HP} {H : List HP} (h : Mem p H) : ∃ i : Nat, H[i]? = some p := by
  induction h with
  | here => exact ⟨0, rfl⟩
  | there _ ih => obtain ⟨i, hi⟩ := ih; exact ⟨i + 1, by simpa using hi⟩
theorem Rep.idx {p p' : HP} {H H' : List HP} (h : Rep H p p' H') : ∃ i : Nat, H[i]? = some p ∧ ∀ (j : Nat) (q : HP), H'[j]? = some q → (j = i ∧ q = p') ∨ (j ≠ i ∧ H[j]? = some q) := by
  induction h with
  | here =>
    refine ⟨0, rfl, fun j q hj => ?_⟩
    cases j with
    | zero => simp at hj; exact .inl ⟨rfl, hj.symm⟩
    | succ j => exact .inr ⟨by omega, by simpa using hj⟩
  | there _ ih =>
    obtain ⟨i, hi, hr⟩ := ih
    refine ⟨i + 1, by simpa using hi, fun j q hj => ?_⟩
    cases j with
    | zero => exact .inr ⟨by omega, by simpa using hj⟩
    | succ j =>
      rcases hr j q (by simpa using hj) with ⟨rfl, rfl⟩ | ⟨hne, h⟩
      · exact .inl ⟨rfl, rfl⟩
      · exact .inr ⟨by omega, by simpa using h⟩
theorem SetAt.eq {cs cs' : List Value} {n : Nat} {v : Value} (h : SetAt cs n v cs') : n < cs.length ∧ cs' = cs.set n v := by
  induction h with
  | zero => simp
  | succ _ ih => simp [ih.1, ih.2]

theorem WS.pt {w0 w : World} {H : List HP} {b : Nat} {o : Obj} (h : WS w0 H w) (hm : Mem (pt b o) H) : w.heap[b]? = some o := by
  obtain ⟨i, hi⟩ := hm.idx
  obtain ⟨own, ho⟩ := h.sat
  have := ho i _ hi
  simp only [Eng.pt, part, hp] at this
  split at this
  · exact this
  · cases this

theorem part_congr {own : Nat → Nat} {i : Nat} {h h' : Hp} (e : ∀ k, own k = i → h k = h' k) : part own i h = part own i h' := by
  funext k
  unfold part
  split
  · exact e k ‹_›
  · rfl

/-- A block's content is replaced. -/
theorem WS.put {w0 w w' : World} {H H' : List HP} {b : Nat} {o o' : Obj} (h : WS w0 H w) (hr : Rep H (Eng.pt b o) (Eng.pt b o') H') (hb : w'.heap[b]? = some o') (hne : ∀ k, k ≠ b → w'.heap[k]? = w.heap[k]?)
    (hos : w'.os = w.os) (ht : w'.tape = w.tape) (hout : w'.output = w.output) : WS w0 H' w' := by
  obtain ⟨i, hi, hr⟩ := hr.idx
  obtain ⟨own, ho⟩ := h.sat
  refine ⟨⟨own, fun j q hj => ?_⟩, hos.trans h.os, ht.trans h.tape, hout.trans h.output⟩
  have hbi : own b = i := by
    have := ho i _ hi
    simp only [Eng.pt, part, hp] at this
    split at this
    · assumption
    · cases this
  rcases hr j q hj with ⟨rfl, rfl⟩ | ⟨hne', hq⟩
  · simp only [Eng.pt, part, hp, hbi, if_true]; exact hb
  · have := ho j q hq
    rw [part_congr (h' := hp w)]
    · exact this
    · intro k hk
      have : k ≠ b := fun e => hne' (by rw [e] at hk; exact hk.symm.trans hbi)
      exact hne k this

/-- A new block. -/
theorem WS.alloc {w0 w : World} {H : List HP} (h : WS w0 H w) (o : Obj) : WS w0 (Eng.pt w.heap.size o :: H) (w.alloc o) := by
  obtain ⟨own, ho⟩ := h.sat
  refine ⟨⟨fun k => if k = w.heap.size then 0 else own k + 1, fun j q hj => ?_⟩, h.os, h.tape, h.output⟩
  cases j with
  | zero =>
    simp only [List.getElem?_cons_zero, Option.some.injEq] at hj
    subst hj
    show (if (if w.heap.size = w.heap.size then 0 else own w.heap.size + 1) = 0 then (w.heap.push o)[w.heap.size]? else none) = some o
    simp
  | succ j =>
    have := ho j q (by simpa using hj)
    have e : part (fun k => if k = w.heap.size then 0 else own k + 1) (j + 1) (hp (w.alloc o)) = part own j (hp w) := by
      funext k
      unfold part hp
      by_cases hk : k = w.heap.size
      · subst hk
        simp
      · simp only [if_neg hk]
        rw [show (w.alloc o).heap[k]? = w.heap[k]? from by show (w.heap.push o)[k]? = _; rw [Array.getElem?_push, if_neg hk]]
        by_cases hj' : own k = j
        · rw [if_pos (by omega), if_pos hj']
        · rw [if_neg (by omega), if_neg hj']
    rw [e]; exact this

theorem WS.heapEq {w0 w w' : World} {H : List HP} (h : WS w0 H w) (hh : w'.heap = w.heap) (hos : w'.os = w.os) (ht : w'.tape = w.tape) (hout : w'.output = w.output) : WS w0 H w' := by
  refine ⟨?_, hos.trans h.os, ht.trans h.tape, hout.trans h.output⟩
  have : hp w' = hp w := by unfold hp; rw [hh]
  rw [this]; exact h.sat

open Classical in
noncomputable def res (S : Nat → Prop) (w : World) : Hp := fun k => if S k then w.heap[k]? else none
/-- One part's content is replaced; new blocks are its own. -/
theorem WS.upd {w0 w w' : World} {H H' : List HP} {p p' : HP} (h : WS w0 H w) (hr : Rep H p p' H')
    (key : ∀ S : Nat → Prop, p (res S w) → p' (res (fun k => S k ∨ w.heap.size ≤ k) w') ∧ ∀ k, k < w.heap.size → ¬ S k → w'.heap[k]? = w.heap[k]?)
    (hos : w'.os = w.os) (ht : w'.tape = w.tape) (hout : w'.output = w.output) : WS w0 H' w' := by
  obtain ⟨i, hi, hr⟩ := hr.idx
  obtain ⟨own, ho⟩ := h.sat
  have e1 : part own i (hp w) = res (fun k => own k = i) w := by
    funext k; unfold part res hp; by_cases hk : own k = i <;> simp [hk]
  have hp0 := ho i _ hi
  rw [e1] at hp0
  obtain ⟨k1, k2⟩ := key _ hp0
  refine ⟨⟨fun k => if w.heap.size ≤ k then i else own k, fun j q hj => ?_⟩, hos.trans h.os, ht.trans h.tape, hout.trans h.output⟩
  rcases hr j q hj with ⟨rfl, rfl⟩ | ⟨hne', hq⟩
  · rw [show part (fun k => if w.heap.size ≤ k then j else own k) j (hp w') = res (fun k => own k = j ∨ w.heap.size ≤ k) w' from ?_]
    · exact k1
    · funext k; unfold part res hp
      by_cases hk : w.heap.size ≤ k
      · simp [hk]
      · simp [hk]
  · have := ho j q hq
    rw [show part (fun k => if w.heap.size ≤ k then i else own k) j (hp w') = part own j (hp w) from ?_]
    · exact this
    · funext k; unfold part hp
      show (if (if w.heap.size ≤ k then i else own k) = j then w'.heap[k]? else none) = _
      by_cases hk : w.heap.size ≤ k
      · rw [if_pos hk, if_neg (fun e => hne' e.symm), Array.getElem?_eq_none hk]; simp
      · rw [if_neg hk]
        by_cases hkj : own k = j
        · rw [if_pos hkj, if_pos hkj, k2 k (by omega) (fun e => hne' (hkj.symm.trans e))]
        · rw [if_neg hkj, if_neg hkj]
theorem res_pt {S : Nat → Prop} {w : World} {b : Nat} {o : Obj} (h : res S w b = some o) : S b ∧ w.heap[b]? = some o := by
  unfold res at h
  split at h
  · exact ⟨‹_›, h⟩
  · cases h
theorem res_in {S : Nat → Prop} {w : World} {b : Nat} (h : S b) : res S w b = w.heap[b]? := by unfold res; rw [if_pos h]

/- a slice value v of n elements of sz cells that owns its cells xs -/
def own (T : TypeId) (sz : Nat) (v : Value) (n : Nat) (xs : List Value) : HP := fun h =>
  xs.length = n * sz ∧ ((v = .slice none 0 0 ∧ n = 0) ∨
    ∃ g cap cur, v = .slice (some ⟨g, 0, none⟩) n cap ∧ h g = some (.cells cur T (0, 0)) ∧ n ≤ cap ∧ cap ≤ maxLen ∧ cur.size = cap * sz ∧ cur.toList.take (n * sz) = xs)
theorem WS.get {w0 w : World} {H : List HP} {p : HP} (h : WS w0 H w) (hm : Mem p H) : ∃ S : Nat → Prop, p (res S w) := by
  obtain ⟨i, hi⟩ := hm.idx
  obtain ⟨own, ho⟩ := h.sat
  refine ⟨fun k => own k = i, ?_⟩
  have := ho i _ hi
  rw [show part own i (hp w) = res (fun k => own k = i) w from ?_] at this
  · exact this
  · funext k; unfold part res hp; by_cases hk : own k = i <;> simp [hk]
theorem WS.own {w0 w : World} {H : List HP} {T sz n : Nat} {v : Value} {xs : List Value} (h : WS w0 H w) (hm : Mem (Eng.own T sz v n xs) H) : w.ownsRow 0 T sz v n xs := by
  obtain ⟨S, h1, h2⟩ := h.get hm
  refine ⟨h1, ?_⟩
  rcases h2 with h2 | ⟨g, cap, cur, hv, hg, r⟩
  · exact .inl h2
  · exact .inr ⟨g, cap, cur, hv, Nat.zero_le _, (res_pt hg).2, r⟩

/-- what append leaves: the same row written within its capacity, or a new one -/
def Grows (w w' : World) (T sz : Nat) (v v' : Value) (n' : Nat) (xs' : List Value) : Prop :=
  (∃ g cap cur' , v' = .slice (some ⟨g, 0, none⟩) n' cap ∧ n' ≤ cap ∧ cap ≤ maxLen ∧ cur'.size = cap * sz ∧ cur'.toList.take (n' * sz) = xs' ∧ w'.heap[g]? = some (.cells cur' T (0, 0)) ∧
    ((v.ownBlock = some g ∧ ∀ k, k ≠ g → w'.heap[k]? = w.heap[k]?) ∨ (g = w.heap.size ∧ ∀ k, k < w.heap.size → w'.heap[k]? = w.heap[k]?))) ∨
  (v' = v ∧ w' = w)

theorem WS.grows {w0 w w' : World} {H H' : List HP} {T sz n n' : Nat} {v v' : Value} {xs xs' : List Value} (h : WS w0 H w) (hr : Rep H (Eng.own T sz v n xs) (Eng.own T sz v' n' xs') H')
    (hx : xs'.length = n' * sz) (hg : Grows w w' T sz v v' n' xs') (hz : v' = v → w' = w → n' = n ∧ xs' = xs) (hos : w'.os = w.os) (ht : w'.tape = w.tape) (hout : w'.output = w.output) : WS w0 H' w' := by
  refine h.upd hr (fun S hp => ?_) hos ht hout
  rcases hg with ⟨g, cap, cur', hv', hn, hcm, hcs, htk, hgw, hgg⟩ | ⟨rfl, rfl⟩
  · rcases hgg with ⟨hob, hk⟩ | ⟨rfl, hk⟩
    · have hSg : S g := by
        obtain ⟨_, h2⟩ := hp
        rcases h2 with ⟨rfl, _⟩ | ⟨g0, cap0, cur0, rfl, hg0, _⟩
        · simp [Value.ownBlock] at hob
        · simp only [Value.ownBlock, Option.some.injEq] at hob
          subst hob
          exact (res_pt hg0).1
      refine ⟨⟨hx, .inr ⟨g, cap, cur', hv', ?_, hn, hcm, hcs, htk⟩⟩, fun k _ hSk => hk k (fun e => hSk (e ▸ hSg))⟩
      rw [res_in (.inl hSg)]; exact hgw
    · refine ⟨⟨hx, .inr ⟨w.heap.size, cap, cur', hv', ?_, hn, hcm, hcs, htk⟩⟩, fun k hlt _ => hk k hlt⟩
      rw [res_in (.inr (Nat.le_refl _))]; exact hgw
  · obtain ⟨rfl, rfl⟩ := hz rfl rfl
    obtain ⟨h1, h2⟩ := hp
    refine ⟨⟨h1, ?_⟩, fun _ _ _ => rfl⟩
    rcases h2 with h2 | ⟨g, cap, cur, hv, hg, r⟩
    · exact .inl h2
    · exact .inr ⟨g, cap, cur, hv, by rw [res_in (.inl (res_pt hg).1)]; exact (res_pt hg).2, r⟩

/-- p is taken out -/
inductive Take : List HP → HP → List HP → Prop
  | here {p r} : Take (p :: r) p r
  | there {p q r r'} : Take r p r' → Take (q :: r) p (q :: r')
/-- all of the second list are taken out; what is left -/
inductive Takes : List HP → List HP → List HP → Prop
  | nil {H} : Takes H [] H
  | cons {H p H1 ps F} : Take H p H1 → Takes H1 ps F → Takes H (p :: ps) F
inductive Suf : List HP → List HP → Prop
  | refl {F} : Suf F F
  | skip {q r F} : Suf r F → Suf (q :: r) F

open Classical in
theorem star_cons {p : HP} {L : List HP} {h : Hp} : star (p :: L) h ↔ ∃ S : Nat → Prop, p (fun k => if S k then h k else none) ∧ star L (fun k => if S k then none else h k) := by
  constructor
  · rintro ⟨own, ho⟩
    refine ⟨fun k => own k = 0, ?_, fun k => own k - 1, fun j q hj => ?_⟩
    · have := ho 0 p rfl
      rw [show part own 0 h = fun k => if own k = 0 then h k else none from rfl] at this
      refine cast (congrArg p ?_) this
      funext k; by_cases h0 : own k = 0 <;> simp [h0]
    · have := ho (j + 1) q (by simpa using hj)
      refine cast (congrArg q ?_) this
      funext k; unfold part
      by_cases h0 : own k = 0
      · simp [h0]
      · by_cases h1 : own k = j + 1
        · simp [h1]
        · have h2 : ¬ own k - 1 = j := by omega
          simp [h1, h2]
  · rintro ⟨S, hp, own, ho⟩
    refine ⟨fun k => if S k then 0 else own k + 1, fun j q hj => ?_⟩
    cases j with
    | zero =>
      simp only [List.getElem?_cons_zero, Option.some.injEq] at hj
      subst hj
      rw [show part (fun k => if S k then 0 else own k + 1) 0 h = fun k => if S k then h k else none from ?_]
      · exact hp
      · funext k; unfold part; by_cases hk : S k <;> simp [hk]
    | succ j =>
      have := ho j q (by simpa using hj)
      rw [show part (fun k => if S k then 0 else own k + 1) (j + 1) h = part own j (fun k => if S k then none else h k) from ?_]
      · exact this
      · funext k; unfold part; by_cases hk : S k <;> simp [hk]
theorem star_mono {L : List HP} {h h' : Hp} (hs : star L h) (e : ∀ k, h k = h' k ∨ h k = none) : star L h' := by
  obtain ⟨own, ho⟩ := hs
  classical
  refine ⟨fun k => if h k = h' k then own k else L.length, fun j q hj => ?_⟩
  have hlt := (List.getElem?_eq_some_iff.1 hj).1
  have := ho j q hj
  rw [show part (fun k => if h k = h' k then own k else L.length) j h' = part own j h from ?_]
  · exact this
  · funext k; unfold part
    by_cases hk : h k = h' k
    · simp [hk]
    · rw [if_neg (by simp only [if_neg hk]; omega)]
      have := (e k).resolve_left hk
      rw [this]; simp
theorem star_tail {p : HP} {L : List HP} {h : Hp} (hs : star (p :: L) h) : star L h := by
  obtain ⟨S, _, h2⟩ := star_cons.1 hs
  refine star_mono h2 fun k => ?_
  split
  · exact .inr rfl
  · exact .inl rfl
theorem star_swap {p q : HP} {L : List HP} {h : Hp} (hs : star (p :: q :: L) h) : star (q :: p :: L) h := by
  obtain ⟨own, ho⟩ := hs
  refine ⟨fun k => if own k = 0 then 1 else if own k = 1 then 0 else own k, fun j r hj => ?_⟩
  match j, hj with
  | 0, hj =>
    simp at hj; subst hj
    have := ho 1 q rfl
    rw [show part (fun k => if own k = 0 then 1 else if own k = 1 then 0 else own k) 0 h = part own 1 h from ?_]
    · exact this
    · funext k; unfold part; by_cases h0 : own k = 0 <;> by_cases h1 : own k = 1 <;> simp [h0, h1]
  | 1, hj =>
    simp at hj; subst hj
    have := ho 0 p rfl
    rw [show part (fun k => if own k = 0 then 1 else if own k = 1 then 0 else own k) 1 h = part own 0 h from ?_]
    · exact this
    · funext k; unfold part; by_cases h0 : own k = 0 <;> by_cases h1 : own k = 1 <;> simp [h0, h1]
  | j + 2, hj =>
    have := ho (j + 2) r (by simpa using hj)
    rw [show part (fun k => if own k = 0 then 1 else if own k = 1 then 0 else own k) (j + 2) h = part own (j + 2) h from ?_]
    · exact this
    · funext k; unfold part
      by_cases h0 : own k = 0
      · simp [h0]
      · by_cases h1 : own k = 1
        · simp [h1]
        · simp [h0, h1]
theorem star_perm {L L' : List HP} (hp : L.Perm L') : ∀ {h : Hp}, star L h → star L' h := by
  induction hp with
  | nil => exact fun h => h
  | cons p _ ih => intro h hs; obtain ⟨S, h1, h2⟩ := star_cons.1 hs; exact star_cons.2 ⟨S, h1, ih h2⟩
  | swap p q L => exact star_swap
  | trans _ _ ih1 ih2 => exact fun h => ih2 (ih1 h)
theorem Take.perm {H : List HP} {p : HP} {H' : List HP} (h : Take H p H') : H.Perm (p :: H') := by
  induction h with
  | here => exact .refl _
  | there _ ih => exact (List.Perm.cons _ ih).trans (.swap _ _ _)
theorem Takes.perm {H hl F : List HP} (h : Takes H hl F) : H.Perm (hl ++ F) := by
  induction h with
  | nil => exact .refl _
  | cons ht _ ih => exact ht.perm.trans (.cons _ ih)
theorem star_suf {hl R F : List HP} (hs : Suf R F) {h : Hp} (h0 : star (hl ++ R) h) : star (hl ++ F) h := by
  have h1 : star (R ++ hl) h := star_perm List.perm_append_comm h0
  have h2 : star (F ++ hl) h := by
    clear h0
    induction hs with
    | refl => exact h1
    | skip _ ih => exact ih (star_tail h1)
  exact star_perm List.perm_append_comm h2
theorem WS.takes {w0 w : World} {H hl F : List HP} (h : WS w0 H w) (ht : Takes H hl F) : WS w0 (hl ++ F) w := ⟨star_perm ht.perm h.sat, h.os, h.tape, h.output⟩
theorem WS.sel {w0 w : World} {H hl R F : List HP} (h : WS w0 H w) (ht : Takes H hl R) (hs : Suf R F) : WS w0 (hl ++ F) w := ⟨star_suf hs (star_perm ht.perm h.sat), h.os, h.tape, h.output⟩

/- temporaries -/
def get? : List (Nat × Value) → Nat → Option Value
  | [], _ => none
  | (k, v) :: r, t => bif Nat.beq k t then some v else get? r t
def ev (L : List (Nat × Value)) : Operand → Option Value
  | .tmp t => get? L t
  | .const v => some v
  | .global g => some (.pointer (some ⟨g, 0, none⟩))
  | .func f => some (.func (.func f) #[] #[])

structure Fr (N : Nat) (D : List Deferred) (L : List (Nat × Value)) (a : Act) : Prop where
  size : a.tmps.size = N
  defs : a.defers = D
  val : ∀ t v, get? L t = some v → a.tmps.getD t undef = v

theorem Fr.ev {N D L a x v} (h : Fr N D L a) (he : Eng.ev L x = some v) : a.eval x = v := by
  cases x with
  | tmp t => exact h.val t v he
  | const u => simp only [Eng.ev, Option.some.injEq] at he; subst he; rfl
  | global g => simp only [Eng.ev, Option.some.injEq] at he; subst he; rfl
  | func f => simp only [Eng.ev, Option.some.injEq] at he; subst he; rfl

theorem Fr.put {N D L a} (h : Fr N D L a) (d : Nat) (hd : d < N) (v : Value) : Fr N D ((d, v) :: L) (a.put (some d) v) := by
  refine ⟨by simp [Act.put, h.size], by simpa [Act.put] using h.defs, fun t u hu => ?_⟩
  simp only [get?] at hu
  by_cases ht : d = t
  · subst ht
    rw [show Nat.beq d d = true from Nat.beq_refl d] at hu
    simp only [cond_true, Option.some.injEq] at hu
    subst hu
    have hlt : d < a.tmps.size := by rw [h.size]; exact hd
    simp [Act.put, Array.getD_eq_getD_getElem?, hlt]
  · have : Nat.beq d t = false := by
      cases hb : Nat.beq d t
      · rfl
      · exact absurd (Nat.eq_of_beq_eq_true hb) ht
    rw [this] at hu
    simp only [cond_false] at hu
    have := h.val t u hu
    simpa [Act.put, Array.getD_eq_getD_getElem?, Array.getElem?_setIfInBounds_ne ht] using this

theorem Fr.sub {N D L L' a} (h : Fr N D L a) (hs : ∀ t v, get? L' t = some v → get? L t = some v) : Fr N D L' a := ⟨h.size, h.defs, fun t v hv => h.val t v (hs t v hv)⟩

/-- the slots that are kept -/
def keep (L : List (Nat × Value)) : List Nat → List (Nat × Value)
  | [] => []
  | t :: ts => match get? L t with | some v => (t, v) :: keep L ts | none => keep L ts
/-- L' says no more than L -/
inductive Sub (L : List (Nat × Value)) : List (Nat × Value) → Prop
  | nil : Sub L []
  | cons {t v r} : get? L t = some v → Sub L r → Sub L ((t, v) :: r)
theorem Sub.get {L L' : List (Nat × Value)} (h : Sub L L') : ∀ t v, get? L' t = some v → get? L t = some v := by
  induction h with
  | nil => intro t v h; simp [get?] at h
  | @cons u x r hx _ ih =>
    intro t v h
    simp only [get?] at h
    cases hb : Nat.beq u t
    · rw [hb] at h; exact ih t v h
    · rw [hb] at h
      have := Nat.eq_of_beq_eq_true hb
      subst this
      simp only [cond_true] at h
      rw [hx]; exact h

/- one operation -/
def QOp (P : Program) (L : List (Nat × Value)) (o : Oper) (v : Value) : Prop := ∀ N D a w, Fr N D L a → (execOp a.eval o).run P w = .ok (.value v) w
def ROp (P : Program) (L : List (Nat × Value)) (H : List HP) (o : Oper) (v : Value) : Prop := ∀ N D a w w0, Fr N D L a → WS w0 H w → (execOp a.eval o).run P w = .ok (.value v) w
/-- an effect: R: the slots and the memory behind it -/
def EOp (P : Program) (L : List (Nat × Value)) (H : List HP) (o : Oper) (R : Value → List HP → Prop) : Prop :=
  ∀ N D a w w0 (K : Act → World → Prop) (Q : Exit → Act → World → Prop), Fr N D L a → WS w0 H w → (∀ v H' w', R v H' → WS w0 H' w' → K (a.put o.dst v) w') → o.wp P a w K Q

structure Env where
  P : Program
  dr : Bool
  C : World → Prop
  cl : Oper → Cls
  ol : List Oper
  Q : Exit → Act → World → Prop
  w0 : World
  N : Nat

def G (E : Env) (D : List Deferred) (l : List Oper) (L : List (Nat × Value)) (H : List HP) : Prop :=
  ∀ a w, Fr E.N D L a → WS E.w0 H w → match E.dr with
    | true => E.C w → wpT E.P E.C E.cl E.ol.toArray (E.Q .normal) l a w
    | false => wpList E.P E.ol.toArray E.Q l a w

def nth {α : Type} : List α → Nat → Option α
  | [], _ => none
  | x :: _, 0 => some x
  | _ :: r, n + 1 => nth r n
theorem nth_eq {α : Type} (l : List α) (n : Nat) : nth l n = l[n]? := by
  induction l generalizing n with
  | nil => rfl
  | cons x r ih => cases n <;> simp [nth, ih]

/-- whether the operation's guard lets it run -/
def gd (ol : List Oper) (L : List (Nat × Value)) (o : Oper) : Option Bool :=
  match o.guard with
  | none => some true
  | some (j, want) => match nth ol j with
    | some g => match g.dst with
      | some t => match get? L t with
        | some (.bool b) => some (cond b want (!want))
        | some (.tuple _) => some false
        | _ => none
      | none => none
    | none => none

theorem gd_spec {ol : List Oper} {L : List (Nat × Value)} {o : Oper} {x : Bool} {N D a} (hf : Fr N D L a) (h : gd ol L o = some x) : Region.wanted o (yielded ol.toArray a.tmps) = x := by
  unfold gd at h
  unfold Region.wanted
  cases hg : o.guard with
  | none => rw [hg] at h; simpa using h
  | some jw =>
    obtain ⟨j, want⟩ := jw
    rw [hg] at h
    try simp only at h ⊢
    cases hj : nth ol j with
    | none => rw [hj] at h; cases h
    | some g =>
      rw [hj] at h
      try simp only at h
      cases hd : g.dst with
      | none => rw [hd] at h; cases h
      | some t =>
        rw [hd] at h
        try simp only at h
        cases ht : get? L t with
        | none => rw [ht] at h; cases h
        | some v =>
          rw [ht] at h
          cases v <;> (try simp only at h) <;> try cases h
          case some.some.some.some.tuple.refl vs =>
            have hv := hf.val t _ ht
            have hz : (ol.toArray[j]?).bind (·.dst) = some t := by
              have hj' : ol[j]? = some g := by rw [← nth_eq]; exact hj
              simp [hj', hd]
            unfold yielded
            rw [hz]
            simp only [Option.bind_some]
            rw [Array.getD_eq_getD_getElem?] at hv
            cases hq : a.tmps[t]? with
            | none => rfl
            | some q => rw [hq] at hv; simp only [Option.getD_some] at hv; subst hv; rfl
          rename_i b
          have hv := hf.val t _ ht
          have : yielded ol.toArray a.tmps j = some b := by
            have hj' : ol[j]? = some g := by rw [← nth_eq]; exact hj
            have hlt : t < a.tmps.size := by
              rcases Nat.lt_or_ge t a.tmps.size with h' | h'
              · exact h'
              · rw [Array.getD_eq_getD_getElem?, Array.getElem?_eq_none h'] at hv
                simp [undef] at hv
            have hz : (ol.toArray[j]?).bind (·.dst) = some t := by simp [hj', hd]
            unfold yielded
            rw [hz]
            have hv' : a.tmps[t]? = some (.bool b) := by
              rw [Array.getD_eq_getD_getElem?, Array.getElem?_eq_getElem hlt] at hv
              rw [Array.getElem?_eq_getElem hlt]
              exact congrArg some hv
            show (match a.tmps[t]? with | some (.bool b) => some b | _ => none) = some b
            rw [hv']
          rw [this]
          cases b <;> cases want <;> rfl

def okc (E : Env) (o : Oper) (c : Cls) : Bool := match E.dr, E.cl o, c with
  | false, _, _ => true
  | true, .q, .q => true
  | true, .r, .r => true
  | true, .e, .e => true
  | true, .z, .z => true
  | _, _, _ => false
theorem okc_spec {E : Env} {o : Oper} {c : Cls} (h : okc E o c = true) (hd : E.dr = true) : E.cl o = c := by
  unfold okc at h
  rw [hd] at h
  revert h
  cases E.cl o <;> cases c <;> simp

section
variable {E : Env} {D : List Deferred} {o : Oper} {rest : List Oper} {L : List (Nat × Value)} {H : List HP}

theorem G.q {v : Value} {d : Nat} (hd : o.dst = some d) (hn : Nat.blt d E.N = true) (hg : gd E.ol L o = some true) (hc : okc E o .q = true) (h : QOp E.P L o v) (k : G E D rest ((d, v) :: L) H) : G E D (o :: rest) L H := by
  intro a w hf hw
  have hfr : Fr E.N D ((d, v) :: L) (a.put o.dst v) := by rw [hd]; exact hf.put d (by simp [Nat.blt] at hn; omega) v
  have hwant := gd_spec hf hg
  have k' := k _ w hfr hw
  cases hdr : E.dr <;> rw [hdr] at k' <;> simp only at k' ⊢
  · unfold wpList
    rw [if_pos hwant]
    refine .inl ?_
    unfold Oper.wp
    rw [h _ _ _ _ hf]
    exact k'
  · intro hC
    unfold wpT gOp
    rw [if_pos hwant]
    unfold tRun
    rw [okc_spec hc hdr]
    exact ⟨v, fun w' _ => h _ _ _ _ hf, k' hC⟩

theorem G.r {v : Value} {d : Nat} (hd : o.dst = some d) (hn : Nat.blt d E.N = true) (hg : gd E.ol L o = some true) (hc : okc E o .r = true) (h : ROp E.P L H o v) (k : G E D rest ((d, v) :: L) H) : G E D (o :: rest) L H := by
  intro a w hf hw
  have hfr : Fr E.N D ((d, v) :: L) (a.put o.dst v) := by rw [hd]; exact hf.put d (by simp [Nat.blt] at hn; omega) v
  have hwant := gd_spec hf hg
  have k' := k _ w hfr hw
  cases hdr : E.dr <;> rw [hdr] at k' <;> simp only at k' ⊢
  · unfold wpList
    rw [if_pos hwant]
    refine .inl ?_
    unfold Oper.wp
    rw [h _ _ _ _ _ hf hw]
    exact k'
  · intro hC
    unfold wpT gOp
    rw [if_pos hwant]
    unfold tRun
    rw [okc_spec hc hdr]
    exact ⟨v, h _ _ _ _ _ hf hw, k' hC⟩

/-- an effect whose value is kept in slot d -/
theorem G.e {R : Value → List HP → Prop} {d : Nat} (hd : o.dst = some d) (hn : Nat.blt d E.N = true) (hg : gd E.ol L o = some true) (hc : okc E o .e = true) (h : EOp E.P L H o R)
    (hC : E.dr = true → ∀ v H' w', R v H' → WS E.w0 H' w' → E.C w') (k : ∀ v H', R v H' → G E D rest ((d, v) :: L) H') : G E D (o :: rest) L H := by
  intro a w hf hw
  have hfr : ∀ v, Fr E.N D ((d, v) :: L) (a.put o.dst v) := fun v => by rw [hd]; exact hf.put d (by simp [Nat.blt] at hn; omega) v
  have hwant := gd_spec hf hg
  cases hdr : E.dr <;> simp only
  · unfold wpList
    rw [if_pos hwant]
    refine .inl (h _ _ _ _ _ _ _ hf hw fun v H' w' hR hw' => ?_)
    have := k v H' hR _ w' (hfr v) hw'
    rw [hdr] at this
    exact this
  · intro _
    unfold wpT gOp
    rw [if_pos hwant]
    unfold tRun
    rw [okc_spec hc hdr]
    refine h _ _ _ _ _ _ _ hf hw fun v H' w' hR hw' => ?_
    have hC' := hC hdr v H' w' hR hw'
    have := k v H' hR _ w' (hfr v) hw'
    rw [hdr] at this
    exact ⟨hC', this hC'⟩

/-- an effect without a value -/
theorem G.e0 {R : Value → List HP → Prop} (hd : o.dst = none) (hg : gd E.ol L o = some true) (hc : okc E o .e = true) (h : EOp E.P L H o R)
    (hC : E.dr = true → ∀ v H' w', R v H' → WS E.w0 H' w' → E.C w') (k : ∀ v H', R v H' → G E D rest L H') : G E D (o :: rest) L H := by
  intro a w hf hw
  have hfr : ∀ v, Fr E.N D L (a.put o.dst v) := fun v => by rw [hd]; exact hf
  have hwant := gd_spec hf hg
  cases hdr : E.dr <;> simp only
  · unfold wpList
    rw [if_pos hwant]
    refine .inl (h _ _ _ _ _ _ _ hf hw fun v H' w' hR hw' => ?_)
    have := k v H' hR _ w' (hfr v) hw'
    rw [hdr] at this
    exact this
  · intro _
    unfold wpT gOp
    rw [if_pos hwant]
    unfold tRun
    rw [okc_spec hc hdr]
    refine h _ _ _ _ _ _ _ hf hw fun v H' w' hR hw' => ?_
    have hC' := hC hdr v H' w' hR hw'
    have := k v H' hR _ w' (hfr v) hw'
    rw [hdr] at this
    exact ⟨hC', this hC'⟩

/-- the last effect of a region that draws -/
theorem G.z0 {P : Program} {dr : Bool} {C : World → Prop} {cl : Oper → Cls} {ol : List Oper} {Q : Exit → Act → World → Prop} {w0 : World} {N : Nat} {R : Value → List HP → Prop} (hd : o.dst = none) (hg : gd ol L o = some true) (hc : okc ⟨P, dr, C, cl, ol, Q, w0, N⟩ o .z = true) (h : EOp P L H o R)
    (k : ∀ v H', R v H' → G ⟨P, dr, fun _ => True, cl, ol, Q, w0, N⟩ D rest L H') (hr : rest = []) : G ⟨P, dr, C, cl, ol, Q, w0, N⟩ D (o :: rest) L H := by
  intro a w hf hw
  subst hr
  have hfr : ∀ v, Fr N D L (a.put o.dst v) := fun v => by rw [hd]; exact hf
  have hwant := gd_spec hf hg
  cases dr <;> simp only
  · unfold wpList
    rw [if_pos hwant]
    refine .inl (h _ _ _ _ _ _ _ hf hw fun v H' w' hR hw' => ?_)
    have := k v H' hR _ w' (hfr v) hw'
    simp only at this
    exact this
  · intro _
    unfold wpT gOp
    rw [if_pos hwant]
    unfold tRun
    rw [show cl o = .z from okc_spec hc rfl]
    simp only
    refine h _ _ _ _ _ _ _ hf hw fun v H' w' hR hw' => ?_
    have := k v H' hR _ w' (hfr v) hw'
    simp only at this
    exact this trivial
/-- a quiet operation in a class of worlds -/
theorem G.qC {v : Value} {d : Nat} (hd : o.dst = some d) (hn : Nat.blt d E.N = true) (hg : gd E.ol L o = some true) (hdr : E.dr = true) (hc : okc E o .q = true) (h : ∀ D a w, Fr E.N D L a → E.C w → (execOp a.eval o).run E.P w = .ok (.value v) w) (k : G E D rest ((d, v) :: L) H) : G E D (o :: rest) L H := by
  intro a w hf hw
  have hfr : Fr E.N D ((d, v) :: L) (a.put o.dst v) := by rw [hd]; exact hf.put d (by simp [Nat.blt] at hn; omega) v
  have hwant := gd_spec hf hg
  have k' := k _ w hfr hw
  rw [hdr] at k' ⊢; simp only at k' ⊢
  intro hC
  unfold wpT gOp
  rw [if_pos hwant]
  unfold tRun
  rw [okc_spec hc hdr]
  exact ⟨v, fun w' hC' => h _ _ _ hf hC', k' hC⟩

/-- passed over -/
theorem G.skip {d : Nat} (hd : o.dst = some d) (hn : Nat.blt d E.N = true) (hg : gd E.ol L o = some false) (k : G E D rest ((d, undef) :: L) H) : G E D (o :: rest) L H := by
  intro a w hf hw
  have hfr : Fr E.N D ((d, undef) :: L) (a.put o.dst undef) := by rw [hd]; exact hf.put d (by simp [Nat.blt] at hn; omega) undef
  have hwant := gd_spec hf hg
  have k' := k _ w hfr hw
  cases hdr : E.dr <;> rw [hdr] at k' <;> simp only at k' ⊢
  · unfold wpList
    rw [if_neg (by rw [hwant]; exact Bool.false_ne_true)]
    exact k'
  · intro hC
    unfold wpT gOp
    rw [if_neg (by rw [hwant]; exact Bool.false_ne_true)]
    exact k' hC

theorem G.sub {L' : List (Nat × Value)} (hs : Sub L L') (k : G E D rest L' H) : G E D rest L H := fun a w hf hw => k a w (hf.sub hs.get) hw
theorem G.takes {hl F : List HP} (ht : Takes H hl F) (k : G E D rest L (hl ++ F)) : G E D rest L H := fun a w hf hw => k a w hf (hw.takes ht)
end

end Go.Eng
/-
  One law for each operation, over slots as a list. Speaks of no program.
-/
set_option linter.unusedVariables false
set_option linter.unusedSimpArgs false
namespace Go.Eng

section
variable {P : Program} {L : List (Nat × Value)} {H : List HP} {o : Oper}

theorem q_move {x : Operand} {v : Value} (ho : o.op = .move x) (hx : ev L x = some v) : QOp P L o v := by
  intro N D a w hf
  unfold execOp; rw [ho]; simp only [hf.ev hx]; rfl
theorem q_assign {x : Operand} {v : Value} (ho : o.op = .assign x) (hx : ev L x = some v) : QOp P L o v := by
  intro N D a w hf
  unfold execOp; rw [ho]; simp only [hf.ev hx]; rfl
theorem q_pick_t {c x y : Operand} {v : Value} (ho : o.op = .pick c x y) (hc : ev L c = some (.bool true)) (hx : ev L x = some v) : QOp P L o v := by
  intro N D a w hf
  unfold execOp; rw [ho]; simp only [hf.ev hc, hf.ev hx]; rfl
theorem q_pick_f {c x y : Operand} {v : Value} (ho : o.op = .pick c x y) (hc : ev L c = some (.bool false)) (hx : ev L y = some v) : QOp P L o v := by
  intro N D a w hf
  unfold execOp; rw [ho]; simp only [hf.ev hc, hf.ev hx]; rfl
theorem q_nil_p {x : Operand} {p : Addr} (ho : o.op = .nilCheck x) (hx : ev L x = some (.pointer (some p))) : QOp P L o (.pointer (some p)) := by
  intro N D a w hf
  unfold execOp; rw [ho]; simp only [hf.ev hx]; rfl
/-- a field's offset, its size not 0 -/
def fieldOff (P : Program) (s : TypeId) (f : Nat) : Option Nat :=
  match P.underlying s with
  | some (.struct fs) => match fs[f]? with
    | some fd => match P.info? fd.type with
      | some i => if i.size = 0 then none else some fd.offset
      | none => none
    | none => none
  | _ => none
theorem q_field {x : Operand} {s : TypeId} {f k b off : Nat} (ho : o.op = .fieldAddr s x f) (hx : ev L x = some (.pointer (some ⟨b, off, none⟩))) (hk : fieldOff P s f = some k) : QOp P L o (.pointer (some ⟨b, off + k, none⟩)) := by
  intro N D a w hf
  unfold execOp; rw [ho]; simp only [hf.ev hx]
  unfold fieldOff at hk
  cases hu : P.underlying s with
  | none => rw [hu] at hk; cases hk
  | some d =>
    rw [hu] at hk
    cases d <;> try cases hk
    rename_i fs
    cases hfd : fs[f]? with
    | none => simp only [hfd] at hk; cases hk
    | some fd =>
      simp only [hfd] at hk
      cases hi : P.info? fd.type with
      | none => simp only [hi] at hk; cases hk
      | some i =>
        simp only [hi] at hk
        split at hk
        · cases hk
        · rename_i hz
          simp only [Option.some.injEq] at hk
          subst hk
          simp [Instr.fieldAt, run_underlying hu, hfd, Instr.sureAddr, fieldPlace, sizeOf, typeInfo, hi, hz, Addr.add_lit]
/-- the same at the head of a block -/
theorem q_field0 {x : Operand} {s : TypeId} {f k b : Nat} (ho : o.op = .fieldAddr s x f) (hx : ev L x = some (.pointer (some ⟨b, 0, none⟩))) (hk : fieldOff P s f = some k) : QOp P L o (.pointer (some ⟨b, k, none⟩)) := by
  have := q_field ho hx hk
  rw [Nat.zero_add] at this
  exact this

section
variable {x y : Operand} {T U : TypeId} {k yk : IntKind} {m n : Int}
theorem q_bin {op : BinOp} {u v r : Value} (ho : o.op = .binOp op T x y U) (hx : ev L x = some u) (hy : ev L y = some v) (hr : ∀ w : World, ((do eqGuard op T x y u v; binOp op T u v) : Sem Value).run P w = .ok r w) : QOp P L o r := by
  intro N D a w hf
  unfold execOp; rw [ho]; simp only [hf.ev hx, hf.ev hy]
  have := hr w
  simp only [Sem.run_bind] at this ⊢
  rw [this]
  rfl
theorem q_add (ho : o.op = .binOp .add T x y U) (hx : ev L x = some (.int k m)) (hy : ev L y = some (.int k n)) : QOp P L o (.int k (k.wrap (m + n))) := q_bin ho hx hy fun w => by simp [go_sem, Op.intArith]
theorem q_sub (ho : o.op = .binOp .sub T x y U) (hx : ev L x = some (.int k m)) (hy : ev L y = some (.int k n)) : QOp P L o (.int k (k.wrap (m - n))) := q_bin ho hx hy fun w => by simp [go_sem, Op.intArith]
theorem q_mul (ho : o.op = .binOp .mul T x y U) (hx : ev L x = some (.int k m)) (hy : ev L y = some (.int k n)) : QOp P L o (.int k (k.wrap (m * n))) := q_bin ho hx hy fun w => by simp [go_sem, Op.intArith]
theorem wrap64_in {n : Int} (h : -9223372036854775808 ≤ n ∧ n ≤ 9223372036854775807) : IntKind.i64.wrap n = n := IntWalk.i64_in n h
theorem wrapu_in {n : Int} {k : IntKind} {b : Nat} (hk : k.signed = false) (hb : k.bits = b) (h : 0 ≤ n ∧ n < 2 ^ b) : k.wrap n = n := by
  unfold IntKind.wrap; rw [hk, hb]; simp only [Bool.false_and]; rw [if_neg (by simp)]; exact Int.emod_eq_of_lt h.1 h.2
theorem q_add_i (ho : o.op = .binOp .add T x y U) (hx : ev L x = some (.int .i64 m)) (hy : ev L y = some (.int .i64 n)) (h : -9223372036854775808 ≤ m + n ∧ m + n ≤ 9223372036854775807) : QOp P L o (.int .i64 (m + n)) := by
  have := q_add (P := P) ho hx hy; rw [wrap64_in h] at this; exact this
theorem q_sub_i (ho : o.op = .binOp .sub T x y U) (hx : ev L x = some (.int .i64 m)) (hy : ev L y = some (.int .i64 n)) (h : -9223372036854775808 ≤ m - n ∧ m - n ≤ 9223372036854775807) : QOp P L o (.int .i64 (m - n)) := by
  have := q_sub (P := P) ho hx hy; rw [wrap64_in h] at this; exact this
theorem q_mul_i (ho : o.op = .binOp .mul T x y U) (hx : ev L x = some (.int .i64 m)) (hy : ev L y = some (.int .i64 n)) (h : -9223372036854775808 ≤ m * n ∧ m * n ≤ 9223372036854775807) : QOp P L o (.int .i64 (m * n)) := by
  have := q_mul (P := P) ho hx hy; rw [wrap64_in h] at this; exact this
theorem q_quo (ho : o.op = .binOp .quo T x y U) (hx : ev L x = some (.int k m)) (hy : ev L y = some (.int k n)) (h : n ≠ 0) : QOp P L o (.int k (k.wrap (m.tdiv n))) := q_bin ho hx hy fun w => by simp [go_sem, Op.intDiv, h]
theorem q_rem (ho : o.op = .binOp .rem T x y U) (hx : ev L x = some (.int k m)) (hy : ev L y = some (.int k n)) (h : n ≠ 0) : QOp P L o (.int k (m.tmod n)) := q_bin ho hx hy fun w => by simp [go_sem, Op.intDiv, h]
theorem q_quo_i (ho : o.op = .binOp .quo T x y U) (hx : ev L x = some (.int .i64 m)) (hy : ev L y = some (.int .i64 n)) (h : 0 < n ∧ 0 ≤ m ∧ m ≤ 9223372036854775807) : QOp P L o (.int .i64 (m / n)) := by
  have := q_quo (P := P) ho hx hy (by omega)
  rw [Int.tdiv_eq_ediv_of_nonneg h.2.1, wrap64_in] at this
  · exact this
  · have h1 := Int.ediv_nonneg h.2.1 (by omega : 0 ≤ n)
    have h2 := Int.ediv_le_self n h.2.1
    omega
theorem q_rem_n (ho : o.op = .binOp .rem T x y U) (hx : ev L x = some (.int k m)) (hy : ev L y = some (.int k n)) (h : 0 < n ∧ 0 ≤ m) : QOp P L o (.int k (m % n)) := by
  have := q_rem (P := P) ho hx hy (by omega)
  rw [Int.tmod_eq_emod_of_nonneg h.2] at this
  exact this
theorem q_and (ho : o.op = .binOp .and T x y U) (hx : ev L x = some (.int k m)) (hy : ev L y = some (.int k n)) : QOp P L o (.int k (bits .and k m n)) := q_bin ho hx hy fun w => by simp [go_sem]
theorem q_or (ho : o.op = .binOp .or T x y U) (hx : ev L x = some (.int k m)) (hy : ev L y = some (.int k n)) : QOp P L o (.int k (bits .or k m n)) := q_bin ho hx hy fun w => by simp [go_sem]
theorem q_xor (ho : o.op = .binOp .xor T x y U) (hx : ev L x = some (.int k m)) (hy : ev L y = some (.int k n)) : QOp P L o (.int k (bits .xor k m n)) := q_bin ho hx hy fun w => by simp [go_sem]
theorem q_shl (ho : o.op = .binOp .shl T x y U) (hx : ev L x = some (.int k m)) (hy : ev L y = some (.int yk n)) (h : 0 ≤ n) : QOp P L o (.int k (k.wrap (m * 2 ^ min n.toNat k.bits))) := q_bin ho hx hy fun w => by simp only [binOp_shl, eqGuard_shl, shift_shl_any k yk m n h]; rfl
theorem q_shr (ho : o.op = .binOp .shr T x y U) (hx : ev L x = some (.int k m)) (hy : ev L y = some (.int yk n)) (h : 0 ≤ n) : QOp P L o (.int k (m / 2 ^ min n.toNat k.bits)) := q_bin ho hx hy fun w => by simp only [binOp_shr, eqGuard_shr, shift_shr_any k yk m n h]; rfl
theorem q_eql (ho : o.op = .binOp .eql T x y U) (hx : ev L x = some (.int k m)) (hy : ev L y = some (.int k n)) : QOp P L o (.bool (decide (m = n))) := q_bin ho hx hy fun w => by simp [go_sem]; rfl
theorem q_neq (ho : o.op = .binOp .neq T x y U) (hx : ev L x = some (.int k m)) (hy : ev L y = some (.int k n)) : QOp P L o (.bool (decide (m ≠ n))) := q_bin ho hx hy fun w => by simp [go_sem, bne]; rfl
theorem q_lss (ho : o.op = .binOp .lss T x y U) (hx : ev L x = some (.int k m)) (hy : ev L y = some (.int k n)) : QOp P L o (.bool (decide (m < n))) := q_bin ho hx hy fun w => by simp [go_sem]
theorem q_leq (ho : o.op = .binOp .leq T x y U) (hx : ev L x = some (.int k m)) (hy : ev L y = some (.int k n)) : QOp P L o (.bool (decide (m ≤ n))) := q_bin ho hx hy fun w => by simp [go_sem]
theorem q_gtr (ho : o.op = .binOp .gtr T x y U) (hx : ev L x = some (.int k m)) (hy : ev L y = some (.int k n)) : QOp P L o (.bool (decide (n < m))) := q_bin ho hx hy fun w => by simp [go_sem]
theorem q_geq (ho : o.op = .binOp .geq T x y U) (hx : ev L x = some (.int k m)) (hy : ev L y = some (.int k n)) : QOp P L o (.bool (decide (n ≤ m))) := q_bin ho hx hy fun w => by simp [go_sem]
end

theorem q_un {x : Operand} {op : UnOp} {T : TypeId} {u r : Value} (ho : o.op = .unOp op T x) (hx : ev L x = some u) (hr : ∀ w, (Op.unary op u).run P w = .ok r w) : QOp P L o r := by
  intro N D a w hf
  unfold execOp; rw [ho]; simp only [hf.ev hx]
  simp only [Sem.run_bind]
  rw [hr w]; rfl
theorem q_not {x : Operand} {T : TypeId} {b : Bool} (ho : o.op = .unOp .not T x) (hx : ev L x = some (.bool b)) : QOp P L o (.bool (!b)) := q_un ho hx fun w => by cases b <;> rfl

/-- the kind of an integer type -/
def intK (P : Program) (T : TypeId) : Option IntKind := match P.underlying T with | some (.int k) => some k | _ => none
theorem intK_spec {P : Program} {T : TypeId} {k : IntKind} (h : intK P T = some k) : P.underlying T = some (.int k) := by
  unfold intK at h
  split at h
  · rename_i h'; simp only [Option.some.injEq] at h; subst h; exact h'
  · cases h
theorem q_conv {x : Operand} {S T : TypeId} {j k : IntKind} {n : Int} (ho : o.op = .convert S T x) (hx : ev L x = some (.int j n)) (hs : (P.underlying S).isSome = true) (hk : intK P T = some k) : QOp P L o (.int k (k.wrap n)) := by
  intro N D a w hf
  have hT := intK_spec hk
  obtain ⟨d, hd⟩ := Option.isSome_iff_exists.1 hs
  unfold execOp; rw [ho]; simp only [hf.ev hx]
  simp [convert, run_underlying hd, run_underlying hT, Conv.intToInt]
theorem q_conv_in {x : Operand} {S T : TypeId} {j k : IntKind} {n : Int} (ho : o.op = .convert S T x) (hx : ev L x = some (.int j n)) (hs : (P.underlying S).isSome = true) (hk : intK P T = some k) (hw : k.wrap n = n) : QOp P L o (.int k n) := by
  have := q_conv ho hx hs hk; rw [hw] at this; exact this

theorem q_extract {x : Operand} {i : Nat} {vs : Array Value} {v : Value} (ho : o.op = .extract x i) (hx : ev L x = some (.tuple vs)) (hv : nth vs.toList i = some v) : QOp P L o v := by
  intro N D a w hf
  rw [nth_eq] at hv
  have hv' : vs[i]? = some v := by simpa using hv
  unfold execOp; rw [ho]; simp only [hf.ev hx]
  simp [Instr.extract, hv']

/- builtins -/
theorem q_len_s {x : Operand} {t : TypeId} {s : ByteArray} (ho : o.op = .call { callee := .builtin .len, args := #[x], argTypes := #[t] }) (hx : ev L x = some (.string s)) (hs : P.underlying t = some .string) : QOp P L o (.int .i64 s.size) := by
  intro N D a w hf
  unfold execOp; rw [ho]
  simp [resolve, invoke, builtin, hf.ev hx, Builtin.len_, run_underlying hs, goInt]
def sliceE (P : Program) (T : TypeId) : Option TypeId := match P.underlying T with | some (.slice e) => some e | _ => none
theorem sliceE_spec {P : Program} {T e : TypeId} (h : sliceE P T = some e) : P.underlying T = some (.slice e) := by
  unfold sliceE at h
  split at h
  · rename_i h'; simp only [Option.some.injEq] at h; subst h; exact h'
  · cases h
theorem q_len_sl {x : Operand} {t e : TypeId} {ad : Option Addr} {n c : Nat} (ho : o.op = .call { callee := .builtin .len, args := #[x], argTypes := #[t] }) (hx : ev L x = some (.slice ad n c)) (hs : sliceE P t = some e) : QOp P L o (.int .i64 n) := by
  intro N D a w hf
  unfold execOp; rw [ho]
  simp [resolve, invoke, builtin, hf.ev hx, Builtin.len_, run_underlying (sliceE_spec hs), goInt]
theorem q_min {x y : Operand} {ts : Array TypeId} {k : IntKind} {m n : Int} (ho : o.op = .call { callee := .builtin .min, args := #[x, y], argTypes := ts }) (hx : ev L x = some (.int k m)) (hy : ev L y = some (.int k n)) : QOp P L o (.int k (if n < m then n else m)) := by
  intro N D a w hf
  unfold execOp; rw [ho]
  simp [resolve, invoke, builtin, hf.ev hx, hf.ev hy, run_min_int2]
theorem q_max {x y : Operand} {ts : Array TypeId} {k : IntKind} {m n : Int} (ho : o.op = .call { callee := .builtin .max, args := #[x, y], argTypes := ts }) (hx : ev L x = some (.int k m)) (hy : ev L y = some (.int k n)) : QOp P L o (.int k (if m < n then n else m)) := by
  intro N D a w hf
  unfold execOp; rw [ho]
  simp [resolve, invoke, builtin, hf.ev hx, hf.ev hy, run_max_int2]

/- strings -/
def str (l : List UInt8) : Value := .string ⟨l.toArray⟩
theorem str_of (s : ByteArray) : Value.string s = str s.data.toList := by unfold str; cases s; simp
theorem q_len_str {x : Operand} {t : TypeId} {l : List UInt8} (ho : o.op = .call { callee := .builtin .len, args := #[x], argTypes := #[t] }) (hx : ev L x = some (str l)) (hs : P.underlying t = some .string) : QOp P L o (.int .i64 l.length) := by
  have := q_len_s ho hx hs
  simpa [ByteArray.size] using this
theorem q_index {x y : Operand} {t : TypeId} {l : List UInt8} {k : IntKind} {n : Nat} {c : UInt8} (ho : o.op = .index t x y) (hx : ev L x = some (str l)) (hy : ev L y = some (.int k n)) (hs : P.underlying t = some .string) (hc : l[n]? = some c) : QOp P L o (.int .u8 c.toNat) := by
  intro N D a w hf
  unfold execOp; rw [ho]
  have hg : (⟨l.toArray⟩ : ByteArray)[n]? = some c := by
    have hlt := (List.getElem?_eq_some_iff.1 hc).1
    rw [getElem?_pos (⟨l.toArray⟩ : ByteArray) n (by simpa [ByteArray.size] using hlt)]
    have := (List.getElem?_eq_some_iff.1 hc).2
    rw [← this]; rfl
  simp [hf.ev hx, hf.ev hy, str, Instr.index, asIntOf, run_underlying hs, hg]
theorem str_extract (l : List UInt8) (a b : Nat) : (⟨l.toArray⟩ : ByteArray).extract a b = ⟨((l.take b).drop a).toArray⟩ := by
  apply ByteArray.ext
  rw [ByteArray.data_extract]
  apply Array.toList_inj.1
  simp [List.drop_take]
theorem run_slice_str {t : TypeId} {l : List UInt8} {a b : Nat} (hs : P.underlying t = some .string) (h : a ≤ b ∧ b ≤ l.length) (low high : Option Value) (w : World)
    (h1 : match low with | none => a = 0 | some y => ∃ k, y = .int k (a : Int)) (h2 : match high with | none => b = l.length | some y => ∃ k, y = .int k (b : Int)) :
    (Instr.sliceAt t (.string ⟨l.toArray⟩) low high none).run P w = .ok (str ((l.take b).drop a)) w := by
  have hsz : (⟨l.toArray⟩ : ByteArray).size = l.length := by simp [ByteArray.size]
  have hb1 : ((b : Int) ≤ l.length) := by omega
  have ha1 : ((a : Int) ≤ b) := by omega
  have hb2 : ¬ l.length < b := by omega
  have ha2 : ¬ b < a := by omega
  cases low <;> cases high <;> simp only at h1 h2
  · subst h1; subst h2
    simp [Instr.sliceAt, run_underlying hs, Instr.slice, Instr.sliceBounds, hsz, str_extract, str]
  · subst h1; obtain ⟨k2, rfl⟩ := h2
    simp [Instr.sliceAt, run_underlying hs, Instr.slice, Instr.sliceBounds, Instr.sliceBound, asIntOf, hsz, str_extract, str, h.2]
  · subst h2; obtain ⟨k1, rfl⟩ := h1
    simp [Instr.sliceAt, run_underlying hs, Instr.slice, Instr.sliceBounds, Instr.sliceBound, asIntOf, hsz, str_extract, str, h.1]
  · obtain ⟨k1, rfl⟩ := h1; obtain ⟨k2, rfl⟩ := h2
    simp [Instr.sliceAt, run_underlying hs, Instr.slice, Instr.sliceBounds, Instr.sliceBound, asIntOf, hsz, str_extract, str, h.1, h.2]
theorem q_slice_hi {x y : Operand} {t : TypeId} {l : List UInt8} {b : Nat} {k : IntKind} (ho : o.op = .slice t x none (some y) none) (hx : ev L x = some (str l)) (hy : ev L y = some (.int k (b : Int))) (hs : P.underlying t = some .string) (h : b ≤ l.length) : QOp P L o (str (l.take b)) := by
  intro N D ac w hf
  unfold execOp; rw [ho]
  have := run_slice_str (P := P) (a := 0) (b := b) hs ⟨Nat.zero_le _, h⟩ none (some (.int k b)) w rfl ⟨k, rfl⟩
  simp only [hf.ev hx, hf.ev hy, str, Option.map_none, Option.map_some, Sem.run_bind, List.drop_zero] at this ⊢
  rw [this]; rfl
theorem q_slice_lo {x y : Operand} {t : TypeId} {l : List UInt8} {a : Nat} {k : IntKind} (ho : o.op = .slice t x (some y) none none) (hx : ev L x = some (str l)) (hy : ev L y = some (.int k (a : Int))) (hs : P.underlying t = some .string) (h : a ≤ l.length) : QOp P L o (str (l.drop a)) := by
  intro N D ac w hf
  unfold execOp; rw [ho]
  have := run_slice_str (P := P) (a := a) (b := l.length) hs ⟨h, Nat.le_refl _⟩ (some (.int k a)) none w ⟨k, rfl⟩ rfl
  simp only [hf.ev hx, hf.ev hy, str, Option.map_none, Option.map_some, Sem.run_bind, List.take_length] at this ⊢
  rw [this]; rfl
theorem q_slice_lh {x y z : Operand} {t : TypeId} {l : List UInt8} {a b : Nat} {k k' : IntKind} (ho : o.op = .slice t x (some y) (some z) none) (hx : ev L x = some (str l)) (hy : ev L y = some (.int k (a : Int))) (hz : ev L z = some (.int k' (b : Int))) (hs : P.underlying t = some .string) (h : a ≤ b ∧ b ≤ l.length) : QOp P L o (str ((l.take b).drop a)) := by
  intro N D ac w hf
  unfold execOp; rw [ho]
  have := run_slice_str (P := P) (a := a) (b := b) hs h (some (.int k a)) (some (.int k' b)) w ⟨k, rfl⟩ ⟨k', rfl⟩
  simp only [hf.ev hx, hf.ev hy, hf.ev hz, str, Option.map_none, Option.map_some, Sem.run_bind] at this ⊢
  rw [this]; rfl

theorem list_beq {α : Type} [DecidableEq α] (l m : List α) : (l == m) = decide (l = m) := by
  by_cases h : l = m <;> simp [h]
theorem toList_str (l : List UInt8) : (⟨l.toArray⟩ : ByteArray).toList = l := by
  simp
theorem q_eql_s {x y : Operand} {T U : TypeId} {l m : List UInt8} (ho : o.op = .binOp .eql T x y U) (hx : ev L x = some (str l)) (hy : ev L y = some (str m)) : QOp P L o (.bool (decide (l = m))) := q_bin ho hx hy fun w => by
  simp only [str, eqGuard_at_string, binOp_string_eql, toList_str]; simp [list_beq]
theorem q_neq_s {x y : Operand} {T U : TypeId} {l m : List UInt8} (ho : o.op = .binOp .neq T x y U) (hx : ev L x = some (str l)) (hy : ev L y = some (str m)) : QOp P L o (.bool (decide (l ≠ m))) := q_bin ho hx hy fun w => by
  simp only [str, eqGuard_at_string, binOp_string_neq, toList_str]; simp [list_beq]
theorem str_append (l m : List UInt8) : (⟨l.toArray⟩ : ByteArray) ++ ⟨m.toArray⟩ = ⟨(l ++ m).toArray⟩ := by
  apply ByteArray.ext; simp
theorem q_add_s {x y : Operand} {T U : TypeId} {l m : List UInt8} (ho : o.op = .binOp .add T x y U) (hx : ev L x = some (str l)) (hy : ev L y = some (str m)) (h : l.length + m.length ≤ 9223372036854775807) : QOp P L o (str (l ++ m)) := q_bin ho hx hy fun w => by
  simp only [str, eqGuard_add, binOp_string_add, Sem.run_bind, Sem.run_pure, Result.andThen_ok]
  have e := run_string_add_sum (P := P) (w := w) ⟨l.toArray⟩ ⟨m.toArray⟩ (by simpa [ByteArray.size] using h)
  rw [str_append] at e; exact e

theorem q_iface {x : Operand} {T : TypeId} {v : Value} (ho : o.op = .makeInterface T x) (hx : ev L x = some v) (hT : match P.underlying T with | some (.interface _) => False | some _ => True | none => False) : QOp P L o (.iface T v) := by
  intro N D a w hf
  unfold execOp; rw [ho]
  cases hu : P.underlying T with
  | none => rw [hu] at hT; exact hT.elim
  | some d =>
    rw [hu] at hT
    cases d <;> simp only at hT <;> simp [hf.ev hx, Instr.makeInterface, run_underlying hu]

/- slices: addresses -/
def sizeB (P : Program) (T : TypeId) : Option Nat := (P.info? T).map (·.size)
theorem run_sizeOf {T n : Nat} (h : sizeB P T = some n) (w : World) : (sizeOf T).run P w = .ok n w := by
  unfold sizeB at h
  cases hi : P.info? T with
  | none => rw [hi] at h; cases h
  | some i => rw [hi] at h; simp only [Option.map_some, Option.some.injEq] at h; subst h; simp [sizeOf, typeInfo, hi]
theorem q_ixaddr {x y : Operand} {t e : TypeId} {b off len cap sz : Nat} {k : IntKind} {i : Nat} (ho : o.op = .indexAddr t x y) (hx : ev L x = some (.slice (some ⟨b, off, none⟩) len cap)) (hy : ev L y = some (.int k i))
    (hs : sliceE P t = some e) (hz : sizeB P e = some sz) (h : i < len) : QOp P L o (.pointer (some ⟨b, off + i * sz, none⟩)) := by
  intro N D a w hf
  unfold execOp; rw [ho]
  have : ((i : Int) < len) := by omega
  simp [hf.ev hx, hf.ev hy, Instr.indexAt, asIntOf, run_underlying (sliceE_spec hs), h, run_sizeOf hz, Addr.add_lit]
theorem q_ixaddr1 {x y : Operand} {t e : TypeId} {b len cap : Nat} {k : IntKind} {i : Nat} (ho : o.op = .indexAddr t x y) (hx : ev L x = some (.slice (some ⟨b, 0, none⟩) len cap)) (hy : ev L y = some (.int k i))
    (hs : sliceE P t = some e) (hz : sizeB P e = some 1) (h : i < len) : QOp P L o (.pointer (some ⟨b, i, none⟩)) := by
  have := q_ixaddr ho hx hy hs hz h
  rw [Nat.zero_add, Nat.mul_one] at this; exact this
def arrE (P : Program) (T : TypeId) : Option (Nat × TypeId) := match P.underlying T with | some (.array n e) => some (n, e) | _ => none
theorem arrE_spec {T n e : Nat} (h : arrE P T = some (n, e)) : P.underlying T = some (.array n e) := by
  unfold arrE at h
  split at h
  · rename_i h'; simp only [Option.some.injEq, Prod.mk.injEq] at h; obtain ⟨rfl, rfl⟩ := h; exact h'
  · cases h
theorem q_ixarr {x y : Operand} {t e n : Nat} {b off sz : Nat} {k : IntKind} {i : Nat} (ho : o.op = .indexAddr t x y) (hx : ev L x = some (.pointer (some ⟨b, off, none⟩))) (hy : ev L y = some (.int k i))
    (hs : arrE P t = some (n, e)) (hz : sizeB P e = some sz) (h : i < n) : QOp P L o (.pointer (some ⟨b, off + i * sz, none⟩)) := by
  intro N D a w hf
  unfold execOp; rw [ho]
  have : ((i : Int) < n) := by omega
  simp [hf.ev hx, hf.ev hy, Instr.indexAt, asIntOf, run_underlying (arrE_spec hs), Instr.sureAddr, h, run_sizeOf hz, Addr.add_lit]

/- loads and stores -/
def aggB (P : Program) (T : TypeId) : Option Bool := (P.underlying T).map fun | .struct _ => true | .array .. => true | _ => false
theorem run_isAgg {T : TypeId} {x : Bool} (h : aggB P T = some x) (w : World) : (isAgg T).run P w = .ok x w := by
  unfold aggB at h
  cases hu : P.underlying T with
  | none => rw [hu] at h; cases h
  | some d =>
    rw [hu] at h
    simp only [Option.map_some, Option.some.injEq] at h
    subst h
    cases d <;> simp [isAgg, run_underlying hu]
theorem cell_cel {w0 w : World} {b T off : Nat} {cs : List Value} {v : Value} (hw : WS w0 H w) (hm : Mem (cel b T cs) H) (hv : nth cs off = some v) : w.cell? ⟨b, off, none⟩ = some v := by
  have := hw.pt hm
  rw [nth_eq] at hv
  simp [World.cell?, this, hv]
theorem frozen_cel {w0 w : World} {b T off : Nat} {cs : List Value} (hw : WS w0 H w) (hm : Mem (cel b T cs) H) : w.frozen? ⟨b, off, none⟩ = false := by
  have := hw.pt hm
  simp [World.frozen?, this]
theorem r_load {x : Operand} {T U : TypeId} {b off : Nat} {cs : List Value} {v : Value} (ho : o.op = .load T x) (hx : ev L x = some (.pointer (some ⟨b, off, none⟩))) (hT : aggB P T = some false) (hm : Mem (cel b U cs) H) (hv : nth cs off = some v) : ROp P L H o v := by
  intro N D a w w0 hf hw
  unfold execOp; rw [ho]
  simp [hf.ev hx, Instr.loadAt, Instr.sureAddr, loadVar, run_isAgg hT, cell_cel hw hm hv]
theorem setCell_cel {w : World} {b T off : Nat} {cs cs' : List Value} {v : Value} (hb : w.heap[b]? = some (.cells cs.toArray T (0, 0))) (hs : SetAt cs off v cs') :
    (w.setCell ⟨b, off, none⟩ v).heap[b]? = some (.cells cs'.toArray T (0, 0)) ∧ ∀ k, k ≠ b → (w.setCell ⟨b, off, none⟩ v).heap[k]? = w.heap[k]? := by
  refine ⟨?_, fun k hk => RowKit.Below.heap_setCell _ _ _ _ hk⟩
  obtain ⟨hlt, rfl⟩ := hs.eq
  simp [World.setCell, Array.getElem?_modify, hb]
theorem e_store {x y : Operand} {T U : TypeId} {b off : Nat} {cs cs' : List Value} {v : Value} {H' : List HP} (ho : o.op = .store T x y) (hx : ev L x = some (.pointer (some ⟨b, off, none⟩))) (hy : ev L y = some v)
    (hT : sizeB P T = some 1) (hv : v.oneCell' = true) (hs : SetAt cs off v cs') (hr : Rep H (cel b U cs) (cel b U cs') H') : EOp P L H o (fun u H2 => u = undef ∧ H2 = H') := by
  intro N D a w w0 K Q hf hw hk
  have hm : Mem (cel b U cs) H := by
    clear hk hw hs
    generalize hp : cel b U cs = p at hr
    generalize cel b U cs' = p' at hr
    clear hp
    induction hr with
    | here => exact .here
    | there _ ih => exact .there ih
  have hb := hw.pt hm
  have hcell : ∃ u, w.cell? ⟨b, off, none⟩ = some u := by
    have hlt := hs.eq.1
    exact ⟨cs[off], by simp [World.cell?, hb, hlt]⟩
  obtain ⟨u, hu⟩ := hcell
  have hfz := frozen_cel (off := off) hw hm
  have hrun : (execOp a.eval o).run P w = .ok .skip (w.setCell ⟨b, off, none⟩ v) := by
    unfold execOp; rw [ho]
    simp only [hf.ev hx, hf.ev hy, Instr.storeAt, Instr.sureAddr, storeVar, Sem.run_bind, Sem.run_pure, Result.andThen_ok, run_sizeOf hT]
    have hc : v.cells = #[v] := by cases v <;> first | rfl | (simp [Value.oneCell'] at hv)
    rw [hc]
    simp [storeCells, run_store P _ _ v _ hv, stored, Addr.add_zero', hu, hfz]
  unfold Oper.wp
  rw [hrun]
  exact hk undef H' _ ⟨rfl, rfl⟩ (hw.put hr (setCell_cel hb hs).1 (setCell_cel hb hs).2 rfl rfl rfl)

end
end Go.Eng
/-
  Rules for code, loops, calls by contract, a function's end. Speaks of no program.
-/
set_option linter.unusedVariables false
set_option linter.unusedSimpArgs false
namespace Go.Eng

/-- the class of an operation, by its form -/
def cls (o : Oper) : Cls := match o.op with
  | .move _ | .assign _ | .pick .. | .build .. | .nilCheck _ | .binOp .. | .unOp .. | .makeInterface .. | .makeFunc .. | .slice .. | .fieldAddr .. | .field .. | .indexAddr .. | .index .. | .extract .. => .q
  | .load .. => .r
  | .lookup .. => .r
  | .convert s t _ => .r
  | .call { callee := .builtin .len, .. } | .call { callee := .builtin .min, .. } | .call { callee := .builtin .max, .. } => .q
  | _ => .e
/-- conversions between integers are quiet, too: named by their slots -/
def clsQ (qs : List Nat) (o : Oper) : Cls := match o.dst with
  | some d => bif qs.any (Nat.beq d) then .q else cls o
  | none => cls o

/-- .. and the store at the end is the last effect -/
def clsZ (qs : List Nat) (o : Oper) : Cls := match o.op with
  | .store .. => .z
  | _ => clsQ qs o

def CG (P : Program) (w0 : World) (N : Nat) (c : Code) (Q : Exit → Act → World → Prop) (D : List Deferred) (L : List (Nat × Value)) (H : List HP) : Prop :=
  ∀ a w, Fr N D L a → WS w0 H w → c.wp P Q a w
/-- the place behind some code -/
def EN (w0 : World) (N : Nat) (Q : Exit → Act → World → Prop) (e : Exit) (D : List Deferred) (L : List (Nat × Value)) (H : List HP) : Prop :=
  ∀ a w, Fr N D L a → WS w0 H w → Q e a w

section
variable {P : Program} {w0 : World} {N : Nat} {Q : Exit → Act → World → Prop} {D : List Deferred} {L : List (Nat × Value)} {H : List HP}

theorem CG.seq {x y : Code} (h : CG P w0 N x (Exit.then (y.wp P Q) Q) D L H) : CG P w0 N (.seq x y) Q D L H := fun a w hf hw => wp_seq (h a w hf hw)
theorem CG.skip (h : EN w0 N Q .normal D L H) : CG P w0 N .skip Q D L H := fun a w hf hw => wp_skip (h a w hf hw)
theorem CG.label {l : Nat} (h : EN w0 N Q .normal D L H) : CG P w0 N (.label l) Q D L H := fun a w hf hw => wp_label (h a w hf hw)
theorem CG.ret (h : EN w0 N Q .ret D L H) : CG P w0 N .ret Q D L H := fun a w hf hw => wp_ret (h a w hf hw)
theorem CG.exit {i : Nat} (h : EN w0 N Q (.exit i) D L H) : CG P w0 N (.exit i) Q D L H := fun a w hf hw => wp_exit (h a w hf hw)
theorem CG.goto {i : Nat} (h : EN w0 N Q (.goto i) D L H) : CG P w0 N (.goto i) Q D L H := fun a w hf hw => wp_goto (h a w hf hw)
theorem CG.block {i : Nat} {c : Code} (h : CG P w0 N c (Exit.inBlock i Q) D L H) : CG P w0 N (.block i c) Q D L H := fun a w hf hw => wp_block (h a w hf hw)
theorem CG.cond {c : Operand} {x y : Code} {p : Prop} [Decidable p] (hc : ev L c = some (.bool (decide p))) (h1 : p → CG P w0 N x Q D L H) (h2 : ¬ p → CG P w0 N y Q D L H) : CG P w0 N (.cond c x y) Q D L H := by
  intro a w hf hw
  refine wp_cond_split (hf.ev hc) (fun h => h1 (of_decide_eq_true h) a w hf hw) (fun h => h2 (of_decide_eq_false h) a w hf hw)
theorem CG.condB {c : Operand} {x y : Code} {b : Bool} (hc : ev L c = some (.bool b)) (h1 : b = true → CG P w0 N x Q D L H) (h2 : b = false → CG P w0 N y Q D L H) : CG P w0 N (.cond c x y) Q D L H := by
  intro a w hf hw
  exact wp_cond_split (hf.ev hc) (fun h => h1 h a w hf hw) (fun h => h2 h a w hf hw)
theorem CG.cond_t {c : Operand} {x y : Code} (hc : ev L c = some (.bool true)) (h1 : CG P w0 N x Q D L H) : CG P w0 N (.cond c x y) Q D L H := fun a w hf hw => wp_cond_true (hf.ev hc) (h1 a w hf hw)
theorem CG.cond_f {c : Operand} {x y : Code} (hc : ev L c = some (.bool false)) (h1 : CG P w0 N y Q D L H) : CG P w0 N (.cond c x y) Q D L H := fun a w hf hw => wp_cond_false (hf.ev hc) (h1 a w hf hw)
theorem CG.sub {c : Code} {L' : List (Nat × Value)} (hs : Sub L L') (k : CG P w0 N c Q D L' H) : CG P w0 N c Q D L H := fun a w hf hw => k a w (hf.sub hs.get) hw
theorem CG.takes {c : Code} {hl F : List HP} (ht : Takes H hl F) (k : CG P w0 N c Q D L (hl ++ F)) : CG P w0 N c Q D L H := fun a w hf hw => k a w hf (hw.takes ht)
theorem EN.sub {e : Exit} {L' : List (Nat × Value)} (hs : Sub L L') (k : EN w0 N Q e D L' H) : EN w0 N Q e D L H := fun a w hf hw => k a w (hf.sub hs.get) hw

/-- a region in the order of its text -/
theorem CG.reg {id : Nat} {l : List Oper} (h : G ⟨P, false, fun _ => True, cls, l, Q, w0, N⟩ D l L H) : CG P w0 N (.region id l.toArray false) Q D L H := fun a w hf hw => wp_region_lit (h a w hf hw)
/-- a region that draws its order; qs: slots of quiet conversions and loads -/
theorem CG.regT {id : Nat} {l : List Oper} (qs : List Nat) (hm : P.follows .mixedOrders = true) (hB : lexT (clsQ qs) .any l = true) (h : G ⟨P, true, fun _ => True, clsQ qs, l, Q, w0, N⟩ D l L H) : CG P w0 N (.region id l.toArray true) Q D L H := by
  intro a w hf hw
  exact wp_region_T (C := fun _ => True) (cl := clsQ qs) hm hB trivial (h a _ hf (hw.heapEq rfl rfl rfl rfl) trivial)
/-- the same, with a class of worlds in which loads are quiet -/
theorem CG.regC {id : Nat} {l : List Oper} (qs : List Nat) (C : World → Prop) (hm : P.follows .mixedOrders = true) (hB : lexT (clsQ qs) .any l = true) (hC : ∀ w, WS w0 H w → C w) (h : G ⟨P, true, C, clsQ qs, l, Q, w0, N⟩ D l L H) : CG P w0 N (.region id l.toArray true) Q D L H := by
  intro a w hf hw
  have hw' : WS w0 H { w with drawn := w.drawn + 1 } := hw.heapEq rfl rfl rfl rfl
  exact wp_region_T (C := C) (cl := clsQ qs) hm hB (hC _ hw') (h a _ hf hw' (hC _ hw'))

theorem CG.regZ {id : Nat} {l : List Oper} (qs : List Nat) (C : World → Prop) (hm : P.follows .mixedOrders = true) (hB : lexT (clsZ qs) .any l = true) (hC : ∀ w, WS w0 H w → C w) (h : G ⟨P, true, C, clsZ qs, l, Q, w0, N⟩ D l L H) : CG P w0 N (.region id l.toArray true) Q D L H := by
  intro a w hf hw
  have hw' : WS w0 H { w with drawn := w.drawn + 1 } := hw.heapEq rfl rfl rfl rfl
  exact wp_region_T (C := C) (cl := clsZ qs) hm hB (hC _ hw') (h a _ hf hw' (hC _ hw'))
/-- a cell that a class of worlds knows -/
def CellIs (b off : Nat) (v : Value) (w : World) : Prop := w.cell? ⟨b, off, none⟩ = some v
theorem CellIs.of {b off U : Nat} {cs : List Value} {v : Value} {w : World} (hw : WS w0 H w) (hm : Mem (cel b U cs) H) (hv : nth cs off = some v) : CellIs b off v w := cell_cel hw hm hv
theorem G.loadC {E : Env} {o : Oper} {rest : List Oper} {d : Nat} {x : Operand} {T b off : Nat} {v : Value} (hd : o.dst = some d) (hn : Nat.blt d E.N = true) (hg : gd E.ol L o = some true) (hdr : E.dr = true) (hc : okc E o .q = true)
    (ho : o.op = .load T x) (hx : ev L x = some (.pointer (some ⟨b, off, none⟩))) (hT : aggB E.P T = some false) (hC : ∀ w, E.C w → CellIs b off v w) (k : G E D rest ((d, v) :: L) H) : G E D (o :: rest) L H := by
  refine G.qC hd hn hg hdr hc (fun D a w hf hw => ?_) k
  have := hC w hw
  unfold CellIs at this
  unfold execOp; rw [ho]
  simp [hf.ev hx, Instr.loadAt, Instr.sureAddr, loadVar, run_isAgg hT, this]

theorem G.nil {dr : Bool} {C : World → Prop} {cl : Oper → Cls} {ol : List Oper} (h : EN w0 N Q .normal D L H) : G ⟨P, dr, C, cl, ol, Q, w0, N⟩ D [] L H := by
  intro a w hf hw
  have := h a w hf hw
  cases dr <;> simp only
  · exact this
  · intro _; exact this
theorem EN.then {y : Code} {Q' : Exit → Act → World → Prop} (h : CG P w0 N y Q D L H) : EN w0 N (Exit.then (y.wp P Q) Q') .normal D L H := h
theorem EN.then_exit {K : Act → World → Prop} {i : Nat} (h : EN w0 N Q (.exit i) D L H) : EN w0 N (Exit.then K Q) (.exit i) D L H := h
theorem EN.then_ret {K : Act → World → Prop} (h : EN w0 N Q .ret D L H) : EN w0 N (Exit.then K Q) .ret D L H := h
theorem EN.then_goto {K : Act → World → Prop} {i : Nat} (h : EN w0 N Q (.goto i) D L H) : EN w0 N (Exit.then K Q) (.goto i) D L H := h
theorem EN.then_panic {K : Act → World → Prop} {c : List PanicEntry} (h : EN w0 N Q (.panic c) D L H) : EN w0 N (Exit.then K Q) (.panic c) D L H := h
theorem EN.in_normal {i : Nat} (h : EN w0 N Q .normal D L H) : EN w0 N (Exit.inBlock i Q) .normal D L H := h
theorem EN.in_ret {i : Nat} (h : EN w0 N Q .ret D L H) : EN w0 N (Exit.inBlock i Q) .ret D L H := h
theorem EN.in_goto {i j : Nat} (h : EN w0 N Q (.goto j) D L H) : EN w0 N (Exit.inBlock i Q) (.goto j) D L H := h
theorem EN.in_panic {i : Nat} {c : List PanicEntry} (h : EN w0 N Q (.panic c) D L H) : EN w0 N (Exit.inBlock i Q) (.panic c) D L H := h
theorem EN.in_here {i : Nat} (h : EN w0 N Q .normal D L H) : EN w0 N (Exit.inBlock i Q) (.exit i) D L H := fun a w hf hw => by
  have := h a w hf hw; simp only [Exit.inBlock]; exact this
theorem EN.in_exit {i j : Nat} (hij : Nat.beq j i = false) (h : EN w0 N Q (.exit j) D L H) : EN w0 N (Exit.inBlock i Q) (.exit j) D L H := fun a w hf hw => by
  have := h a w hf hw
  have hne : j ≠ i := fun e => by subst e; rw [Nat.beq_refl] at hij; cases hij
  simp only [Exit.inBlock, if_neg hne]; exact this

/-- A loop: I n: the states at whose head n rounds at most are still to come. -/
theorem CG.loop {c : Code} (I : Nat → List (Nat × Value) → List HP → Prop) (n0 : Nat) (h0 : ∃ L' H', I n0 L' H' ∧ (∀ a w, Fr N D L a → WS w0 H w → Fr N D L' a ∧ WS w0 H' w))
    (round : ∀ n L H, I n L H → CG P w0 N c (Exit.then (fun a w => ∃ n' L' H', n' < n ∧ I n' L' H' ∧ Fr N D L' a ∧ WS w0 H' w) Q) D L H) : CG P w0 N (.loop c) Q D L H := by
  intro a w hf hw
  obtain ⟨L', H', hI, hs⟩ := h0
  obtain ⟨hf', hw'⟩ := hs a w hf hw
  refine wp_loop_ghost (fun n a w => ∃ L H, I n L H ∧ Fr N D L a ∧ WS w0 H w) n0 ⟨L', H', hI, hf', hw'⟩ ?_
  rintro n a w ⟨L, H, hI, hf, hw⟩
  refine wp_mono (round n L H hI a w hf hw) ?_
  intro e a' w' hq
  cases e with
  | normal => obtain ⟨n', L', H', hlt, hI', hf', hw'⟩ := hq; exact ⟨n', hlt, L', H', hI', hf', hw'⟩
  | _ => exact hq
/-- a round's end -/
theorem EN.round {I : Nat → List (Nat × Value) → List HP → Prop} {n : Nat} (n' : Nat) {L' : List (Nat × Value)} {H' : List HP} (hlt : n' < n) (hI : I n' L' H') (hs : Sub L L') {hl R F : List HP} (hH : H' = hl ++ F) (ht : Takes H hl R) (hsu : Suf R F) :
    EN w0 N (Exit.then (fun a w => ∃ n' L' H', n' < n ∧ I n' L' H' ∧ Fr N D L' a ∧ WS w0 H' w) Q) .normal D L H :=
  fun a w hf hw => ⟨n', L', H', hlt, hI, hf.sub hs.get, by rw [hH]; exact hw.sel ht hsu⟩
theorem CG.loopI {c : Code} (I : Nat → List (Nat × Value) → List HP → Prop) (n0 : Nat) {L' : List (Nat × Value)} {H' : List HP} (hI : I n0 L' H') (hs : Sub L L') {hl R F : List HP} (hH : H' = hl ++ F) (ht : Takes H hl R) (hsu : Suf R F)
    (round : ∀ n L H, I n L H → CG P w0 N c (Exit.then (fun a w => ∃ n' L' H', n' < n ∧ I n' L' H' ∧ Fr N D L' a ∧ WS w0 H' w) Q) D L H) : CG P w0 N (.loop c) Q D L H :=
  CG.loop I n0 ⟨L', H', hI, fun a w hf hw => ⟨hf.sub hs.get, by rw [hH]; exact hw.sel ht hsu⟩⟩ round

theorem G.split {E : Env} {l : List Oper} {t : Nat} {p : Prop} [Decidable p] (ht : get? L t = some (.bool (decide p))) (h1 : p → G E D l ((t, .bool true) :: L) H) (h2 : ¬ p → G E D l ((t, .bool false) :: L) H) : G E D l L H := by
  intro a w hf hw
  have key : ∀ b, decide p = b → Fr E.N D ((t, .bool b) :: L) a := by
    rintro b hb
    refine hf.sub fun u v hv => ?_
    simp only [get?] at hv
    cases hx : Nat.beq t u
    · rw [hx] at hv; exact hv
    · rw [hx] at hv
      have := Nat.eq_of_beq_eq_true hx
      subst this
      simp only [cond_true, Option.some.injEq] at hv
      rw [ht, hb, hv]
  by_cases h : p
  · exact h1 h a w (key true (decide_eq_true h)) hw
  · exact h2 h a w (key false (decide_eq_false h)) hw

/-- ways meet again -/
theorem CG.cut {x y : Code} (I : List (Nat × Value) → List HP → Prop) (h1 : CG P w0 N x (Exit.then (fun a w => ∃ L' H', I L' H' ∧ Fr N D L' a ∧ WS w0 H' w) Q) D L H) (h2 : ∀ L H, I L H → CG P w0 N y Q D L H) : CG P w0 N (.seq x y) Q D L H := by
  intro a w hf hw
  refine wp_seq (wp_mono (h1 a w hf hw) ?_)
  intro e a' w' hq
  cases e with
  | normal => obtain ⟨L', H', hI, hf', hw'⟩ := hq; exact h2 L' H' hI a' w' hf' hw'
  | _ => exact hq
theorem EN.cut {I : List (Nat × Value) → List HP → Prop} {L' : List (Nat × Value)} {H' : List HP} (hI : I L' H') (hs : Sub L L') {hl R F : List HP} (hH : H' = hl ++ F) (ht : Takes H hl R) (hsu : Suf R F) :
    EN w0 N (Exit.then (fun a w => ∃ L' H', I L' H' ∧ Fr N D L' a ∧ WS w0 H' w) Q) .normal D L H :=
  fun a w hf hw => ⟨L', H', hI, hf.sub hs.get, by rw [hH]; exact hw.sel ht hsu⟩

/-- A contract: what memory it asks, what endings and memory it leaves, beside any other memory. -/
def Spec (P : Program) (f : FuncId) (args : Array Value) (pre : List HP) (post : Ending → List HP → Prop) : Prop :=
  ∀ (F : List HP) (w0 w : World), WS w0 (pre ++ F) w → Calls P f args w fun e w' => ∃ hl, post e hl ∧ WS w0 (hl ++ F) w'

/-- a contract for a function that returns -/
def Ret (post : Value → List HP → Prop) : Ending → List HP → Prop := fun e hl => match e with | .returned v => post v hl | _ => False

def evs (L : List (Nat × Value)) : List Operand → Option (List Value)
  | [] => some []
  | x :: xs => match ev L x, evs L xs with | some v, some vs => some (v :: vs) | _, _ => none
theorem evs_eval {a : Act} (hf : Fr N D L a) : ∀ {xs : List Operand} {vs : List Value}, evs L xs = some vs → xs.map a.eval = vs
  | [], vs, h => by simp only [evs, Option.some.injEq] at h; subst h; rfl
  | x :: xs, vs, h => by
    simp only [evs] at h
    cases hx : ev L x with
    | none => rw [hx] at h; cases h
    | some v =>
      cases hxs : evs L xs with
      | none => rw [hx, hxs] at h; cases h
      | some ws =>
        rw [hx, hxs] at h
        simp only [Option.some.injEq] at h
        subst h
        simp [hf.ev hx, evs_eval hf hxs]

/-- a function with a body, by its number -/
def bodied (P : Program) (f : FuncId) : Bool := match P.funcs[f]? with
  | some fn => !(fn.name == "runtime.NumGoroutine") && fn.body.isSome
  | none => false
theorem run_callFunc {f : FuncId} (h : bodied P f = true) (args : Array Value) (w : World) : (callFunc f args).run P w = .ok (.enter f args) w := by
  unfold bodied at h
  cases hf : P.funcs[f]? with
  | none => rw [hf] at h; cases h
  | some fn =>
    rw [hf] at h
    simp only [Bool.and_eq_true, Bool.not_eq_true'] at h
    have hb : fn.body.isNone = false := by cases hb : fn.body <;> simp [hb] at h ⊢
    unfold callFunc
    simp only [Sem.run_bind, run_program, Result.andThen_ok, hf, h.1, hb, Bool.false_eq_true, if_false]
    rfl

theorem e_call {o : Oper} {f : FuncId} {xs : List Operand} {ts : Array TypeId} {vs : List Value} {pre F : List HP} {post : Value → List HP → Prop}
    (ho : o.op = .call { callee := .value (.func f), args := xs.toArray, argTypes := ts }) (hx : evs L xs = some vs) (hb : bodied P f = true) (hH : H = pre ++ F)
    (hs : Spec P f vs.toArray pre (Ret post)) : EOp P L H o (fun v H' => ∃ hl, post v hl ∧ H' = hl ++ F) := by
  intro N D a w w0 K Q hf hw hk
  subst hH
  have hrun : (execOp a.eval o).run P w = .ok (.enter f vs.toArray) w := by
    unfold execOp; rw [ho]
    have hm : xs.toArray.map a.eval = vs.toArray := by simp [evs_eval hf hx]
    simp only [resolve, Sem.run_bind, hm]
    simp [Deferred.ofValue, Act.eval, invoke, run_callFunc hb]
  unfold Oper.wp
  rw [hrun]
  simp only [Oper.upon]
  refine (hs F w0 w hw).mono ?_
  rintro e w' ⟨hl, hp, hw'⟩
  cases e with
  | returned v => exact hk v _ w' ⟨hl, hp, rfl⟩ hw'
  | panicked c => exact hp.elim
  | outgrown => exact hp.elim

/-- a call in a region, its result kept -/
theorem G.call {E : Env} {o : Oper} {rest : List Oper} {d : Nat} {f : FuncId} {xs : List Operand} {ts : Array TypeId} {vs : List Value} {pre F : List HP} {post : Value → List HP → Prop}
    (ho : o.op = .call { callee := .value (.func f), args := xs.toArray, argTypes := ts }) (hx : evs L xs = some vs) (hs : Spec E.P f vs.toArray pre (Ret post)) (hb : bodied E.P f = true) 
    (hd : o.dst = some d) (hdn : Nat.blt d E.N = true) (hg : gd E.ol L o = some true) (hc : okc E o .e = true) (ht : Takes H pre F)
    (hC : E.dr = true → ∀ v hl w', post v hl → WS E.w0 (hl ++ F) w' → E.C w')
    (k : ∀ v hl, post v hl → G E D rest ((d, v) :: L) (hl ++ F)) : G E D (o :: rest) L H := by
  refine G.takes ht ?_
  refine G.e hd hdn hg hc (e_call ho hx hb rfl hs) ?_ ?_
  · rintro hdr v H' w' ⟨hl, hp, rfl⟩ hw'; exact hC hdr v hl w' hp hw'
  · rintro v H' ⟨hl, hp, rfl⟩; exact k v hl hp

/- a function's end -/
/-- what a function's contract asks of its end -/
def Fin (P : Program) (w0 : World) (fn : Func) (F : List HP) (post : Ending → List HP → Prop) : Exit → Act → World → Prop := bodyPost P fn fun e w' => ∃ hl, post e hl ∧ WS w0 (hl ++ F) w'

def resL (L : List (Nat × Value)) : List ResultVar → Option (List Value)
  | [] => some []
  | .tmp t :: rs => match get? L t, resL L rs with | some v, some vs => some (v :: vs) | _, _ => none
  | .cell .. :: _ => none

theorem fin_ret1 {fn : Func} {F : List HP} {post : Ending → List HP → Prop} {t : Tmp} {v : Value} {hl R : List HP} (hr : fn.results = #[.tmp t]) (hv : get? L t = some v) (ht : Takes H hl R) (hsu : Suf R F) (hp : post (.returned v) hl) (e : Exit) (he : e = .ret ∨ e = .normal) : EN w0 N (Fin P w0 fn F post) e [] L H := by
  intro a w hf hw
  have hw' : WS w0 (hl ++ F) w := hw.sel ht hsu
  rcases he with rfl | rfl
  all_goals exact ⟨hf.defs, v, by rw [results_tmp hr, hf.val t v hv], hl, hp, hw'⟩
theorem fin_ret2 {fn : Func} {F : List HP} {post : Ending → List HP → Prop} {t u : Tmp} {v x : Value} {hl R : List HP} (hr : fn.results = #[.tmp t, .tmp u]) (hv : get? L t = some v) (hx : get? L u = some x) (ht : Takes H hl R) (hsu : Suf R F) (hp : post (.returned (.tuple #[v, x])) hl) (e : Exit) (he : e = .ret ∨ e = .normal) : EN w0 N (Fin P w0 fn F post) e [] L H := by
  intro a w hf hw
  have hw' : WS w0 (hl ++ F) w := hw.sel ht hsu
  rcases he with rfl | rfl
  all_goals exact ⟨hf.defs, _, by rw [results_tmp2 hr, hf.val t v hv, hf.val u x hx], hl, hp, hw'⟩
theorem fin_ret3 {fn : Func} {F : List HP} {post : Ending → List HP → Prop} {t u s : Tmp} {v x y : Value} {hl R : List HP} (hr : fn.results = #[.tmp t, .tmp u, .tmp s]) (hv : get? L t = some v) (hx : get? L u = some x) (hy : get? L s = some y) (ht : Takes H hl R) (hsu : Suf R F) (hp : post (.returned (.tuple #[v, x, y])) hl) (e : Exit) (he : e = .ret ∨ e = .normal) : EN w0 N (Fin P w0 fn F post) e [] L H := by
  intro a w hf hw
  have hw' : WS w0 (hl ++ F) w := hw.sel ht hsu
  have hrun : (results fn a.tmps).run P w = .ok (.tuple #[v, x, y]) w := by
    have h1 := hf.val t v hv
    have h2 := hf.val u x hx
    have h3 := hf.val s y hy
    rw [Array.getD_eq_getD_getElem?] at h1 h2 h3
    simp [results, hr, h1, h2, h3]
  rcases he with rfl | rfl
  all_goals exact ⟨hf.defs, _, hrun, hl, hp, hw'⟩
theorem fin_ret0 {fn : Func} {F : List HP} {post : Ending → List HP → Prop} {hl R : List HP} (hr : fn.results = #[]) (ht : Takes H hl R) (hsu : Suf R F) (hp : post (.returned (.tuple #[])) hl) (e : Exit) (he : e = .ret ∨ e = .normal) : EN w0 N (Fin P w0 fn F post) e [] L H := by
  intro a w hf hw
  have hw' : WS w0 (hl ++ F) w := hw.sel ht hsu
  rcases he with rfl | rfl
  all_goals exact ⟨hf.defs, _, results_none hr _ _ _, hl, hp, hw'⟩

/-- the arguments in their slots -/
def argL : Nat → List Value → List (Nat × Value)
  | _, [] => []
  | n, v :: vs => (n, v) :: argL (n + 1) vs
theorem argL_get : ∀ (vs : List Value) (n t : Nat) (v : Value), get? (argL n vs) t = some v → ∃ j, t = n + j ∧ vs[j]? = some v
  | [], n, t, v, h => by simp [argL, get?] at h
  | x :: vs, n, t, v, h => by
    simp only [argL, get?] at h
    cases hb : Nat.beq n t
    · rw [hb] at h
      obtain ⟨j, hj, hv⟩ := argL_get vs (n + 1) t v h
      exact ⟨j + 1, by omega, by simpa using hv⟩
    · rw [hb] at h
      have := Nat.eq_of_beq_eq_true hb
      simp only [cond_true, Option.some.injEq] at h
      exact ⟨0, by omega, by simp [h]⟩

theorem Spec.enter {f : FuncId} {fn : Func} {c : Code} {vs : List Value} {pre : List HP} {post : Ending → List HP → Prop} (hf : P.funcs[f]? = some fn) (hb : fn.body = some c) (hN : fn.ntmps = N) (hle : Nat.ble vs.length N = true)
    (h : ∀ (F : List HP) (w0 : World), CG P w0 N c (Fin P w0 fn F post) [] (argL 0 vs) (pre ++ F)) : Spec P f vs.toArray pre post := by
  intro F w0 w hw
  refine calls_of_wp hf hb ?_
  refine h F w0 _ w ⟨?_, rfl, ?_⟩ hw
  · have := Nat.le_of_ble_eq_true hle
    simp [hN]; omega
  · intro t v hv
    obtain ⟨j, rfl, hj⟩ := argL_get vs 0 t v hv
    have hlt := (List.getElem?_eq_some_iff.1 hj).1
    rw [Array.getD_eq_getD_getElem?]
    simp [Array.getElem?_append, hlt]
    exact (List.getElem?_eq_some_iff.1 hj).2

end
/- searches, written short -/
theorem tK {H hl F : List HP} (h : Takes H hl F := by repeat (first | exact Takes.nil | apply Takes.cons | exact Take.here | apply Take.there)) : Takes H hl F := h
theorem tK1 {H F : List HP} {p : HP} (h : Take H p F := by repeat (first | exact Take.here | apply Take.there)) : Take H p F := h
theorem mB {H : List HP} {p : HP} (h : Mem p H := by repeat (first | exact Mem.here | apply Mem.there)) : Mem p H := h
theorem sF {A B : List HP} (h : Suf A B := by repeat (first | exact Suf.refl | apply Suf.skip)) : Suf A B := h
theorem sB {L L' : List (Nat × Value)} (h : Sub L L' := by repeat (first | exact Sub.nil | refine Sub.cons rfl ?_)) : Sub L L' := h
theorem sA {l l' : List Value} {n : Nat} {v : Value} (h : SetAt l n v l' := by repeat (first | exact SetAt.zero | apply SetAt.succ)) : SetAt l n v l' := h
theorem oM {p : Prop} (h : p := by omega) : p := h
theorem sC (t : Nat) {L r : List (Nat × Value)} {v : Value} (h : Sub L r) (hx : get? L t = some v := by exact rfl) : Sub L ((t, v) :: r) := .cons hx h
section
variable {E : Env} {D : List Deferred} {o : Oper} {rest : List Oper} {L : List (Nat × Value)} {H : List HP} {x : Operand} {v : Value} {d : Nat}
theorem G.mv (k : G E D rest ((d, v) :: L) H) (ho : o.op = .move x := by exact rfl) (hx : ev L x = some v := by exact rfl) (hd : o.dst = some d := by exact rfl) (hn : Nat.blt d E.N = true := by exact rfl) (hg : gd E.ol L o = some true := by exact rfl) (hc : okc E o .q = true := by exact rfl) : G E D (o :: rest) L H := .q hd hn hg hc (q_move ho hx) k
theorem G.as (k : G E D rest ((d, v) :: L) H) (ho : o.op = .assign x := by exact rfl) (hx : ev L x = some v := by exact rfl) (hd : o.dst = some d := by exact rfl) (hn : Nat.blt d E.N = true := by exact rfl) (hg : gd E.ol L o = some true := by exact rfl) (hc : okc E o .q = true := by exact rfl) : G E D (o :: rest) L H := .q hd hn hg hc (q_assign ho hx) k
theorem G.np {p : Addr} (k : G E D rest ((d, .pointer (some p)) :: L) H) (ho : o.op = .nilCheck x := by exact rfl) (hx : ev L x = some (.pointer (some p)) := by exact rfl) (hd : o.dst = some d := by exact rfl) (hn : Nat.blt d E.N = true := by exact rfl) (hg : gd E.ol L o = some true := by exact rfl) (hc : okc E o .q = true := by exact rfl) : G E D (o :: rest) L H := .q hd hn hg hc (q_nil_p ho hx) k
theorem G.ld {T U b off : Nat} {cs : List Value} (hT : aggB E.P T = some false) (k : G E D rest ((d, v) :: L) H) (ho : o.op = .load T x := by exact rfl) (hx : ev L x = some (.pointer (some ⟨b, off, none⟩)) := by exact rfl) (hd : o.dst = some d := by exact rfl) (hn : Nat.blt d E.N = true := by exact rfl) (hg : gd E.ol L o = some true := by exact rfl) (hc : okc E o .r = true := by exact rfl)
    (hm : Mem (cel b U cs) H := by repeat (first | exact Mem.here | apply Mem.there)) (hv : nth cs off = some v := by exact rfl) : G E D (o :: rest) L H := .r hd hn hg hc (r_load ho hx hT hm hv) k
end
section
variable {P : Program} {w0 : World} {N : Nat} {Q : Exit → Act → World → Prop} {D : List Deferred} {L : List (Nat × Value)} {H : List HP}
theorem EN.ts {x y : Code} {Q' : Exit → Act → World → Prop} (h : CG P w0 N x (Exit.then (y.wp P Q) Q) D L H) : EN w0 N (Exit.then ((Code.seq x y).wp P Q) Q') .normal D L H := EN.then (CG.seq h)
theorem CG.sr {id : Nat} {l : List Oper} {y : Code} (h : G ⟨P, false, fun _ => True, cls, l, Exit.then (y.wp P Q) Q, w0, N⟩ D l L H) : CG P w0 N (.seq (.region id l.toArray false) y) Q D L H := CG.seq (CG.reg h)
theorem EN.tsr {id : Nat} {l : List Oper} {y : Code} {Q' : Exit → Act → World → Prop} (h : G ⟨P, false, fun _ => True, cls, l, Exit.then (y.wp P Q) Q, w0, N⟩ D l L H) : EN w0 N (Exit.then ((Code.seq (.region id l.toArray false) y).wp P Q) Q') .normal D L H := EN.then (CG.sr h)
theorem EN.tr {id : Nat} {l : List Oper} {Q' : Exit → Act → World → Prop} (h : G ⟨P, false, fun _ => True, cls, l, Q, w0, N⟩ D l L H) : EN w0 N (Exit.then ((Code.region id l.toArray false).wp P Q) Q') .normal D L H := EN.then (CG.reg h)
end
theorem G.st0 {P : Program} {dr : Bool} {cl : Oper → Cls} {ol : List Oper} {Q : Exit → Act → World → Prop} {w0 : World} {N : Nat} {D : List Deferred} {o : Oper} {rest : List Oper} {L : List (Nat × Value)} {H H' : List HP} {x y : Operand} {v : Value} {T U b off : Nat} {cs cs' : List Value}
    (hT : sizeB P T = some 1) (k : G ⟨P, dr, fun _ => True, cl, ol, Q, w0, N⟩ D rest L H') (ho : o.op = .store T x y := by exact rfl) (hx : ev L x = some (.pointer (some ⟨b, off, none⟩)) := by exact rfl) (hy : ev L y = some v := by exact rfl) (hd : o.dst = none := by exact rfl) (hg : gd ol L o = some true := by exact rfl)
    (hc : okc ⟨P, dr, fun _ => True, cl, ol, Q, w0, N⟩ o .e = true := by exact rfl) (hv : v.oneCell' = true := by exact rfl) (hr : Rep H (cel b U cs) (cel b U cs') H' := by repeat (first | exact Rep.here | apply Rep.there)) (hs : SetAt cs off v cs' := by repeat (first | exact SetAt.zero | apply SetAt.succ)) :
    G ⟨P, dr, fun _ => True, cl, ol, Q, w0, N⟩ D (o :: rest) L H :=
  .e0 (E := ⟨P, dr, fun _ => True, cl, ol, Q, w0, N⟩) hd hg hc (e_store ho hx hy hT hv hs hr) (fun _ _ _ _ _ _ => trivial) (fun _ _ h => by obtain ⟨_, rfl⟩ := h; exact k)
end Go.Eng
/-
  Numbers of the machine's kinds as natural numbers: the operations on bits. Speaks of no program.
-/
set_option linter.unusedVariables false
set_option linter.unusedSimpArgs false
namespace Go.Eng

theorem wrapu_nat {k : IntKind} {b : Nat} (hs : k.signed = false) (hb : k.bits = b) {a : Nat} (h : a < 2 ^ b) : k.wrap (a : Int) = a := by
  refine wrapu_in hs hb ⟨by omega, ?_⟩
  have : ((a : Nat) : Int) < ((2 ^ b : Nat) : Int) := by exact_mod_cast h
  simpa using this
theorem wrapu_nat_mod {k : IntKind} {b : Nat} (hs : k.signed = false) (hb : k.bits = b) (a : Nat) : k.wrap (a : Int) = ((a % 2 ^ b : Nat) : Int) := by
  unfold IntKind.wrap; rw [hs, hb]; simp
theorem ofInt_nat (n a : Nat) : BitVec.ofInt n (a : Int) = BitVec.ofNat n a := by
  simp

section
variable {k : IntKind} {n : Nat} (hs : k.signed = false) (hn : k.bits = n)
include hs hn
theorem bits_or_nat {a b : Nat} (ha : a < 2 ^ n) (hb : b < 2 ^ n) : bits .or k a b = ((a ||| b : Nat) : Int) := by
  subst hn
  unfold bits
  simp only [ofInt_nat, BitVec.toNat_or, BitVec.toNat_ofNat, Nat.mod_eq_of_lt ha, Nat.mod_eq_of_lt hb]
  exact wrapu_nat hs rfl (Nat.or_lt_two_pow ha hb)
theorem bits_and_nat {a b : Nat} (ha : a < 2 ^ n) (hb : b < 2 ^ n) : bits .and k a b = ((a &&& b : Nat) : Int) := by
  subst hn
  unfold bits
  simp only [ofInt_nat, BitVec.toNat_and, BitVec.toNat_ofNat, Nat.mod_eq_of_lt ha, Nat.mod_eq_of_lt hb]
  exact wrapu_nat hs rfl (Nat.and_lt_two_pow _ hb)
/-- a shift to the left that loses nothing -/
theorem shl_nat {a c : Nat} (hc : c ≤ n) (h : a * 2 ^ c < 2 ^ n) : k.wrap ((a : Int) * 2 ^ min ((c : Int)).toNat k.bits) = ((a <<< c : Nat) : Int) := by
  subst hn
  rw [Int.toNat_natCast, Nat.min_eq_left hc, Nat.shiftLeft_eq]
  have e : ((a : Int) * 2 ^ c) = ((a * 2 ^ c : Nat) : Int) := by simp
  rw [e]
  exact wrapu_nat hs rfl h
end
theorem shr_nat {k : IntKind} {a c : Nat} (hc : c ≤ k.bits) : (a : Int) / 2 ^ min ((c : Int)).toNat k.bits = ((a >>> c : Nat) : Int) := by
  rw [Int.toNat_natCast, Nat.min_eq_left hc, Nat.shiftRight_eq_div_pow]
  simp
end Go.Eng
/-
  Operations that make memory: new variables, literals, append; whole structs; panics; contracts that may panic. Speaks of no program.
-/
set_option linter.unusedVariables false
set_option linter.unusedSimpArgs false
namespace Go.Eng

section
variable {P : Program} {L : List (Nat × Value)} {H : List HP} {o : Oper}

theorem e_box {x : Operand} {T : TypeId} {cs : List Value} (ho : o.op = .box T x) (hx : ev L x = some (.agg cs.toArray)) : EOp P L H o (fun u H' => ∃ b, u = .pointer (some ⟨b, 0, none⟩) ∧ H' = cel b T cs :: H) := by
  intro N D a w w0 K Q hf hw hk
  have hrun : (execOp a.eval o).run P w = .ok (.value (.pointer (some ⟨w.heap.size, 0, none⟩))) (w.alloc (.cells cs.toArray T)) := by
    unfold execOp; rw [ho]
    simp [hf.ev hx, Instr.box, newVar, newRow, Value.cells]
  unfold Oper.wp; rw [hrun]
  exact hk _ _ _ ⟨_, rfl, rfl⟩ (hw.alloc _)
/-- a type's zero value, as cells -/
def zeroL (P : Program) (T : TypeId) : Option (List Value) := ((P.info? T).bind (·.zero)).map (·.cells.toList)
theorem e_alloc {T : TypeId} {cs : List Value} (ho : o.op = .alloc T) (hz : zeroL P T = some cs) : EOp P L H o (fun u H' => ∃ b, u = .pointer (some ⟨b, 0, none⟩) ∧ H' = cel b T cs :: H) := by
  intro N D a w w0 K Q hf hw hk
  unfold zeroL at hz
  cases hi : P.info? T with
  | none => rw [hi] at hz; cases hz
  | some i =>
    rw [hi] at hz
    cases hzz : i.zero with
    | none => simp [hzz] at hz
    | some z =>
      simp only [Option.bind_some, hzz, Option.map_some, Option.some.injEq] at hz
      have hrun : (execOp a.eval o).run P w = .ok (.value (.pointer (some ⟨w.heap.size, 0, none⟩))) (w.alloc (.cells cs.toArray T)) := by
        unfold execOp; rw [ho]
        simp [Instr.alloc, zeroValue, typeInfo, hi, hzz, newVar, newRow, ← hz]
      unfold Oper.wp; rw [hrun]
      exact hk _ _ _ ⟨_, rfl, rfl⟩ (hw.alloc _)

def evp (L : List (Nat × Value)) : List (Nat × Operand) → Option (List (Nat × Value))
  | [] => some []
  | (i, x) :: xs => match ev L x, evp L xs with | some v, some vs => some ((i, v) :: vs) | _, _ => none
theorem evp_eval {N D} {a : Act} (hf : Fr N D L a) : ∀ {xs : List (Nat × Operand)} {vs : List (Nat × Value)}, evp L xs = some vs → xs.map (fun p => (p.1, a.eval p.2)) = vs
  | [], vs, h => by simp only [evp, Option.some.injEq] at h; subst h; rfl
  | (i, x) :: xs, vs, h => by
    simp only [evp] at h
    cases hx : ev L x with
    | none => rw [hx] at h; cases h
    | some v =>
      cases hxs : evp L xs with
      | none => rw [hx, hxs] at h; cases h
      | some ws =>
        rw [hx, hxs] at h
        simp only [Option.some.injEq] at h
        subst h
        simp [hf.ev hx, evp_eval hf hxs]
theorem q_build {T : TypeId} {xs : List (Nat × Operand)} {vs : List (Nat × Value)} {v : Value} (ho : o.op = .build T xs.toArray) (hx : evp L xs = some vs) (hr : ∀ w, (Instr.build T vs.toArray).run P w = .ok v w) : QOp P L o v := by
  intro N D a w hf
  unfold execOp; rw [ho]
  have hm : xs.toArray.map (fun p => (p.1, a.eval p.2)) = vs.toArray := by simp [evp_eval hf hx]
  have hm' : xs.toArray.map (fun (i, x) => (i, a.eval x)) = vs.toArray := hm
  simp only [Sem.run_bind]
  rw [hm', hr w]; rfl
theorem e_bslice {T e n : Nat} {xs : List (Nat × Operand)} {vs : List (Nat × Value)} {cs : List Value} (ho : o.op = .buildSlice T n xs.toArray) (hx : evp L xs = some vs)
    (hr : ∀ w : World, (Instr.buildSlice T n vs.toArray).run P w = .ok (.slice (some ⟨w.heap.size, 0, none⟩) n n) { w with heap := w.heap.push (.cells cs.toArray e) }) : EOp P L H o (fun u H' => ∃ b, u = .slice (some ⟨b, 0, none⟩) n n ∧ H' = cel b e cs :: H) := by
  intro N D a w w0 K Q hf hw hk
  have hm : xs.toArray.map (fun p => (p.1, a.eval p.2)) = vs.toArray := by simp [evp_eval hf hx]
  have hm' : xs.toArray.map (fun (i, x) => (i, a.eval x)) = vs.toArray := hm
  have hrun : (execOp a.eval o).run P w = .ok (.value (.slice (some ⟨w.heap.size, 0, none⟩) n n)) (w.alloc (.cells cs.toArray e)) := by
    unfold execOp; rw [ho]
    simp only [Sem.run_bind]
    rw [hm', hr w]; rfl
  unfold Oper.wp; rw [hrun]
  exact hk _ _ _ ⟨_, rfl, rfl⟩ (hw.alloc _)
theorem q_makeFunc {f : Fn} {xs ys : List Operand} {vs ws : List Value} (ho : o.op = .makeFunc f xs.toArray ys.toArray) (hx : evs L xs = some vs) (hy : evs L ys = some ws) : QOp P L o (.func f vs.toArray ws.toArray) := by
  intro N D a w hf
  unfold execOp; rw [ho]
  have h1 : xs.toArray.map a.eval = vs.toArray := by simp [evs_eval hf hx]
  have h2 : ys.toArray.map a.eval = ws.toArray := by simp [evs_eval hf hy]
  simp only [h1, h2]; rfl

/- whole variables of several cells -/
def sliceL (cs : List Value) (off n : Nat) : List Value := (cs.drop off).take n
theorem r_loadagg {x : Operand} {T U : TypeId} {b off n : Nat} {cs : List Value} (ho : o.op = .load T x) (hx : ev L x = some (.pointer (some ⟨b, off, none⟩))) (hT : aggB P T = some true) (hz : sizeB P T = some n) (hm : Mem (cel b U cs) H) (hl : off + n ≤ cs.length) : ROp P L H o (.agg (sliceL cs off n).toArray) := by
  intro N D a w w0 hf hw
  have hlen : (sliceL cs off n).length = n := by simp [sliceL]; omega
  have hrun : (loadCells ⟨b, off, none⟩ n).run P w = .ok (sliceL cs off n).toArray w := by
    have := run_loadCells_list (P := P) w ⟨b, off, none⟩ (sliceL cs off n) (fun j v hj => by
      rw [Addr.add_lit]
      refine cell_cel hw hm ?_
      rw [nth_eq]
      simp only [sliceL, List.getElem?_take, List.getElem?_drop] at hj
      split at hj
      · exact hj
      · cases hj)
    rw [hlen] at this
    exact this
  unfold execOp; rw [ho]
  simp [hf.ev hx, Instr.loadAt, Instr.sureAddr, loadVar, run_isAgg hT, run_sizeOf hz, hrun]
/-- a whole block -/
theorem r_loadall {x : Operand} {T U : TypeId} {b : Nat} {cs : List Value} (ho : o.op = .load T x) (hx : ev L x = some (.pointer (some ⟨b, 0, none⟩))) (hT : aggB P T = some true) (hm : Mem (cel b U cs) H) (hz : sizeB P T = some cs.length) : ROp P L H o (.agg cs.toArray) := by
  have := r_loadagg ho hx hT hz hm (by omega)
  have e : sliceL cs 0 cs.length = cs := by simp [sliceL]
  rw [e] at this; exact this
theorem setCells_cel {w : World} {b T off : Nat} {cs vs : List Value} (hb : w.heap[b]? = some (.cells cs.toArray T (0, 0))) (hl : off + vs.length ≤ cs.length) (h1 : ∀ v ∈ vs, v.oneCell' = true) :
    ∃ w', (storeCells ⟨b, off, none⟩ vs).run P w = .ok () w' ∧ w'.heap[b]? = some (.cells (cs.take off ++ vs ++ cs.drop (off + vs.length)).toArray T (0, 0)) ∧ (∀ k, k ≠ b → w'.heap[k]? = w.heap[k]?) ∧ w'.os = w.os ∧ w'.tape = w.tape ∧ w'.output = w.output := by
  have := run_storeCells_at P b off T vs 0 cs.toArray w hb (by simpa using hl) h1
  refine ⟨_, this, ?_, fun k hk => setRow_other w b k _ hk, rfl, rfl, rfl⟩
  rw [setRow_heap w b cs.toArray _ T (0, 0) hb]
  simp
theorem e_storeagg {x y : Operand} {T U : TypeId} {b off : Nat} {cs vs cs' : List Value} {H' : List HP} (ho : o.op = .store T x y) (hx : ev L x = some (.pointer (some ⟨b, off, none⟩))) (hy : ev L y = some (.agg vs.toArray))
    (hr : Rep H (cel b U cs) (cel b U cs') H') (hT : sizeB P T = some vs.length) (h1 : ∀ v ∈ vs, v.oneCell' = true) (hl : off + vs.length ≤ cs.length) (hc : cs' = cs.take off ++ vs ++ cs.drop (off + vs.length)) : EOp P L H o (fun u H2 => u = undef ∧ H2 = H') := by
  intro N D a w w0 K Q hf hw hk
  have hm : Mem (cel b U cs) H := by
    clear hk hw hc
    generalize hp : cel b U cs = p at hr
    generalize cel b U cs' = p' at hr
    clear hp
    induction hr with
    | here => exact .here
    | there _ ih => exact .there ih
  have hb := hw.pt hm
  obtain ⟨w', h2, h3, h4, h5, h6, h7⟩ := setCells_cel (P := P) hb hl h1
  have hrun : (execOp a.eval o).run P w = .ok .skip w' := by
    unfold execOp; rw [ho]
    simp [hf.ev hx, hf.ev hy, Instr.storeAt, Instr.sureAddr, storeVar, run_sizeOf hT, Value.cells, h2]
  unfold Oper.wp; rw [hrun]
  exact hk undef H' _ ⟨rfl, rfl⟩ (hw.put hr (by rw [hc]; exact h3) h4 h5 h6 h7)
/-- a whole block is replaced -/
theorem e_storeall {x y : Operand} {T U : TypeId} {b : Nat} {cs vs : List Value} {H' : List HP} (ho : o.op = .store T x y) (hx : ev L x = some (.pointer (some ⟨b, 0, none⟩))) (hy : ev L y = some (.agg vs.toArray))
    (hr : Rep H (cel b U cs) (cel b U vs) H') (hT : sizeB P T = some vs.length) (h1 : vs.all (·.oneCell') = true) (hl : Nat.beq vs.length cs.length = true) : EOp P L H o (fun u H2 => u = undef ∧ H2 = H') := by
  have hl' := Nat.eq_of_beq_eq_true hl
  exact e_storeagg ho hx hy hr hT (fun v hv => List.all_eq_true.1 h1 v hv) (by omega) (by simp [hl'])

/- append -/
def infoB (P : Program) (e : TypeId) : Option (Option (List Value) × Nat × Nat) := (P.info? e).map fun i => (i.zero.map (·.cells.toList), i.size, i.bytes)
theorem infoB_spec {e sz bytes : Nat} {z : List Value} (h : infoB P e = some (some z, sz, bytes)) : ∃ i zv, P.info? e = some i ∧ i.zero = some zv ∧ zv.cells = z.toArray ∧ i.size = sz ∧ i.bytes = bytes := by
  unfold infoB at h
  cases hi : P.info? e with
  | none => rw [hi] at h; cases h
  | some i =>
    rw [hi] at h
    simp only [Option.map_some, Option.some.injEq, Prod.mk.injEq] at h
    obtain ⟨h1, h2, h3⟩ := h
    cases hz : i.zero with
    | none => rw [hz] at h1; cases h1
    | some zv =>
      rw [hz] at h1
      simp only [Option.map_some, Option.some.injEq] at h1
      exact ⟨i, zv, rfl, hz, by rw [← h1], h2, h3⟩

theorem run_append2 {w : World} {t ty e : TypeId} {i : TypeInfo} {z : Value} {sz : Nat} (ht : P.underlying t = some (.slice e)) (hi : P.info? e = some i) (hz : i.zero = some z) (hsz : i.size = sz) (hzs : z.cells.size = sz)
    {v : Value} {n : Nat} {xs : List Value} (hown : w.ownsRow 0 e sz v n xs) {a : Addr} {m c : Nat} {news : List Value} (hl : news.length = m * sz) (hnews : ∀ j u, news[j]? = some u → w.cell? (a.add j) = some u) (h1 : ∀ u ∈ news, u.oneCell' = true)
    (hbytes : (n + m) * i.bytes ≤ 140737488355328) (h63 : n + m ≤ maxLen) :
    ∃ v' w', (Builtin.append_ #[t, t] ty #[v, .slice (some a) m c]).run P w = .ok v' w' ∧ Grows w w' e sz v v' (n + m) (xs ++ news) ∧ (v' = v → w' = w → m = 0 ∧ news = []) ∧ w'.os = w.os ∧ w'.tape = w.tape ∧ w'.output = w.output := by
  subst hsz
  have hsmall : n + m ≤ 9223372036854775807 := by simp only [maxLen] at h63; omega
  have hlen : (xs ++ news).length = (n + m) * i.size := by rw [List.length_append, hown.1, hl, Nat.add_mul]
  have grown : ∀ (old : Nat), old < n + m →
      Grows w (w.drew.alloc (.cells (xs.toArray ++ news.toArray ++ Builtin.zeroCells z.cells (grownCap w (n + m) old e - (n + m))) e)) e i.size v (.slice (some ⟨w.heap.size, 0, none⟩) (n + m) (grownCap w (n + m) old e)) (n + m) (xs ++ news) := by
    intro old ho
    have hge := grownCap_ge w (n + m) old e
    have hcm : grownCap w (n + m) old e ≤ maxLen := grownCap_le_maxLen w (n + m) old e h63
    refine .inl ⟨w.heap.size, _, _, rfl, hge, hcm, ?_, ?_, heap_alloc_new w.drew _, .inr ⟨rfl, fun k hk => RowKit.Below.heap_alloc w.drew _ k hk⟩⟩
    · simp only [Array.size_append, List.size_toArray, size_zeroCells, hzs, hown.1, hl, ← Nat.add_mul]
      congr 1
      omega
    · simp only [Array.toList_append, List.append_assoc]
      rw [← List.append_assoc, ← hlen]
      exact List.take_left
  have nosize : ∀ (x : Obj), w.drew.alloc x ≠ w := fun x e => by
    have := congrArg (fun w => w.heap.size) e
    simp at this
  rcases hown.2 with ⟨rfl, rfl⟩ | ⟨g, cap, cur, rfl, _, hg, hnc, hcm, hcs, htake⟩
  · have hx : xs = [] := List.eq_nil_of_length_eq_zero (by simpa using hown.1)
    subst hx
    by_cases hm : m = 0
    · subst hm
      have hn : news = [] := List.eq_nil_of_length_eq_zero (by simpa using hl)
      subst hn
      refine ⟨.slice none 0 0, w, ?_, .inr ⟨rfl, rfl⟩, fun _ _ => ⟨rfl, rfl⟩, rfl, rfl, rfl⟩
      simp [Builtin.append_, run_underlying ht, sizeOf, typeInfo, hi, Builtin.lenOf, Builtin.firstCells, loadCells, loadCellsFrom]
    · have hr := run_append_nil (P := P) w t ty e i z ht hi hz a m c news hl hnews (by omega) (by omega) (by have hb := hbytes; simp only [Nat.zero_add] at hb; omega)
      have hgr := grown 0 (by omega)
      simp only [Nat.zero_add, List.nil_append, Array.empty_append] at hgr ⊢
      exact ⟨_, _, hr, hgr, fun _ e => absurd e (nosize _), rfl, rfl, rfl⟩
  · by_cases hroom : n + m ≤ cap
    · have hfit : n * i.size + news.length ≤ cur.size := by rw [hl, hcs, ← Nat.add_mul]; exact Nat.mul_le_mul_right _ hroom
      have hr := run_append_room (P := P) w t ty e i ht hi g n cap cur hg a m c news hl hnews h1 hroom hfit
      refine ⟨_, _, hr, .inl ⟨g, cap, _, rfl, hroom, hcm, ?_, ?_, setRow_heap w g cur _ e _ hg, .inl ⟨rfl, fun k hk => setRow_other w g k _ hk⟩⟩, ?_, rfl, rfl, rfl⟩
      · simp only [List.size_toArray, List.length_append, List.length_take, List.length_drop, Array.length_toList]
        omega
      · rw [htake, ← hlen]
        exact List.take_left
      · intro he _
        simp only [Value.slice.injEq] at he
        have hm : m = 0 := by omega
        subst hm
        exact ⟨rfl, List.eq_nil_of_length_eq_zero (by simpa using hl)⟩
    · have holds : ∀ j u, xs[j]? = some u → w.cell? ((⟨g, 0, none⟩ : Addr).add j) = some u := hown.cells (g := g) rfl
      have hr := run_append_grow (P := P) w t ty e i z ht hi hz ⟨g, 0, none⟩ n cap xs hown.1 holds a m c news hl hnews (by omega) (by omega) (growslice_fits (by omega) hbytes)
      exact ⟨_, _, hr, grown cap (by omega), fun _ e => absurd e (nosize _), rfl, rfl, rfl⟩

theorem e_append {x y : Operand} {t e sz bytes : Nat} {z : List Value} {v : Value} {n m c b U : Nat} {xs news : List Value} {H1 : List HP} (ho : o.op = .call { callee := .builtin .append, args := #[x, y], argTypes := #[t, t] })
    (hx : ev L x = some v) (hy : ev L y = some (.slice (some ⟨b, 0, none⟩) m c)) (hs : sliceE P t = some e) (hi : infoB P e = some (some z, sz, bytes)) (hz : Nat.beq z.length sz = true)
    (ht : Take H (own e sz v n xs) H1) (hm : Mem (cel b U news) H1) (hl : news.length = m * sz) (h1 : ∀ u ∈ news, u.oneCell' = true) (hb : (n + m) * bytes ≤ 140737488355328 ∧ n + m ≤ 140737488355328) :
    EOp P L H o (fun u H' => H' = own e sz u (n + m) (xs ++ news) :: H1) := by
  intro N D a w w0 K Q hf hw hk
  obtain ⟨i, zv, hi1, hi2, hi3, hi4, hi5⟩ := infoB_spec hi
  have hw2 : WS w0 (own e sz v n xs :: H1) w := ⟨star_perm ht.perm hw.sat, hw.os, hw.tape, hw.output⟩
  have hown := hw2.own .here
  have hnews : ∀ j u, news[j]? = some u → w.cell? ((⟨b, 0, none⟩ : Addr).add j) = some u := fun j u hj => by
    rw [Addr.add_lit, Nat.zero_add]; exact cell_cel hw2 (.there hm) (by rw [nth_eq]; exact hj)
  have hz' := Nat.eq_of_beq_eq_true hz
  obtain ⟨v', w', hr, hg, hsame, h5, h6, h7⟩ := run_append2 (P := P) (t := t) (ty := o.type) (e := e) (c := c) (sliceE_spec hs) hi1 hi2 hi4 (by rw [hi3]; simpa using hz') hown hl hnews h1 (by rw [hi5]; exact hb.1) (by unfold maxLen; omega)
  have hrun : (execOp a.eval o).run P w = .ok (.value v') w' := by
    unfold execOp; rw [ho]
    simp [resolve, invoke, builtin, hf.ev hx, hf.ev hy, hr]
  unfold Oper.wp; rw [hrun]
  refine hk _ _ _ rfl (hw2.grows .here ?_ hg ?_ h5 h6 h7)
  · rw [List.length_append, hown.1, hl, Nat.add_mul]
  · intro e1 e2
    obtain ⟨h8, h9⟩ := hsame e1 e2
    subst h8; subst h9
    simp

/- a string made of bytes -/
def u8v (c : UInt8) : Value := .int .u8 c.toNat
theorem loadCells_own {w : World} {e sz n : Nat} {v : Value} {xs : List Value} (hown : w.ownsRow 0 e 1 v n xs) {g : Nat} (hg : v.ownBlock = some g) : (loadCells ⟨g, 0, none⟩ n).run P w = .ok xs.toArray w := by
  have := run_loadCells_list (P := P) w ⟨g, 0, none⟩ xs (hown.cells hg)
  rw [hown.1, Nat.mul_one] at this
  exact this
theorem foldl_push_bytes (l : List UInt8) : ∀ (r : ByteArray), (l.map (fun c : UInt8 => ((c.toNat : Nat) : Int))).foldl (fun r n => r.push (UInt8.ofNat n.toNat)) r = ⟨(r.data.toList ++ l).toArray⟩ := by
  induction l with
  | nil => intro r; cases r; simp
  | cons c l ih =>
    intro r
    simp only [List.map_cons, List.foldl_cons]
    rw [ih]
    simp [ByteArray.push]
def bytesT (P : Program) (S T : TypeId) : Option TypeId := match P.underlying S, P.underlying T with
  | some (.slice e), some .string => match P.underlying e with | some (.int .u8) => some e | _ => none
  | _, _ => none
theorem bytesT_spec {S T e : TypeId} (h : bytesT P S T = some e) : P.underlying S = some (.slice e) ∧ P.underlying T = some .string ∧ P.underlying e = some (.int .u8) := by
  unfold bytesT at h
  split at h
  · split at h
    · simp only [Option.some.injEq] at h; subst h; exact ⟨‹_›, ‹_›, ‹_›⟩
    · cases h
  · cases h
theorem r_b2s {x : Operand} {S T e n : Nat} {v : Value} {l : List UInt8} (ho : o.op = .convert S T x) (hx : ev L x = some v) (hT : bytesT P S T = some e) (hm : Mem (own e 1 v n (l.map u8v)) H) : ROp P L H o (str l) := by
  intro N D a w w0 hf hw
  obtain ⟨h1, h2, h3⟩ := bytesT_spec hT
  have hown := hw.own hm
  have hrun : (Conv.bytesToString v).run P w = .ok (str l) w := by
    rcases hown.2 with ⟨rfl, rfl⟩ | ⟨g, cap, cur, rfl, r⟩
    · have : l = [] := by have := hown.1; simp at this; exact this
      subst this
      rfl
    · have hl := loadCells_own (P := P) (sz := 1) hown (g := g) rfl
      have := run_bytesToString (P := P) w ⟨g, 0, none⟩ n cap (l.map fun c => ((c.toNat : Nat) : Int)) (by rw [hl]; simp [u8v, Function.comp_def])
      rw [this, foldl_push_bytes]
      simp [str]
  unfold execOp; rw [ho]
  simp only [hf.ev hx, Sem.run_bind]
  have hc : (convert S T v).run P w = .ok (str l) w := by
    have hv : ∃ ad k c, v = .slice ad k c := by
      rcases hown.2 with ⟨rfl, _⟩ | ⟨g, cap, cur, rfl, r⟩ <;> exact ⟨_, _, _, rfl⟩
    obtain ⟨ad, k, c, rfl⟩ := hv
    cases ad <;> simp [convert, run_underlying h1, run_underlying h2, run_underlying h3, hrun]
  rw [hc]; rfl
end

section
variable {P : Program} {w0 : World} {N : Nat} {Q : Exit → Act → World → Prop} {D : List Deferred} {L : List (Nat × Value)} {H : List HP} {o : Oper} {rest : List Oper}
theorem WS.ownNil {w : World} (h : WS w0 H w) (T sz : Nat) : WS w0 (Eng.own T sz (.slice none 0 0) 0 [] :: H) w := by
  refine ⟨star_cons.2 ⟨fun _ => False, ?_, ?_⟩, h.os, h.tape, h.output⟩
  · exact ⟨by simp, .inl ⟨rfl, rfl⟩⟩
  · simpa using h.sat
theorem WS.openOwn {w : World} {T sz n : Nat} {v : Value} {xs : List Value} (h : WS w0 (Eng.own T sz v n xs :: H) w) (hn : 0 < n) :
    ∃ g cap cur, v = .slice (some ⟨g, 0, none⟩) n cap ∧ n ≤ cap ∧ cap ≤ maxLen ∧ cur.length = cap * sz ∧ cur.take (n * sz) = xs ∧ WS w0 (cel g T cur :: H) w := by
  obtain ⟨S, h1, h2⟩ := star_cons.1 h.sat
  obtain ⟨_, hx⟩ := h1
  rcases hx with ⟨_, h0⟩ | ⟨g, cap, cur, rfl, hg, hc1, hc2, hc3, hc4⟩
  · omega
  · refine ⟨g, cap, cur.toList, rfl, hc1, hc2, by simpa using hc3, hc4, star_cons.2 ⟨S, ?_, h2⟩, h.os, h.tape, h.output⟩
    simpa [cel, Eng.pt] using hg
theorem WS.closeOwn {w : World} {T sz n g cap : Nat} {cur xs : List Value} (h : WS w0 (cel g T cur :: H) w) (hn : n ≤ cap) (hm : cap ≤ maxLen) (hl : cur.length = cap * sz) (ht : cur.take (n * sz) = xs) :
    WS w0 (Eng.own T sz (.slice (some ⟨g, 0, none⟩) n cap) n xs :: H) w := by
  obtain ⟨S, h1, h2⟩ := star_cons.1 h.sat
  refine ⟨star_cons.2 ⟨S, ⟨?_, .inr ⟨g, cap, cur.toArray, rfl, h1, hn, hm, by simpa using hl, by simpa using ht⟩⟩, h2⟩, h.os, h.tape, h.output⟩
  rw [← ht, List.length_take, hl]
  exact Nat.min_eq_left (Nat.mul_le_mul_right _ hn)
theorem WS.ownLen {w : World} {T sz n : Nat} {v : Value} {xs : List Value} (h : WS w0 (Eng.own T sz v n xs :: H) w) : xs.length = n * sz ∧ n ≤ maxLen ∧ ∃ ad c, v = .slice ad n c := by
  obtain ⟨S, h1, h2⟩ := star_cons.1 h.sat
  obtain ⟨hl, hx⟩ := h1
  rcases hx with ⟨hv, h0⟩ | ⟨g, cap, cur, hv, hg, hc1, hc2, _⟩
  · subst h0; exact ⟨hl, Nat.zero_le _, none, 0, hv⟩
  · exact ⟨hl, Nat.le_trans hc1 hc2, _, _, hv⟩
theorem CG.ownNil {c : Code} (T sz : Nat) (k : CG P w0 N c Q D L (own T sz (.slice none 0 0) 0 [] :: H)) : CG P w0 N c Q D L H := fun a w hf hw => k a w hf (hw.ownNil T sz)
theorem G.ownNil {E : Env} (T sz : Nat) (k : G E D rest L (own T sz (.slice none 0 0) 0 [] :: H)) : G E D rest L H := fun a w hf hw => k a w hf (hw.ownNil T sz)
theorem EN.ownNil {e : Exit} (T sz : Nat) (k : EN w0 N Q e D L (own T sz (.slice none 0 0) 0 [] :: H)) : EN w0 N Q e D L H := fun a w hf hw => k a w hf (hw.ownNil T sz)
theorem WS.take1 {w : World} {p : HP} {H1 : List HP} (h : WS w0 H w) (ht : Take H p H1) : WS w0 (p :: H1) w := ⟨star_perm ht.perm h.sat, h.os, h.tape, h.output⟩
theorem CG.openOwn {c : Code} {T sz n : Nat} {v : Value} {xs : List Value} {H1 : List HP} (ht : Take H (own T sz v n xs) H1) (hn : 0 < n)
    (k : ∀ g cap cur, v = .slice (some ⟨g, 0, none⟩) n cap → n ≤ cap → cap ≤ maxLen → cur.length = cap * sz → cur.take (n * sz) = xs → CG P w0 N c Q D L (cel g T cur :: H1)) : CG P w0 N c Q D L H := by
  intro a w hf hw
  obtain ⟨g, cap, cur, h1, h2, h3, h4, h5, h6⟩ := (hw.take1 ht).openOwn hn
  exact k g cap cur h1 h2 h3 h4 h5 a w hf h6
theorem G.openOwn {E : Env} {T sz n : Nat} {v : Value} {xs : List Value} {H1 : List HP} (ht : Take H (own T sz v n xs) H1) (hn : 0 < n)
    (k : ∀ g cap cur, v = .slice (some ⟨g, 0, none⟩) n cap → n ≤ cap → cap ≤ maxLen → cur.length = cap * sz → cur.take (n * sz) = xs → G E D rest L (cel g T cur :: H1)) : G E D rest L H := by
  intro a w hf hw
  obtain ⟨g, cap, cur, h1, h2, h3, h4, h5, h6⟩ := (hw.take1 ht).openOwn hn
  exact k g cap cur h1 h2 h3 h4 h5 a w hf h6
theorem CG.closeOwn {c : Code} {T sz n g cap : Nat} {cur xs : List Value} {H1 : List HP} (ht : Take H (cel g T cur) H1) (hn : n ≤ cap) (hm : cap ≤ maxLen) (hl : cur.length = cap * sz) (hx : cur.take (n * sz) = xs)
    (k : CG P w0 N c Q D L (own T sz (.slice (some ⟨g, 0, none⟩) n cap) n xs :: H1)) : CG P w0 N c Q D L H := fun a w hf hw => k a w hf ((hw.take1 ht).closeOwn hn hm hl hx)
theorem EN.closeOwn {e : Exit} {T sz n g cap : Nat} {cur xs : List Value} {H1 : List HP} (ht : Take H (cel g T cur) H1) (hn : n ≤ cap) (hm : cap ≤ maxLen) (hl : cur.length = cap * sz) (hx : cur.take (n * sz) = xs)
    (k : EN w0 N Q e D L (own T sz (.slice (some ⟨g, 0, none⟩) n cap) n xs :: H1)) : EN w0 N Q e D L H := fun a w hf hw => k a w hf ((hw.take1 ht).closeOwn hn hm hl hx)
theorem G.ownShape {E : Env} {T sz n : Nat} {v : Value} {xs : List Value} {H1 : List HP} (ht : Take H (own T sz v n xs) H1) (k : ∀ ad c', v = .slice ad n c' → G E D rest L H) : G E D rest L H := by
  intro a w hf hw
  obtain ⟨h1, h2, ad, c', h3⟩ := (hw.take1 ht).ownLen
  exact k ad c' h3 a w hf hw
/-- the shape and length of an owned slice -/
theorem CG.ownLen {c : Code} {T sz n : Nat} {v : Value} {xs : List Value} {H1 : List HP} (ht : Take H (own T sz v n xs) H1) (k : ∀ ad c', v = .slice ad n c' → xs.length = n * sz → n ≤ maxLen → CG P w0 N c Q D L H) : CG P w0 N c Q D L H := by
  intro a w hf hw
  obtain ⟨h1, h2, ad, c', h3⟩ := (hw.take1 ht).ownLen
  exact k ad c' h3 h1 h2 a w hf hw

/-- a contract for a function that may panic -/
def RetP (p : Value → List HP → Prop) (q : List PanicEntry → List HP → Prop) : Ending → List HP → Prop
  | .returned v, hl => p v hl
  | .panicked c, hl => q c hl
  | .outgrown, _ => False

/-- a panic in a plain region -/
theorem G.panic {cl : Oper → Cls} {ol : List Oper} {x : Operand} {T : TypeId} {v : Value} (ho : o.op = .panic x) (hx : ev L x = some (.iface T v)) (hg : gd ol L o = some true)
    (k : EN w0 N Q (.panic [{ v := .iface T v, recovered := false }]) D L H) : G ⟨P, false, fun _ => True, cl, ol, Q, w0, N⟩ D (o :: rest) L H := by
  intro a w hf hw
  simp only
  unfold wpList
  rw [if_pos (gd_spec hf hg)]
  refine .inl ?_
  unfold Oper.wp
  have hrun : (execOp a.eval o).run P w = .halt (.panic (.iface T v)) w := by
    unfold execOp; rw [ho]; simp only [hf.ev hx, Sem.run_bind]; rfl
  rw [hrun]
  exact k a w hf hw
theorem fin_panic {fn : Func} {F : List HP} {post : Ending → List HP → Prop} {c : List PanicEntry} {hl R : List HP} (hp : post (.panicked c) hl) (ht : Takes H hl R) (hsu : Suf R F) : EN w0 N (Fin P w0 fn F post) (.panic c) [] L H :=
  fun a w hf hw => ⟨hf.defs, hl, hp, hw.sel ht hsu⟩

/-- a call that may panic, in a plain region -/
theorem G.callX {cl : Oper → Cls} {ol : List Oper} {d : Nat} {f : FuncId} {xs : List Operand} {ts : Array TypeId} {vs : List Value} {pre F : List HP} {post : Ending → List HP → Prop}
    (ho : o.op = .call { callee := .value (.func f), args := xs.toArray, argTypes := ts }) (hx : evs L xs = some vs) (hs : Spec P f vs.toArray pre post) (hb : bodied P f = true)
    (hd : o.dst = some d) (hdn : Nat.blt d N = true) (hg : gd ol L o = some true) (ht : Takes H pre F) (hno : ∀ hl, ¬ post .outgrown hl)
    (kp : ∀ c hl, post (.panicked c) hl → EN w0 N Q (.panic c) D L (hl ++ F))
    (k : ∀ v hl, post (.returned v) hl → G ⟨P, false, fun _ => True, cl, ol, Q, w0, N⟩ D rest ((d, v) :: L) (hl ++ F)) : G ⟨P, false, fun _ => True, cl, ol, Q, w0, N⟩ D (o :: rest) L H := by
  intro a w hf hw
  simp only
  have hw := hw.takes ht
  unfold wpList
  rw [if_pos (gd_spec hf hg)]
  refine .inl ?_
  have hrun : (execOp a.eval o).run P w = .ok (.enter f vs.toArray) w := by
    unfold execOp; rw [ho]
    have hm : xs.toArray.map a.eval = vs.toArray := by simp [evs_eval hf hx]
    simp only [resolve, Sem.run_bind, hm]
    simp [Deferred.ofValue, Act.eval, invoke, run_callFunc hb]
  unfold Oper.wp
  rw [hrun]
  simp only [Oper.upon]
  refine (hs F w0 w hw).mono ?_
  rintro e w' ⟨hl, hp, hw'⟩
  cases e with
  | returned v => exact k v hl hp _ w' (by rw [hd]; exact hf.put d (by simp [Nat.blt] at hdn; show d < N; omega) v) hw'
  | panicked c => exact kp c hl hp a w' hf hw'
  | outgrown => exact absurd hp (hno hl)
end
theorem G.sa0 {P : Program} {dr : Bool} {cl : Oper → Cls} {ol : List Oper} {Q : Exit → Act → World → Prop} {w0 : World} {N : Nat} {D : List Deferred} {o : Oper} {rest : List Oper} {L : List (Nat × Value)} {H H' : List HP} {x y : Operand} {T U b : Nat} {cs vs : List Value}
    (hT : sizeB P T = some vs.length) (k : G ⟨P, dr, fun _ => True, cl, ol, Q, w0, N⟩ D rest L H') (ho : o.op = .store T x y := by exact rfl) (hx : ev L x = some (.pointer (some ⟨b, 0, none⟩)) := by exact rfl) (hy : ev L y = some (.agg vs.toArray) := by exact rfl) (hd : o.dst = none := by exact rfl) (hg : gd ol L o = some true := by exact rfl)
    (hc : okc ⟨P, dr, fun _ => True, cl, ol, Q, w0, N⟩ o .e = true := by exact rfl) (hv : vs.all (·.oneCell') = true := by exact rfl) (hr : Rep H (cel b U cs) (cel b U vs) H' := by repeat (first | exact Rep.here | apply Rep.there)) (hl : Nat.beq vs.length cs.length = true := by exact rfl) :
    G ⟨P, dr, fun _ => True, cl, ol, Q, w0, N⟩ D (o :: rest) L H :=
  .e0 (E := ⟨P, dr, fun _ => True, cl, ol, Q, w0, N⟩) hd hg hc (e_storeall ho hx hy hr hT hv hl) (fun _ _ _ _ _ _ => trivial) (fun _ _ h => by obtain ⟨_, rfl⟩ := h; exact k)
section
variable {E : Env} {D : List Deferred} {o : Oper} {rest : List Oper} {L : List (Nat × Value)} {H : List HP} {x : Operand} {d T U b n off : Nat} {cs : List Value}
theorem G.ldA (hT : aggB E.P T = some true) (hz : sizeB E.P T = some n) (k : G E D rest ((d, .agg cs.toArray) :: L) H) (ho : o.op = .load T x := by exact rfl) (hx : ev L x = some (.pointer (some ⟨b, 0, none⟩)) := by exact rfl) (hd : o.dst = some d := by exact rfl) (hn : Nat.blt d E.N = true := by exact rfl) (hg : gd E.ol L o = some true := by exact rfl) (hc : okc E o .r = true := by exact rfl)
    (hm : Mem (cel b U cs) H := by repeat (first | exact Mem.here | apply Mem.there)) (hl : Nat.beq cs.length n = true := by exact rfl) : G E D (o :: rest) L H := .r hd hn hg hc (r_loadall ho hx hT hm (by rw [Nat.eq_of_beq_eq_true hl]; exact hz)) k
theorem G.ldP (hT : aggB E.P T = some true) (hz : sizeB E.P T = some n) (k : G E D rest ((d, .agg (sliceL cs off n).toArray) :: L) H) (ho : o.op = .load T x := by exact rfl) (hx : ev L x = some (.pointer (some ⟨b, off, none⟩)) := by exact rfl) (hd : o.dst = some d := by exact rfl) (hn : Nat.blt d E.N = true := by exact rfl) (hg : gd E.ol L o = some true := by exact rfl) (hc : okc E o .r = true := by exact rfl)
    (hm : Mem (cel b U cs) H := by repeat (first | exact Mem.here | apply Mem.there)) (hl : Nat.ble (off + n) cs.length = true := by exact rfl) : G E D (o :: rest) L H := .r hd hn hg hc (r_loadagg ho hx hT hz hm (Nat.le_of_ble_eq_true hl)) k
end
end Go.Eng
/-
  Predicates of several blocks, opened and closed. Speaks of no program.
-/
set_option linter.unusedVariables false
set_option linter.unusedSimpArgs false
namespace Go.Eng
open Go.Lib

theorem star_flat : ∀ (l : List HP) {H : List HP} {h : Hp}, star (star l :: H) h ↔ star (l ++ H) h := by
  classical
  intro l
  induction l with
  | nil =>
    intro H h
    constructor
    · exact star_tail
    · intro hs
      refine star_cons.2 ⟨fun _ => False, ⟨fun _ => 0, fun i p hi => by simp at hi⟩, by simpa using hs⟩
  | cons p l ih =>
    intro H h
    rw [List.cons_append, star_cons, star_cons]
    constructor
    · rintro ⟨S, hp, hH⟩
      obtain ⟨S', h1, h2⟩ := star_cons.1 hp
      refine ⟨fun k => S k ∧ S' k, ?_, ih.1 (star_cons.2 ⟨S, ?_, ?_⟩)⟩
      · refine cast (congrArg p ?_) h1
        funext k; by_cases a : S k <;> by_cases b : S' k <;> simp [a, b]
      · refine cast (congrArg (star l) ?_) h2
        funext k; by_cases a : S k <;> by_cases b : S' k <;> simp [a, b]
      · refine cast (congrArg (star H) ?_) hH
        funext k; by_cases a : S k <;> by_cases b : S' k <;> simp [a, b]
    · rintro ⟨S1, h1, h2⟩
      obtain ⟨S2, h3, h4⟩ := star_cons.1 (ih.2 h2)
      refine ⟨fun k => S1 k ∨ S2 k, star_cons.2 ⟨S1, ?_, ?_⟩, ?_⟩
      · refine cast (congrArg p ?_) h1
        funext k; by_cases a : S1 k <;> by_cases b : S2 k <;> simp [a, b]
      · refine cast (congrArg (star l) ?_) h3
        funext k; by_cases a : S1 k <;> by_cases b : S2 k <;> simp [a, b]
      · refine cast (congrArg (star H) ?_) h4
        funext k; by_cases a : S1 k <;> by_cases b : S2 k <;> simp [a, b]

/-- some x with these parts -/
def exS {α : Type} (p : α → List HP) : HP := fun h => ∃ x, star (p x) h

section
variable {P : Program} {w0 w : World} {N : Nat} {Q : Exit → Act → World → Prop} {D : List Deferred} {L : List (Nat × Value)} {H : List HP} {α : Type} {p : α → List HP}
theorem WS.openS (h : WS w0 (exS p :: H) w) : ∃ x, WS w0 (p x ++ H) w := by
  obtain ⟨S, ⟨x, hx⟩, h2⟩ := star_cons.1 h.sat
  exact ⟨x, (star_flat (p x)).1 (star_cons.2 ⟨S, hx, h2⟩), h.os, h.tape, h.output⟩
theorem WS.closeS (x : α) (h : WS w0 (p x ++ H) w) : WS w0 (exS p :: H) w := by
  obtain ⟨S, hx, h2⟩ := star_cons.1 ((star_flat (p x)).2 h.sat)
  exact ⟨star_cons.2 ⟨S, ⟨x, hx⟩, h2⟩, h.os, h.tape, h.output⟩
theorem CG.openS {c : Code} {H1 : List HP} (p : α → List HP) (ht : Take H (exS p) H1) (k : ∀ x, CG P w0 N c Q D L (p x ++ H1)) : CG P w0 N c Q D L H := by
  intro a w hf hw
  obtain ⟨x, hx⟩ := (hw.take1 ht).openS
  exact k x a w hf hx
theorem CG.closeS {c : Code} {H1 : List HP} (p : α → List HP) (x : α) (ht : Takes H (p x) H1) (k : CG P w0 N c Q D L (exS p :: H1)) : CG P w0 N c Q D L H :=
  fun a w hf hw => k a w hf ((hw.takes ht).closeS x)
theorem EN.openS {e : Exit} {H1 : List HP} (p : α → List HP) (ht : Take H (exS p) H1) (k : ∀ x, EN w0 N Q e D L (p x ++ H1)) : EN w0 N Q e D L H := by
  intro a w hf hw
  obtain ⟨x, hx⟩ := (hw.take1 ht).openS
  exact k x a w hf hx
theorem EN.closeS {e : Exit} {H1 : List HP} (p : α → List HP) (x : α) (ht : Takes H (p x) H1) (k : EN w0 N Q e D L (exS p :: H1)) : EN w0 N Q e D L H :=
  fun a w hf hw => k a w hf ((hw.takes ht).closeS x)
theorem G.openS {E : Env} {l : List Oper} {H1 : List HP} (p : α → List HP) (ht : Take H (exS p) H1) (k : ∀ x, G E D l L (p x ++ H1)) : G E D l L H := by
  intro a w hf hw
  obtain ⟨x, hx⟩ := (hw.take1 ht).openS
  exact k x a w hf hx
theorem G.closeS {E : Env} {l : List Oper} {H1 : List HP} (p : α → List HP) (x : α) (ht : Takes H (p x) H1) (k : G E D l L (exS p :: H1)) : G E D l L H :=
  fun a w hf hw => k a w hf ((hw.takes ht).closeS x)

theorem e_append_off {o : Oper} {x y : Operand} {t e sz bytes : Nat} {z : List Value} {v : Value} {n m c b off U : Nat} {xs ys news : List Value} {H1 : List HP} (ho : o.op = .call { callee := .builtin .append, args := #[x, y], argTypes := #[t, t] })
    (hx : ev L x = some v) (hy : ev L y = some (.slice (some ⟨b, off, none⟩) m c)) (hs : sliceE P t = some e) (hi : infoB P e = some (some z, sz, bytes)) (hz : Nat.beq z.length sz = true)
    (ht : Take H (own e sz v n xs) H1) (hm : Mem (cel b U ys) H1) (hn : sliceL ys off (m * sz) = news) (hl : news.length = m * sz) (h1 : ∀ u ∈ news, u.oneCell' = true) (hb : (n + m) * bytes ≤ 140737488355328 ∧ n + m ≤ 140737488355328) :
    EOp P L H o (fun u H' => H' = own e sz u (n + m) (xs ++ news) :: H1) := by
  intro N D a w w0 K Q hf hw hk
  obtain ⟨i, zv, hi1, hi2, hi3, hi4, hi5⟩ := infoB_spec hi
  have hw2 : WS w0 (own e sz v n xs :: H1) w := hw.take1 ht
  have hown := hw2.own .here
  have hnews : ∀ j u, news[j]? = some u → w.cell? ((⟨b, off, none⟩ : Addr).add j) = some u := fun j u hj => by
    rw [Addr.add_lit]
    refine cell_cel hw2 (.there hm) ?_
    rw [nth_eq]
    rw [← hn] at hj
    simp only [sliceL, List.getElem?_take, List.getElem?_drop] at hj
    split at hj
    · exact hj
    · cases hj
  have hz' := Nat.eq_of_beq_eq_true hz
  obtain ⟨v', w', hr, hg, hsame, h5, h6, h7⟩ := run_append2 (P := P) (t := t) (ty := o.type) (e := e) (c := c) (sliceE_spec hs) hi1 hi2 hi4 (by rw [hi3]; simpa using hz') hown hl hnews h1 (by rw [hi5]; exact hb.1) (by unfold maxLen; omega)
  have hrun : (execOp a.eval o).run P w = .ok (.value v') w' := by
    unfold execOp; rw [ho]
    simp [resolve, invoke, builtin, hf.ev hx, hf.ev hy, hr]
  unfold Oper.wp; rw [hrun]
  refine hk _ _ _ rfl (hw2.grows .here ?_ hg ?_ h5 h6 h7)
  · rw [List.length_append, hown.1, hl, Nat.add_mul]
  · intro e1 e2
    obtain ⟨h8, h9⟩ := hsame e1 e2
    subst h8; subst h9
    simp

theorem u8_one (l : List UInt8) : ∀ u ∈ l.map u8v, u.oneCell' = true := by
  intro u hu; obtain ⟨c, _, rfl⟩ := List.mem_map.1 hu; rfl
theorem strCells_eq (l : List UInt8) : strCells ⟨l.toArray⟩ = l.map u8v := rfl

/-- append of a string's bytes -/
theorem e_append_str {o : Oper} {x y : Operand} {t u e : Nat} {v : Value} {n : Nat} {xs : List Value} {l : List UInt8} {H1 : List HP} (ho : o.op = .call { callee := .builtin .append, args := #[x, y], argTypes := #[t, u] })
    (hx : ev L x = some v) (hy : ev L y = some (str l)) (hs : sliceE P t = some e) (hu : P.underlying u = some .string) (hi : infoB P e = some (some [.int .u8 0], 1, 1))
    (ht : Take H (own e 1 v n xs) H1) (hb : n + l.length ≤ 140737488355328) :
    EOp P L H o (fun r H' => H' = own e 1 r (n + l.length) (xs ++ l.map u8v) :: H1) := by
  intro N D a w w0 K Q hf hw hk
  obtain ⟨i, zv, hi1, hi2, hi3, hi4, hi5⟩ := infoB_spec hi
  have hw2 : WS w0 (own e 1 v n xs :: H1) w := hw.take1 ht
  have hown := hw2.own .here
  have hsz : (⟨l.toArray⟩ : ByteArray).size = l.length := by simp [ByteArray.size]
  have hst := sliceE_spec hs
  have hlen : (xs ++ l.map u8v).length = n + l.length := by have := hown.1; simp; omega
  have hcz : zv.cells.size = 1 := by rw [hi3]; rfl
  have nosize : ∀ (x : Obj), w.drew.alloc x ≠ w := fun x e => by
    have := congrArg (fun w => w.heap.size) e
    simp at this
  have hrun : ∃ v' w', (Builtin.append_ #[t, u] o.type #[v, str l]).run P w = .ok v' w' ∧ Grows w w' e 1 v v' (n + l.length) (xs ++ l.map u8v) ∧ (v' = v → w' = w → l = []) ∧ w'.os = w.os ∧ w'.tape = w.tape ∧ w'.output = w.output := by
    have hgrow : ∀ old, old < n + l.length → Grows w (w.drew.alloc (.cells (xs.toArray ++ (l.map u8v).toArray ++ Builtin.zeroCells zv.cells (grownCap w (n + l.length) old e - (n + l.length))) e)) e 1 v (.slice (some ⟨w.heap.size, 0, none⟩) (n + l.length) (grownCap w (n + l.length) old e)) (n + l.length) (xs ++ l.map u8v) := by
      intro old ho
      have hge := grownCap_ge w (n + l.length) old e
      have hcm : grownCap w (n + l.length) old e ≤ maxLen := grownCap_le_maxLen w (n + l.length) old e (by unfold maxLen; omega)
      refine .inl ⟨w.heap.size, _, _, rfl, hge, hcm, ?_, ?_, heap_alloc_new w.drew _, .inr ⟨rfl, fun k hk => RowKit.Below.heap_alloc w.drew _ k hk⟩⟩
      · have := hown.1
        simp only [Array.size_append, List.size_toArray, size_zeroCells, hcz, List.length_map]
        omega
      · simp only [Array.toList_append, List.append_assoc]
        rw [← List.append_assoc, Nat.mul_one, ← hlen]
        exact List.take_left
    rcases hown.2 with ⟨rfl, rfl⟩ | ⟨g, cap, cur, rfl, _, hg, hnc, hcm, hcs, htake⟩
    · have hx0 : xs = [] := List.eq_nil_of_length_eq_zero (by simpa using hown.1)
      subst hx0
      by_cases hl : l = []
      · subst hl
        refine ⟨.slice none 0 0, w, ?_, .inr ⟨rfl, rfl⟩, fun _ _ => rfl, rfl, rfl, rfl⟩
        simp [Builtin.append_, run_underlying hst, run_underlying hu, sizeOf, typeInfo, hi1, str, Builtin.lenOf, Builtin.firstCells, ByteArray.size]
      · have h0 : 0 < l.length := List.length_pos_iff.2 hl
        have hr := run_append_nil_string (P := P) w t u o.type e i zv hst hu hi1 hi2 ⟨l.toArray⟩ (by omega) (by rw [hsz]; omega) (by rw [hsz, hi5]; omega)
        have hgr := hgrow 0 (by omega)
        simp only [Nat.zero_add, List.nil_append, Array.empty_append, hsz, List.map_toArray] at hgr hr ⊢
        refine ⟨_, _, hr, ?_, fun _ e => absurd e (nosize _), rfl, rfl, rfl⟩
        exact hgr
    · by_cases hroom : n + l.length ≤ cap
      · have hr := run_append_room_string (P := P) w t u o.type e i hst hu hi1 hi4 g n cap cur hg ⟨l.toArray⟩ (by rw [hsz]; exact hroom) (by rw [hsz]; omega)
        rw [hsz] at hr
        refine ⟨_, _, hr, .inl ⟨g, cap, _, rfl, hroom, hcm, ?_, ?_, setRow_heap w g cur _ e _ hg, .inl ⟨rfl, fun k hk => setRow_other w g k _ hk⟩⟩, ?_, rfl, rfl, rfl⟩
        · simp only [List.size_toArray, List.length_append, List.length_take, List.length_drop, Array.length_toList, strCells_length, hsz]
          omega
        · simp only [Nat.mul_one] at htake ⊢
          rw [htake, strCells_eq, ← hlen]
          exact List.take_left
        · intro he _
          simp only [Value.slice.injEq] at he
          exact List.eq_nil_of_length_eq_zero (by omega)
      · have holds : ∀ j u, xs[j]? = some u → w.cell? ((⟨g, 0, none⟩ : Addr).add j) = some u := hown.cells (g := g) rfl
        have hr := run_append_grow_string (P := P) w t u o.type e i zv hst hu hi1 hi2 ⟨g, 0, none⟩ n cap xs (by rw [hi4]; exact hown.1) holds ⟨l.toArray⟩ (by rw [hsz]; omega) (by rw [hsz]; omega) (by rw [hsz]; exact growslice_fits (by omega) (by rw [hi5]; omega))
        rw [hsz, strCells_eq] at hr
        exact ⟨_, _, hr, hgrow cap (by omega), fun _ e => absurd e (nosize _), rfl, rfl, rfl⟩
  obtain ⟨v', w', hr, hg, hsame, h5, h6, h7⟩ := hrun
  have hrun : (execOp a.eval o).run P w = .ok (.value v') w' := by
    unfold execOp; rw [ho]
    simp [resolve, invoke, builtin, hf.ev hx, hf.ev hy, hr]
  unfold Oper.wp; rw [hrun]
  refine hk _ _ _ rfl (hw2.grows .here (by rw [hlen, Nat.mul_one]) hg ?_ h5 h6 h7)
  intro e1 e2
  obtain rfl := hsame e1 e2
  simp

/-- a string of the bytes of a block -/
theorem r_b2s_cel {o : Oper} {x : Operand} {S T e b c U : Nat} {l : List UInt8} (ho : o.op = .convert S T x) (hx : ev L x = some (.slice (some ⟨b, 0, none⟩) l.length c)) (hT : bytesT P S T = some e) (hm : Mem (cel b U (l.map u8v)) H) : ROp P L H o (str l) := by
  intro N D a w w0 hf hw
  obtain ⟨h1, h2, h3⟩ := bytesT_spec hT
  have hl : (loadCells ⟨b, 0, none⟩ l.length).run P w = .ok (l.map u8v).toArray w := by
    have := run_loadCells_list (P := P) w ⟨b, 0, none⟩ (l.map u8v) (fun j v hj => by rw [Addr.add_lit, Nat.zero_add]; exact cell_cel hw hm (by rw [nth_eq]; exact hj))
    rw [List.length_map] at this; exact this
  have hrun := run_bytesToString (P := P) w ⟨b, 0, none⟩ l.length c (l.map fun c => ((c.toNat : Nat) : Int)) (by rw [hl]; simp [u8v, Function.comp_def])
  rw [foldl_push_bytes] at hrun
  unfold execOp; rw [ho]
  simp only [hf.ev hx, Sem.run_bind]
  have hc : (convert S T (.slice (some ⟨b, 0, none⟩) l.length c)).run P w = .ok (str l) w := by
    simp [convert, run_underlying h1, run_underlying h2, run_underlying h3, hrun, str]
  rw [hc]; rfl
theorem run_b2s_own {w : World} {S T e n : Nat} {v : Value} {l : List UInt8} (hT : bytesT P S T = some e) (hown : w.ownsRow 0 e 1 v n (l.map u8v)) : (convert S T v).run P w = .ok (str l) w := by
  obtain ⟨h1, h2, h3⟩ := bytesT_spec hT
  have hrun : (Conv.bytesToString v).run P w = .ok (str l) w := by
    rcases hown.2 with ⟨rfl, rfl⟩ | ⟨g, cap, cur, rfl, r⟩
    · have : l = [] := by have := hown.1; simp at this; exact this
      subst this
      rfl
    · have hl := loadCells_own (P := P) (sz := 1) hown (g := g) rfl
      have := run_bytesToString (P := P) w ⟨g, 0, none⟩ n cap (l.map fun c => ((c.toNat : Nat) : Int)) (by rw [hl]; simp [u8v, Function.comp_def])
      rw [this, foldl_push_bytes]
      simp [str]
  have hv : ∃ ad k c, v = .slice ad k c := by
    rcases hown.2 with ⟨rfl, _⟩ | ⟨g, cap, cur, rfl, r⟩ <;> exact ⟨_, _, _, rfl⟩
  obtain ⟨ad, k, c, rfl⟩ := hv
  cases ad <;> simp [convert, run_underlying h1, run_underlying h2, run_underlying h3, hrun]
/-- the same, quiet, in a class of worlds that knows the owned row -/
theorem G.b2sC {E : Env} {o : Oper} {rest : List Oper} {d : Nat} {x : Operand} {S T e n : Nat} {v : Value} {l : List UInt8} (hd : o.dst = some d) (hn : Nat.blt d E.N = true) (hg : gd E.ol L o = some true) (hdr : E.dr = true) (hc : okc E o .q = true)
    (ho : o.op = .convert S T x) (hx : ev L x = some v) (hT : bytesT E.P S T = some e) (hC : ∀ w, E.C w → w.ownsRow 0 e 1 v n (l.map u8v)) (k : G E D rest ((d, str l) :: L) H) : G E D (o :: rest) L H := by
  refine G.qC hd hn hg hdr hc (fun D a w hf hw => ?_) k
  unfold execOp; rw [ho]
  simp only [hf.ev hx, Sem.run_bind, run_b2s_own hT (hC w hw)]
  rfl
end
end Go.Eng
/-
  Plain: the reader of bits (bitin), no program in sight.
-/
set_option linter.unusedVariables false
namespace Go.Eng

/-- bitin.Reader -/
structure RD where
  s : List UInt8
  pos : Nat
  hold : Nat
  hav : Nat
  frm : Nat

namespace RD
def step (r : RD) : RD := match r.s[r.pos]? with
  | some c => { r with hold := r.hold ||| (c.toNat <<< r.hav), pos := r.pos + 1, hav := r.hav + 8 }
  | none => r
theorem step_lt {r : RD} (h : r.pos < r.s.length) : r.step.pos = r.pos + 1 ∧ r.step.s = r.s := by
  unfold step
  rw [List.getElem?_eq_getElem h]
  exact ⟨rfl, rfl⟩
def fill (r : RD) (n : Nat) : RD := if h : r.hav < n ∧ r.pos < r.s.length then r.step.fill n else r
termination_by r.s.length - r.pos
decreasing_by have := step_lt h.2; rw [this.1, this.2]; omega

structure Ok (r : RD) : Prop where
  pos : r.pos ≤ r.s.length
  hav : r.hav ≤ 39
  hold : r.hold < 2 ^ r.hav
  len : r.s.length ≤ 140737488351232
  begun : r.frm + r.hav / 8 ≤ r.pos

def new (s : List UInt8) (k : Nat) : RD := ⟨s, min k s.length, 0, 0, min k s.length⟩
theorem new_ok {s : List UInt8} (hs : s.length ≤ 140737488351232) (k : Nat) : (new s k).Ok :=
  ⟨Nat.min_le_right _ _, by simp [new], by simp [new], hs, by simp [new]⟩
theorem shl_lt {c h : Nat} (hc : c < 256) (hh : h ≤ 31) : c * 2 ^ h < 2 ^ 64 := by
  have : 2 ^ h ≤ 2 ^ 31 := Nat.pow_le_pow_right (by omega) hh
  calc c * 2 ^ h ≤ c * 2 ^ 31 := Nat.mul_le_mul_left _ this
    _ < 2 ^ 64 := by omega
theorem or_shl_lt {a c h : Nat} (ha : a < 2 ^ h) (hc : c < 256) : a ||| (c <<< h) < 2 ^ (h + 8) := by
  refine Nat.or_lt_two_pow (Nat.lt_of_lt_of_le ha (Nat.pow_le_pow_right (by omega) (by omega))) ?_
  rw [Nat.shiftLeft_eq, Nat.pow_add, Nat.mul_comm]
  exact Nat.mul_lt_mul_of_pos_left hc (Nat.pow_pos (by omega))
theorem Ok.step {r : RD} (h : r.Ok) (hh : r.hav ≤ 31) (hlt : r.pos < r.s.length) : r.step.Ok := by
  unfold RD.step
  rw [List.getElem?_eq_getElem hlt]
  have hc := (r.s[r.pos]).toNat_lt
  exact ⟨by simp; omega, by simp; omega, or_shl_lt h.hold (by omega), h.len, by have := h.begun; simp; omega⟩
theorem fill_ok (n : Nat) (hn : n ≤ 32) (r : RD) : r.Ok → (r.fill n).Ok := by
  induction r using RD.fill.induct n with
  | case1 r h ih => intro ho; rw [fill, dif_pos h]; exact ih (ho.step (by omega) h.2)
  | case2 r h => intro ho; rw [fill, dif_neg h]; exact ho
theorem fill_end (n : Nat) (r : RD) : ¬ ((r.fill n).hav < n ∧ (r.fill n).pos < (r.fill n).s.length) := by
  induction r using RD.fill.induct n with
  | case1 r h ih => rw [fill, dif_pos h]; exact ih
  | case2 r h => rw [fill, dif_neg h]; exact h
theorem fill_idem (n : Nat) (r : RD) : (r.fill n).fill n = r.fill n := by
  rw [RD.fill.eq_1 (r.fill n) n, dif_neg (fill_end n r)]
theorem peek_val {hold n : Nat} (hn : n ≤ 32) (hh : hold < 2 ^ 64) :
    IntKind.u32.wrap (bits .and .u64 (hold : Int) (IntKind.u64.wrap (IntKind.u64.wrap (1 * 2 ^ min ((n : Nat) : Int).toNat IntKind.u64.bits) - 1))) = ((hold % 2 ^ n : Nat) : Int) := by
  have h1 : (1 : Nat) * 2 ^ n < 2 ^ 64 := by
    rw [Nat.one_mul]; exact Nat.pow_lt_pow_right (by omega) (by omega)
  have e1 := shl_nat (k := .u64) (n := 64) rfl rfl (a := 1) (c := n) (by omega) h1
  rw [show ((1 : Nat) : Int) = 1 from rfl] at e1
  rw [e1, Nat.shiftLeft_eq, Nat.one_mul]
  have hp : 0 < 2 ^ n := Nat.pow_pos (by omega)
  have e2 : (((2 ^ n : Nat) : Int) - 1) = ((2 ^ n - 1 : Nat) : Int) := by omega
  rw [Nat.one_mul] at h1
  rw [e2, wrapu_nat (b := 64) rfl rfl (by omega), bits_and_nat (n := 64) rfl rfl hh (by omega), Nat.and_two_pow_sub_one_eq_mod]
  refine wrapu_nat (b := 32) rfl rfl (Nat.lt_of_lt_of_le (Nat.mod_lt _ hp) (Nat.pow_le_pow_right (by omega) hn))
def took (r : RD) (n : Nat) : RD := { r with hold := r.hold >>> n, hav := r.hav - n }
theorem Ok.took {r : RD} (h : r.Ok) {n : Nat} (hn : n ≤ r.hav) : (r.took n).Ok := by
  refine ⟨h.pos, by have := h.hav; simp [RD.took]; omega, ?_, h.len, ?_⟩
  · simp only [RD.took]
    rw [Nat.shiftRight_eq_div_pow, Nat.div_lt_iff_lt_mul (Nat.pow_pos (by omega)), ← Nat.pow_add]
    rw [show r.hav - n + n = r.hav by omega]; exact h.hold
  · have := h.begun
    simp only [RD.took]
    have : (r.hav - n) / 8 ≤ r.hav / 8 := Nat.div_le_div_right (by omega)
    omega
/-- n bits taken: the number, whether there were so many -/
def bits (r : RD) (n : Nat) : RD × Nat × Bool :=
  if (r.fill n).hav < n then (r.fill n, 0, false) else ((r.fill n).took n, (r.fill n).hold % 2 ^ n, true)
theorem bits_ok {r : RD} (h : r.Ok) {n : Nat} (hn : n ≤ 32) : (r.bits n).1.Ok := by
  unfold bits
  split
  · exact fill_ok n hn r h
  · exact (fill_ok n hn r h).took (by omega)
def align (r : RD) : RD := r.took (r.hav % 8)
theorem align_ok {r : RD} (h : r.Ok) : r.align.Ok := h.took (Nat.mod_le _ _)
def from_ (r : RD) : Nat := r.align.pos - r.align.hav / 8
def bytes (r : RD) (n : Nat) : RD × List UInt8 × Bool :=
  if r.s.length - r.from_ < n then (r.align, [], false) else ({ r.align with pos := r.from_ + n, hold := 0, hav := 0 }, (r.s.take (r.from_ + n)).drop r.from_, true)
theorem from_le {r : RD} (h : r.Ok) : r.frm ≤ r.from_ ∧ r.from_ ≤ r.s.length := by
  have h1 := (align_ok h).begun
  have h2 := h.pos
  unfold from_
  simp only [align, took] at *
  omega
theorem bytes_ok {r : RD} (h : r.Ok) (n : Nat) : (r.bytes n).1.Ok := by
  unfold bytes
  have hf := from_le h
  split
  · exact align_ok h
  · refine ⟨by simp only [align, took]; omega, by simp, by simp, h.len, by simp only [align, took]; omega⟩
def used (r : RD) : Nat := r.pos - r.hav / 8 - r.frm
def left (r : RD) : Nat := 8 * (r.s.length - r.pos) + r.hav
end RD
end Go.Eng
/-
  Plain: the writer of bits (bitin), no program in sight.
-/
set_option linter.unusedVariables false
namespace Go.Eng

/-- bitin.Writer -/
structure WR where
  out : List UInt8
  hold : Nat
  hav : Nat
namespace WR
def flush (w : WR) : WR := if h : 8 ≤ w.hav then flush ⟨w.out ++ [UInt8.ofNat w.hold], w.hold >>> 8, w.hav - 8⟩ else w
termination_by w.hav
def put (w : WR) (x n : Nat) : WR := flush ⟨w.out, w.hold ||| ((x % 2 ^ n) <<< w.hav), w.hav + n⟩
structure Ok (w : WR) : Prop where
  hav : w.hav < 8
  hold : w.hold < 2 ^ w.hav
theorem flush_ok (w : WR) (h : w.hold < 2 ^ w.hav) : w.flush.Ok := by
  induction w using WR.flush.induct with
  | case1 w hh ih =>
    rw [flush, dif_pos hh]
    refine ih ?_
    rw [Nat.shiftRight_eq_div_pow, Nat.div_lt_iff_lt_mul (Nat.pow_pos (by omega)), ← Nat.pow_add]
    rw [show w.hav - 8 + 8 = w.hav by omega]; exact h
  | case2 w hh => rw [flush, dif_neg hh]; exact ⟨by omega, h⟩
theorem put_hold {w : WR} (h : w.Ok) (x n : Nat) : w.hold ||| ((x % 2 ^ n) <<< w.hav) < 2 ^ (w.hav + n) := by
  refine Nat.or_lt_two_pow (Nat.lt_of_lt_of_le h.hold (Nat.pow_le_pow_right (by omega) (by omega))) ?_
  rw [Nat.shiftLeft_eq, Nat.pow_add, Nat.mul_comm]
  exact Nat.mul_lt_mul_of_pos_left (Nat.mod_lt _ (Nat.pow_pos (by omega))) (Nat.pow_pos (by omega))
theorem put_ok {w : WR} (h : w.Ok) (x n : Nat) : (w.put x n).Ok := flush_ok _ (put_hold h x n)
theorem flush_len (w : WR) : 8 * w.flush.out.length + w.flush.hav = 8 * w.out.length + w.hav := by
  induction w using WR.flush.induct with
  | case1 w hh ih => rw [flush, dif_pos hh, ih]; simp; omega
  | case2 w hh => rw [flush, dif_neg hh]
theorem put_len (w : WR) (x n : Nat) : 8 * (w.put x n).out.length + (w.put x n).hav = 8 * w.out.length + w.hav + n := by
  unfold put; rw [flush_len]; simp; omega
/-- a code's n bits, the highest first -/
def code (w : WR) (x : Nat) : Nat → WR
  | 0 => w
  | n + 1 => (w.put (x >>> n) 1).code x n
theorem code_ok {w : WR} (h : w.Ok) (x n : Nat) : (w.code x n).Ok := by
  induction n generalizing w with
  | zero => exact h
  | succ n ih => exact ih (put_ok h _ _)
theorem code_len (w : WR) (x n : Nat) : 8 * (w.code x n).out.length + (w.code x n).hav = 8 * w.out.length + w.hav + n := by
  induction n generalizing w with
  | zero => rfl
  | succ n ih => rw [code, ih, put_len]; omega
def align (w : WR) : WR := if 0 < w.hav then w.put 0 (8 - w.hav) else w
theorem align_ok {w : WR} (h : w.Ok) : w.align.Ok := by unfold align; split; exact put_ok h _ _; exact h
theorem align_len {w : WR} (h : w.Ok) : w.align.hav = 0 ∧ w.align.out.length ≤ w.out.length + 1 := by
  unfold align
  have h1 := h.hav
  split
  · have := put_len w 0 (8 - w.hav)
    have := (put_ok h 0 (8 - w.hav)).hav
    omega
  · omega
def bytes (w : WR) (s : List UInt8) : WR := { w.align with out := w.align.out ++ s }
theorem bytes_ok {w : WR} (h : w.Ok) (s : List UInt8) : (w.bytes s).Ok := ⟨(align_ok h).hav, (align_ok h).hold⟩
def text (w : WR) : List UInt8 := if 0 < w.hav then w.out ++ [UInt8.ofNat w.hold] else w.out
def zero : WR := ⟨[], 0, 0⟩
theorem zero_ok : zero.Ok := ⟨by simp [zero], by simp [zero]⟩

theorem ofNat_toNat (n : Nat) : ((UInt8.ofNat n).toNat : Int) = ((n % 256 : Nat) : Int) := by simp
/-- byte(hold) -/
theorem byte_val (n : Nat) : IntKind.u8.wrap (n : Int) = ((UInt8.ofNat n).toNat : Int) := by
  rw [wrapu_nat_mod (b := 8) rfl rfl, ofNat_toNat]
theorem u8v_ofNat (n : Nat) : Value.int .u8 (IntKind.u8.wrap (n : Int)) = u8v (UInt8.ofNat n) := by unfold u8v; rw [byte_val]
/-- the bits that are put -/
theorem put_val {x n hold hav : Nat} (hx : x < 2 ^ 32) (hn : n ≤ 32) (hh : hav < 8) (hhold : hold < 2 ^ hav) :
    bits .or .u64 (hold : Int) (IntKind.u64.wrap (bits .and .u64 (x : Int) (IntKind.u64.wrap (IntKind.u64.wrap (1 * 2 ^ min ((n : Nat) : Int).toNat IntKind.u64.bits) - 1)) * 2 ^ min ((hav : Nat) : Int).toNat IntKind.u64.bits)) =
      ((hold ||| ((x % 2 ^ n) <<< hav) : Nat) : Int) := by
  have h1 : (1 : Nat) * 2 ^ n < 2 ^ 64 := by rw [Nat.one_mul]; exact Nat.pow_lt_pow_right (by omega) (by omega)
  have e1 := shl_nat (k := .u64) (n := 64) rfl rfl (a := 1) (c := n) (by omega) h1
  rw [show ((1 : Nat) : Int) = 1 from rfl] at e1
  rw [e1, Nat.shiftLeft_eq, Nat.one_mul]
  have hp : 0 < 2 ^ n := Nat.pow_pos (by omega)
  have e2 : (((2 ^ n : Nat) : Int) - 1) = ((2 ^ n - 1 : Nat) : Int) := by omega
  rw [Nat.one_mul] at h1
  have h32 : (2 : Nat) ^ 32 < 2 ^ 64 := by decide
  rw [e2, wrapu_nat (b := 64) rfl rfl (by omega), bits_and_nat (n := 64) rfl rfl (by omega) (by omega), Nat.and_two_pow_sub_one_eq_mod]
  have hm : x % 2 ^ n < 2 ^ 32 := Nat.lt_of_le_of_lt (Nat.mod_le _ _) hx
  have hs : (x % 2 ^ n) * 2 ^ hav < 2 ^ 64 := by
    calc (x % 2 ^ n) * 2 ^ hav ≤ (x % 2 ^ n) * 2 ^ 8 := Nat.mul_le_mul_left _ (Nat.pow_le_pow_right (by omega) (by omega))
      _ < 2 ^ 64 := by omega
  rw [shl_nat (n := 64) rfl rfl (by omega) hs, bits_or_nat (n := 64) rfl rfl]
  · exact Nat.lt_of_lt_of_le hhold (Nat.pow_le_pow_right (by omega) (by omega))
  · rw [Nat.shiftLeft_eq]; exact hs
end WR
end Go.Eng
namespace Go.Eng
theorem own_snoc {e : Nat} {u : Value} {l : List UInt8} {n : Nat} : own e 1 u (l.length + 1) (l.map u8v ++ [.int .u8 (IntKind.u8.wrap (n : Int))]) = own e 1 u (l ++ [UInt8.ofNat n]).length ((l ++ [UInt8.ofNat n]).map u8v) := by
  simp [WR.u8v_ofNat]
theorem own_app {e : Nat} {u : Value} {l m : List UInt8} : own e 1 u (l.length + m.length) (l.map u8v ++ m.map u8v) = own e 1 u (l ++ m).length ((l ++ m).map u8v) := by
  simp
end Go.Eng
/-
  Laws in plain integers (for omega), bytes, slices of slices. Speaks of no program.
-/
set_option linter.unusedVariables false
set_option linter.unusedSimpArgs false
namespace Go.Eng

/-- as many bits as a natural number may have -/
def lim (k : IntKind) : Nat := match k.signed with | true => k.bits - 1 | false => k.bits
theorem lim_le (k : IntKind) : lim k ≤ k.bits := by unfold lim; split <;> omega
theorem wrap_lim {k : IntKind} {m : Int} (h : 0 ≤ m) (h2 : m < 2 ^ lim k) : k.wrap m = m := by
  cases k <;> simp only [lim, IntKind.signed, IntKind.bits] at h2 <;> simp only [IntKind.wrap, IntKind.signed, IntKind.bits] <;> simp <;> omega
theorem bits_and_lim {k : IntKind} {a b : Nat} (ha : a < 2 ^ lim k) (hb : b < 2 ^ lim k) : bits .and k a b = ((a &&& b : Nat) : Int) := by
  have hp : 2 ^ lim k ≤ 2 ^ k.bits := Nat.pow_le_pow_right (by omega) (lim_le k)
  unfold bits
  simp only [ofInt_nat, BitVec.toNat_and, BitVec.toNat_ofNat, Nat.mod_eq_of_lt (Nat.lt_of_lt_of_le ha hp), Nat.mod_eq_of_lt (Nat.lt_of_lt_of_le hb hp)]
  refine wrap_lim (by omega) ?_
  have := Nat.and_lt_two_pow a hb
  exact_mod_cast this
theorem bits_or_lim {k : IntKind} {a b : Nat} (ha : a < 2 ^ lim k) (hb : b < 2 ^ lim k) : bits .or k a b = ((a ||| b : Nat) : Int) := by
  have hp : 2 ^ lim k ≤ 2 ^ k.bits := Nat.pow_le_pow_right (by omega) (lim_le k)
  unfold bits
  simp only [ofInt_nat, BitVec.toNat_or, BitVec.toNat_ofNat, Nat.mod_eq_of_lt (Nat.lt_of_lt_of_le ha hp), Nat.mod_eq_of_lt (Nat.lt_of_lt_of_le hb hp)]
  refine wrap_lim (by omega) ?_
  have := Nat.or_lt_two_pow ha hb
  exact_mod_cast this
theorem bits_xor_lim {k : IntKind} {a b : Nat} (ha : a < 2 ^ lim k) (hb : b < 2 ^ lim k) : bits .xor k a b = ((a ^^^ b : Nat) : Int) := by
  have hp : 2 ^ lim k ≤ 2 ^ k.bits := Nat.pow_le_pow_right (by omega) (lim_le k)
  unfold bits
  simp only [ofInt_nat, BitVec.toNat_xor, BitVec.toNat_ofNat, Nat.mod_eq_of_lt (Nat.lt_of_lt_of_le ha hp), Nat.mod_eq_of_lt (Nat.lt_of_lt_of_le hb hp)]
  refine wrap_lim (by omega) ?_
  have := Nat.xor_lt_two_pow ha hb
  exact_mod_cast this
theorem int_lt_pow {m : Int} {j : Nat} (h0 : 0 ≤ m) (h : m < 2 ^ j) : m.toNat < 2 ^ j := by
  have e : ((m.toNat : Nat) : Int) = m := Int.toNat_of_nonneg h0
  have : ((m.toNat : Nat) : Int) < ((2 ^ j : Nat) : Int) := by rw [e]; simpa using h
  exact_mod_cast this

theorem lim_u8 : (2 : Int) ^ lim .u8 = 256 := by decide
theorem lim_u16 : (2 : Int) ^ lim .u16 = 65536 := by decide
theorem lim_u32 : (2 : Int) ^ lim .u32 = 4294967296 := by decide
theorem lim_u64 : (2 : Int) ^ lim .u64 = 18446744073709551616 := by decide
theorem lim_i32 : (2 : Int) ^ lim .i32 = 2147483648 := by decide
theorem lim_i64 : (2 : Int) ^ lim .i64 = 9223372036854775808 := by decide
/-- omega, the kinds' limits as numbers -/
theorem lOm {p : Prop} (h : p := by first | omega | (simp only [lim_u8, lim_u16, lim_u32, lim_u64, lim_i32, lim_i64]; omega)) : p := h

section
variable {P : Program} {L : List (Nat × Value)} {o : Oper} {x y : Operand} {T U : TypeId} {k yk : IntKind} {m n d : Int}
theorem q_addw (ho : o.op = .binOp .add T x y U) (hx : ev L x = some (.int k m)) (hy : ev L y = some (.int k n)) (h0 : 0 ≤ m + n) (h : m + n < 2 ^ lim k) : QOp P L o (.int k (m + n)) := by
  have := q_add (P := P) ho hx hy; rw [wrap_lim h0 h] at this; exact this
theorem q_subw (ho : o.op = .binOp .sub T x y U) (hx : ev L x = some (.int k m)) (hy : ev L y = some (.int k n)) (h0 : 0 ≤ m - n) (h : m - n < 2 ^ lim k) : QOp P L o (.int k (m - n)) := by
  have := q_sub (P := P) ho hx hy; rw [wrap_lim h0 h] at this; exact this
theorem q_mulw (ho : o.op = .binOp .mul T x y U) (hx : ev L x = some (.int k m)) (hy : ev L y = some (.int k n)) (h0 : 0 ≤ m * n) (h : m * n < 2 ^ lim k) : QOp P L o (.int k (m * n)) := by
  have := q_mul (P := P) ho hx hy; rw [wrap_lim h0 h] at this; exact this
/-- by a constant -/
theorem q_shrc (ho : o.op = .binOp .shr T x y U) (hx : ev L x = some (.int k m)) (hy : ev L y = some (.int yk n)) (h : 0 ≤ n) (hd : (2 : Int) ^ min n.toNat k.bits = d) : QOp P L o (.int k (m / d)) := by
  have := q_shr (P := P) ho hx hy h; rw [hd] at this; exact this
theorem q_shlc (ho : o.op = .binOp .shl T x y U) (hx : ev L x = some (.int k m)) (hy : ev L y = some (.int yk n)) (h : 0 ≤ n) (hd : (2 : Int) ^ min n.toNat k.bits = d) : QOp P L o (.int k (k.wrap (m * d))) := by
  have := q_shl (P := P) ho hx hy h; rw [hd] at this; exact this
theorem q_shlcw (ho : o.op = .binOp .shl T x y U) (hx : ev L x = some (.int k m)) (hy : ev L y = some (.int yk n)) (h : 0 ≤ n) (hd : (2 : Int) ^ min n.toNat k.bits = d) (h0 : 0 ≤ m * d) (h2 : m * d < 2 ^ lim k) : QOp P L o (.int k (m * d)) := by
  have := q_shlc (P := P) ho hx hy h hd; rw [wrap_lim h0 h2] at this; exact this
/-- a mask of the lowest bits -/
theorem q_andm {j : Nat} (ho : o.op = .binOp .and T x y U) (hx : ev L x = some (.int k m)) (hy : ev L y = some (.int k n)) (h0 : 0 ≤ m) (h : m < 2 ^ lim k) (hn : n = 2 ^ j - 1) (hd : (2 : Int) ^ j = d) (hj : j ≤ lim k) : QOp P L o (.int k (m % d)) := by
  have := q_and (P := P) ho hx hy
  subst hn; subst hd
  have e1 : ((m.toNat : Nat) : Int) = m := Int.toNat_of_nonneg h0
  have hp : 0 < 2 ^ j := Nat.pow_pos (n := j) (by omega : 0 < 2)
  have e2 : ((2 ^ j - 1 : Nat) : Int) = (2 : Int) ^ j - 1 := by rw [Int.natCast_sub (by omega)]; simp
  have h3 : 2 ^ j ≤ 2 ^ lim k := Nat.pow_le_pow_right (by omega) hj
  have e3 := bits_and_lim (k := k) (a := m.toNat) (b := 2 ^ j - 1) (int_lt_pow h0 h) (by omega)
  rw [e1, e2] at e3
  rw [e3, Nat.and_two_pow_sub_one_eq_mod] at this
  have e4 : ((m.toNat % 2 ^ j : Nat) : Int) = m % 2 ^ j := by rw [Int.natCast_emod, e1]; simp
  rw [e4] at this
  exact this
/-- bits beside bits -/
theorem q_ord {j : Nat} (ho : o.op = .binOp .or T x y U) (hx : ev L x = some (.int k m)) (hy : ev L y = some (.int k n)) (hd : (2 : Int) ^ j = d) (h0 : 0 ≤ m ∧ m % d = 0) (h : m < 2 ^ lim k) (hn : 0 ≤ n ∧ n < d) (hj : j ≤ lim k) : QOp P L o (.int k (m + n)) := by
  have := q_or (P := P) ho hx hy
  subst hd
  have e1 : ((m.toNat : Nat) : Int) = m := Int.toNat_of_nonneg h0.1
  have e2 : ((n.toNat : Nat) : Int) = n := Int.toNat_of_nonneg hn.1
  have hn2 : n.toNat < 2 ^ j := int_lt_pow hn.1 hn.2
  have h3 : 2 ^ j ≤ 2 ^ lim k := Nat.pow_le_pow_right (by omega) hj
  have e3 := bits_or_lim (k := k) (a := m.toNat) (b := n.toNat) (int_lt_pow h0.1 h) (by omega)
  rw [e1, e2] at e3
  obtain ⟨q, hq⟩ : ∃ q, m.toNat = 2 ^ j * q := by
    have h4 : m.toNat % 2 ^ j = 0 := by
      have : ((m.toNat % 2 ^ j : Nat) : Int) = 0 := by rw [Int.natCast_emod, e1]; simpa using h0.2
      omega
    exact ⟨m.toNat / 2 ^ j, by have := Nat.div_add_mod m.toNat (2 ^ j); omega⟩
  have e4 : m.toNat ||| n.toNat = m.toNat + n.toNat := by rw [hq, Nat.two_pow_add_eq_or_of_lt hn2]
  rw [e3, e4] at this
  have e5 : ((m.toNat + n.toNat : Nat) : Int) = m + n := by omega
  rw [e5] at this
  exact this
theorem q_neg (ho : o.op = .unOp .neg T x) (hx : ev L x = some (.int k m)) : QOp P L o (.int k (k.wrap (0 - m))) := q_un ho hx fun w => rfl
theorem q_com (ho : o.op = .unOp .xor T x) (hx : ev L x = some (.int k m)) : QOp P L o (.int k (bits .xor k (if k.signed then -1 else k.max) m)) := q_un ho hx fun w => by simp [Op.unary, go_sem]

/-- a byte of an integer -/
def u8i (x : Int) : UInt8 := UInt8.ofNat (x % 256).toNat
theorem wrap_u8 (x : Int) : IntKind.u8.wrap x = ((u8i x).toNat : Int) := by
  unfold u8i; simp [IntKind.wrap, IntKind.signed, IntKind.bits]
  omega
theorem u8i_toNat (c : UInt8) : u8i (c.toNat : Int) = c := by
  apply UInt8.toNat_inj.1; unfold u8i; simp
  have := c.toNat_lt
  omega
theorem q_conv_u8 {S : TypeId} {j : IntKind} (ho : o.op = .convert S T x) (hx : ev L x = some (.int j n)) (hs : (P.underlying S).isSome = true) (hk : intK P T = some .u8) : QOp P L o (.int .u8 ((u8i n).toNat : Int)) := by
  have := q_conv (P := P) ho hx hs hk; rw [wrap_u8] at this; exact this
/- slices of slices -/
theorem sliced_run {t e sz len cap lo hi : Nat} {ad : Option Addr} (hs : sliceE P t = some e) (hz : sizeB P e = some sz) (low high : Option Value) (w : World)
    (h1 : match low with | none => lo = 0 | some y => ∃ k, y = .int k (lo : Int)) (h2 : match high with | none => hi = len | some y => ∃ k, y = .int k (hi : Int))
    (h : lo ≤ hi) (hc : hi ≤ cap) (hl : lo ≤ len) : (Instr.sliceAt t (.slice ad len cap) low high none).run P w = .ok (.slice (if cap = lo then ad else ad.map (·.add (lo * sz))) (hi - lo) (cap - lo)) w := by
  have hu := sliceE_spec hs
  have hsz : ∀ w, (sizeOf e : Sem Nat).run P w = .ok sz w := fun w => by
    unfold sizeB at hz
    cases hi : P.info? e with
    | none => rw [hi] at hz; cases hz
    | some i => rw [hi] at hz; simp at hz; simp [sizeOf, typeInfo, hi, hz]
  have a1 : ¬ hi < lo := by omega
  have a2 : (lo : Int) ≤ hi := by omega
  have a3 : (hi : Int) ≤ cap := by omega
  have a4 : (lo : Int) ≤ len := by omega
  cases low <;> cases high <;> simp only at h1 h2
  · subst h1; subst h2
    simp [Instr.sliceAt, run_underlying hu, Instr.slice, Instr.sliceBounds, hsz]
  · subst h1; obtain ⟨k2, rfl⟩ := h2
    simp [Instr.sliceAt, run_underlying hu, Instr.slice, Instr.sliceBounds, Instr.sliceBound, asIntOf, hsz, a1, a2, a3, a4, hc]
  · subst h2; obtain ⟨k1, rfl⟩ := h1
    simp [Instr.sliceAt, run_underlying hu, Instr.slice, Instr.sliceBounds, Instr.sliceBound, asIntOf, hsz, a1, a2, a3, a4, hl]
  · obtain ⟨k1, rfl⟩ := h1; obtain ⟨k2, rfl⟩ := h2
    simp [Instr.sliceAt, run_underlying hu, Instr.slice, Instr.sliceBounds, Instr.sliceBound, asIntOf, hsz, a1, a2, a3, a4, hc, h]
theorem q_slsl_hi {t e sz len cap b : Nat} {ad : Option Addr} {k : IntKind} (ho : o.op = .slice t x none (some y) none) (hx : ev L x = some (.slice ad len cap)) (hy : ev L y = some (.int k (b : Int))) (hs : sliceE P t = some e) (hz : sizeB P e = some sz) (h : b ≤ cap) : QOp P L o (.slice ad b cap) := by
  intro N D ac w hf
  unfold execOp; rw [ho]
  have := sliced_run (ad := ad) (len := len) (lo := 0) (hi := b) (cap := cap) hs hz none (some (.int k b)) w rfl ⟨k, rfl⟩ (Nat.zero_le _) h (Nat.zero_le _)
  simp only [hf.ev hx, hf.ev hy, Option.map_none, Option.map_some, Sem.run_bind] at this ⊢
  rw [this]
  have e1 : (if cap = 0 then ad else ad.map (·.add (0 * sz))) = ad := by
    split
    · rfl
    · cases ad <;> simp [Addr.add]
  simp only [Nat.sub_zero, e1]
  rfl
theorem q_slsl_lo {t e sz len cap b off l : Nat} {k : IntKind} (ho : o.op = .slice t x (some y) none none) (hx : ev L x = some (.slice (some ⟨b, off, none⟩) len cap)) (hy : ev L y = some (.int k (l : Int))) (hs : sliceE P t = some e) (hz : sizeB P e = some sz) (h : l ≤ len ∧ l < cap ∧ len ≤ cap) : QOp P L o (.slice (some ⟨b, off + l * sz, none⟩) (len - l) (cap - l)) := by
  intro N D ac w hf
  unfold execOp; rw [ho]
  have := sliced_run (ad := some ⟨b, off, none⟩) (len := len) (lo := l) (hi := len) (cap := cap) hs hz (some (.int k l)) none w ⟨k, rfl⟩ rfl h.1 h.2.2 h.1
  simp only [hf.ev hx, hf.ev hy, Option.map_none, Option.map_some, Sem.run_bind] at this ⊢
  rw [this, if_neg (by omega)]
  simp [Addr.add_lit]
end

/- plain -/
theorem take_snoc {α : Type} {l : List α} {k : Nat} {c : α} (h : l[k]? = some c) : l.take (k + 1) = l.take k ++ [c] := by
  rw [List.take_add_one, h]; rfl
theorem revInd {α : Type} {motive : List α → Prop} (l : List α) (nil : motive []) (snoc : ∀ (l : List α) (a : α), motive l → motive (l ++ [a])) : motive l := by
  rw [← List.reverse_reverse l]
  induction l.reverse with
  | nil => exact nil
  | cons a r ih => rw [List.reverse_cons]; exact snoc _ _ ih
theorem get_some {α : Type} {l : List α} {k : Nat} (h : k < l.length) : ∃ c, l[k]? = some c := ⟨_, List.getElem?_eq_getElem h⟩
theorem u8_lt (c : UInt8) : (c.toNat : Int) < 256 := by have := c.toNat_lt; omega
end Go.Eng
/-
  Plain: sums (numbers as bytes, Adler's sum, digits), no program in sight.
-/
set_option linter.unusedVariables false
namespace Go.Eng
namespace Sums
def fromBig (s : List UInt8) : Int := s.foldl (fun x c => x * 256 + (c.toNat : Int)) 0
theorem fromBig_snoc (s : List UInt8) (c : UInt8) : fromBig (s ++ [c]) = fromBig s * 256 + c.toNat := by simp [fromBig]
theorem fromBig_lt (s : List UInt8) : 0 ≤ fromBig s ∧ fromBig s < 256 ^ s.length := by
  induction s using revInd with
  | nil => simp [fromBig]
  | snoc s c ih =>
    rw [fromBig_snoc, List.length_append, List.length_singleton, Int.pow_succ]
    have := u8_lt c
    generalize (256 : Int) ^ s.length = p at *
    omega
theorem pow_le {a b : Nat} (h : a ≤ b) : (256 : Int) ^ a ≤ 256 ^ b := by
  have : (256 : Nat) ^ a ≤ 256 ^ b := Nat.pow_le_pow_right (by omega) h
  have h2 := Int.ofNat_le.2 this
  rw [Int.natCast_pow, Int.natCast_pow] at h2
  exact h2
theorem fromBig_lt' {s : List UInt8} {j : Nat} (h : s.length ≤ j) : 0 ≤ fromBig s ∧ fromBig s < 256 ^ j :=
  ⟨(fromBig_lt s).1, Int.lt_of_lt_of_le (fromBig_lt s).2 (pow_le h)⟩
def fromLittle : List UInt8 → Int
  | [] => 0
  | c :: s => c.toNat + 256 * fromLittle s
theorem fromLittle_snoc (s : List UInt8) (c : UInt8) : fromLittle (s ++ [c]) = fromLittle s + c.toNat * 256 ^ s.length := by
  induction s with
  | nil => simp [fromLittle]
  | cons d s ih =>
    simp only [List.cons_append, fromLittle, ih, List.length_cons, Int.pow_succ]
    rw [Int.mul_add, Int.add_assoc]
    congr 2
    rw [Int.mul_left_comm, Int.mul_comm 256]
theorem fromLittle_lt (s : List UInt8) : 0 ≤ fromLittle s ∧ fromLittle s < 256 ^ s.length := by
  induction s with
  | nil => simp [fromLittle]
  | cons c s ih =>
    simp only [fromLittle, List.length_cons, Int.pow_succ]
    have := u8_lt c
    generalize (256 : Int) ^ s.length = p at *
    omega
theorem fromLittle_lt' {s : List UInt8} {j : Nat} (h : s.length ≤ j) : 0 ≤ fromLittle s ∧ fromLittle s < 256 ^ j :=
  ⟨(fromLittle_lt s).1, Int.lt_of_lt_of_le (fromLittle_lt s).2 (pow_le h)⟩
theorem little_or (s : List UInt8) (c : UInt8) (h : s.length < 8) : bits .or .u64 (fromLittle s) (IntKind.u64.wrap ((c.toNat : Int) * 2 ^ min (8 * (s.length : Int)).toNat IntKind.u64.bits)) = fromLittle (s ++ [c]) := by
  rw [fromLittle_snoc]
  have e1 : (8 * (s.length : Int)).toNat = 8 * s.length := by omega
  rw [e1]
  have e := shl_nat (k := .u64) (n := 64) rfl rfl (a := c.toNat) (c := 8 * s.length) (by omega) (by
    have h1 := c.toNat_lt
    have h2 : c.toNat * 2 ^ (8 * s.length) < 2 ^ 8 * 2 ^ (8 * s.length) := Nat.mul_lt_mul_of_pos_right h1 (Nat.pow_pos (by omega))
    rw [← Nat.pow_add] at h2
    exact Nat.lt_of_lt_of_le h2 (Nat.pow_le_pow_right (by omega) (by omega)))
  rw [Int.toNat_natCast] at e
  rw [e]
  have h3 := fromLittle_lt s
  have h4 : (256 : Int) ^ s.length = ((2 ^ (8 * s.length) : Nat) : Int) := by rw [Nat.pow_mul]; simp
  rw [h4] at h3 ⊢
  have e5 : ((fromLittle s).toNat : Int) = fromLittle s := Int.toNat_of_nonneg h3.1
  have h5 : (fromLittle s).toNat < 2 ^ (8 * s.length) := by omega
  have h6 : 2 ^ (8 * s.length) < 2 ^ 64 := Nat.pow_lt_pow_right (by omega) (by omega)
  rw [← e5, bits_or_nat (n := 64) rfl rfl (by omega)]
  · rw [Nat.shiftLeft_eq, Nat.or_comm, Nat.mul_comm, ← Nat.two_pow_add_eq_or_of_lt h5]
    rw [Int.natCast_add, Int.natCast_mul, Int.mul_comm]
    omega
  · rw [Nat.shiftLeft_eq]
    have h1 := c.toNat_lt
    have h2 : c.toNat * 2 ^ (8 * s.length) < 2 ^ 8 * 2 ^ (8 * s.length) := Nat.mul_lt_mul_of_pos_right h1 (Nat.pow_pos (by omega))
    rw [← Nat.pow_add] at h2
    exact Nat.lt_of_lt_of_le h2 (Nat.pow_le_pow_right (by omega) (by omega))
/-- a number in n bytes -/
def big (x : Int) (n : Nat) : List UInt8 := (List.range n).map fun i => u8i (x / 2 ^ (8 * (n - 1 - i)))
def little (x : Int) (n : Nat) : List UInt8 := (List.range n).map fun i => u8i (x / 2 ^ (8 * i))
theorem range_take {α : Type} (f : Nat → α) (k : Nat) : (List.range (k + 1)).map f = (List.range k).map f ++ [f k] := by simp [List.range_succ]
/-- Adler's sum -/
def adlerStep (p : Int × Int) (c : UInt8) : Int × Int := ((p.1 + c.toNat) % 65521, (p.2 + (p.1 + c.toNat) % 65521 + 1) % 65521)
def adlerP (s : List UInt8) : Int × Int := s.foldl adlerStep (0, 0)
def adler (s : List UInt8) : Int := (adlerP s).2 * 65536 + ((adlerP s).1 + 1) % 65521
theorem adlerP_snoc (s : List UInt8) (c : UInt8) : adlerP (s ++ [c]) = adlerStep (adlerP s) c := by simp [adlerP]
theorem adlerP_lt (s : List UInt8) : (0 ≤ (adlerP s).1 ∧ (adlerP s).1 < 65521) ∧ 0 ≤ (adlerP s).2 ∧ (adlerP s).2 < 65521 := by
  induction s using revInd with
  | nil => simp [adlerP]
  | snoc s c ih => rw [adlerP_snoc]; unfold adlerStep; simp only; omega
theorem adler_lt (s : List UInt8) : 0 ≤ adler s ∧ adler s < 4294967296 := by
  have := adlerP_lt s
  unfold adler; omega
/-- digits -/
def digit (c : UInt8) : Int := if 48 ≤ c.toNat ∧ c.toNat ≤ 57 then (c.toNat : Int) - 48 else if 97 ≤ c.toNat ∧ c.toNat ≤ 102 then (c.toNat : Int) - 97 + 10 else -1
def hexDigit (n : Nat) : UInt8 := [48, 49, 50, 51, 52, 53, 54, 55, 56, 57, 97, 98, 99, 100, 101, 102].getD n 0
def hex (s : List UInt8) : List UInt8 := s.flatMap fun c => [hexDigit (c.toNat / 16), hexDigit (c.toNat % 16)]
theorem hex_len (s : List UInt8) : (hex s).length = 2 * s.length := by
  induction s with
  | nil => rfl
  | cons c s ih => simp [hex] at ih ⊢; omega
theorem hex_snoc (s : List UInt8) (c : UInt8) : hex (s ++ [c]) = hex s ++ [hexDigit (c.toNat / 16), hexDigit (c.toNat % 16)] := by simp [hex]
theorem hexDigit_get {n : Nat} (h : n < 16) : ([48, 49, 50, 51, 52, 53, 54, 55, 56, 57, 97, 98, 99, 100, 101, 102] : List UInt8)[n]? = some (hexDigit n) := by
  unfold hexDigit; rw [List.getD_eq_getElem?_getD, List.getElem?_eq_getElem (by simpa using h)]; rfl
def unhexGo : List UInt8 → List UInt8 → Option (List UInt8)
  | a :: b :: s, out => if digit a < 0 ∨ digit b < 0 then none else unhexGo s (out ++ [u8i (digit a * 16 + digit b)])
  | [_], _ => none
  | [], out => some out
def unhex (s : List UInt8) : Option (List UInt8) := unhexGo s []
end Sums
end Go.Eng
/-
  Plain: codes by their lengths (huff), no program in sight.
-/
set_option linter.unusedVariables false
namespace Go.Eng
def iv (n : Nat) : Value := .int .i64 n
namespace Huff
/-- the symbols ahead of j that have length m -/
def idxTo (ls : List Nat) (m j : Nat) : List Nat := (List.range j).filter fun s => ls[s]? == some m
theorem idxTo_succ (ls : List Nat) (m j : Nat) : idxTo ls m (j + 1) = if ls[j]? = some m then idxTo ls m j ++ [j] else idxTo ls m j := by
  unfold idxTo; rw [List.range_succ, List.filter_append]
  split <;> simp [*]
theorem idxTo_len (ls : List Nat) (m j : Nat) (h : j ≤ ls.length) : (idxTo ls m j).length = (ls.take j).count m := by
  induction j with
  | zero => rfl
  | succ j ih =>
    obtain ⟨c, hc⟩ := get_some (l := ls) (k := j) (by omega)
    rw [idxTo_succ, take_snoc hc, List.count_append, hc]
    by_cases hm : c = m
    · subst hm; simp [ih (by omega)]
    · rw [if_neg (by simpa using hm), ih (by omega)]; simp [List.count_singleton, hm]
def sortedTo (ls : List Nat) : Nat → List Nat
  | 0 => []
  | n + 1 => sortedTo ls n ++ idxTo ls (n + 1) ls.length
def sorted (ls : List Nat) : List Nat := sortedTo ls 15
theorem sortedTo_len_succ (ls : List Nat) (n : Nat) : (sortedTo ls (n + 1)).length = (sortedTo ls n).length + ls.count (n + 1) := by
  rw [sortedTo, List.length_append, idxTo_len _ _ _ (Nat.le_refl _), List.take_length]
theorem sortedTo_mono (ls : List Nat) {a b : Nat} (h : a ≤ b) : (sortedTo ls a).length ≤ (sortedTo ls b).length := by
  induction b with
  | zero => rw [show a = 0 by omega]; exact Nat.le_refl _
  | succ b ih =>
    rcases Nat.lt_or_ge a (b + 1) with h1 | h1
    · rw [sortedTo_len_succ]; have := ih (by omega); omega
    · rw [show a = b + 1 by omega]; exact Nat.le_refl _
theorem count_le (ls : List Nat) (m : Nat) : ls.count m ≤ ls.length := List.count_le_length
theorem sortedTo_le (ls : List Nat) (n : Nat) : (sortedTo ls n).length ≤ ls.length * n := by
  induction n with
  | zero => simp [sortedTo]
  | succ n ih => rw [sortedTo_len_succ, Nat.mul_succ]; have := count_le ls (n + 1); omega
def leftTo (ls : List Nat) : Nat → Int
  | 0 => 1
  | n + 1 => 2 * leftTo ls n - (ls.count (n + 1) : Nat)
def codesTo (ls : List Nat) : Nat → Int
  | 0 => 0
  | n + 1 => codesTo ls n + (ls.count (n + 1) : Nat)
theorem leftTo_le (ls : List Nat) (n : Nat) : leftTo ls n ≤ 2 ^ n := by
  induction n with
  | zero => simp [leftTo]
  | succ n ih => rw [leftTo, Int.pow_succ]; omega
theorem leftTo_le' (ls : List Nat) {n : Nat} (h : n ≤ 15) : leftTo ls n ≤ 32768 := by
  have h1 := leftTo_le ls n
  have h2 : (2 : Nat) ^ n ≤ 2 ^ 15 := Nat.pow_le_pow_right (by omega) h
  have h3 := Int.ofNat_le.2 h2
  rw [Int.natCast_pow, Int.natCast_pow] at h3
  have h4 : ((2 : Nat) : Int) ^ 15 = 32768 := by decide
  rw [h4] at h3
  exact Int.le_trans h1 h3
theorem codesTo_eq (ls : List Nat) (n : Nat) : codesTo ls n = ((sortedTo ls n).length : Nat) := by
  induction n with
  | zero => rfl
  | succ n ih => rw [codesTo, ih, sortedTo_len_succ]; omega
theorem codesTo_le (ls : List Nat) (n : Nat) : 0 ≤ codesTo ls n ∧ codesTo ls n ≤ (ls.length * n : Nat) := by
  rw [codesTo_eq]; have := sortedTo_le ls n; omega
/-- whether the lengths are no code's -/
def bad (ls : List Nat) : Bool := (List.range 15).any (fun n => leftTo ls (n + 1) < 0) || (decide (0 < leftTo ls 15) && decide (0 < codesTo ls 15) && !(decide (codesTo ls 15 = 1) && decide (ls.count 1 = 1)))
theorem bad_neg {ls : List Nat} {n : Nat} (hn : n < 15) (h : leftTo ls (n + 1) < 0) : bad ls = true := by
  unfold bad; rw [Bool.or_eq_true]; left; rw [List.any_eq_true]; exact ⟨n, by simpa using hn, by simpa using h⟩
theorem bad_end {ls : List Nat} (h : ∀ n, n < 15 → 0 ≤ leftTo ls (n + 1)) : bad ls = (decide (0 < leftTo ls 15) && decide (0 < codesTo ls 15) && !(decide (codesTo ls 15 = 1) && decide (ls.count 1 = 1))) := by
  unfold bad
  have : (List.range 15).any (fun n => decide (leftTo ls (n + 1) < 0)) = false := by
    rw [List.any_eq_false]; intro n hn; have := h n (by simpa using hn); simp; omega
  rw [this]; rfl
def readGo (ls S : List Nat) : Nat → Nat → Nat → Nat → Nat → RD → RD × Nat × Nat
  | 0, _, _, _, _, r => (r, 0, 3)
  | f + 1, n, code, first, at_, r =>
    if (r.bits 1).2.2 = false then ((r.bits 1).1, 0, 6)
    else if code * 2 + (r.bits 1).2.1 < first + ls.count n then ((r.bits 1).1, S.getD (at_ + (code * 2 + (r.bits 1).2.1 - first)) 0, 0)
    else if at_ + ls.count n = S.length then ((r.bits 1).1, 0, 3)
    else readGo ls S f (n + 1) (code * 2 + (r.bits 1).2.1) ((first + ls.count n) * 2) (at_ + ls.count n) (r.bits 1).1
def read (ls : List Nat) (r : RD) : RD × Nat × Nat := if (sorted ls).length = 0 then (r, 0, 3) else readGo ls (sorted ls) 15 1 0 0 0 r
def codeRow (S : List Nat) (sym : Nat) : Nat → Nat → Nat → Option Nat
  | 0, _, _ => none
  | c + 1, code, at_ => if S[at_]? = some sym then some code else codeRow S sym c (code + 1) (at_ + 1)
def codeGo (ls S : List Nat) (sym : Nat) : Nat → Nat → Nat → Nat → Nat × Nat
  | 0, _, _, _ => (0, 0)
  | f + 1, n, code, at_ => match codeRow S sym (ls.count n) (2 * code) at_ with
    | some c => (c, n)
    | none => codeGo ls S sym f (n + 1) (2 * code + ls.count n) (at_ + ls.count n)
def code (ls : List Nat) (sym : Nat) : Nat × Nat := codeGo ls (sorted ls) sym 15 1 0 0
/-- the table's counts as cells -/
def cntC (ls : List Nat) : List Value := (List.range 16).map fun i => iv (ls.count i)
theorem cntC_len (ls : List Nat) : (cntC ls).length = 16 := by simp [cntC]
theorem nth_cnt (ls : List Nat) {i : Nat} {u v : Value} (h : i < 16) : nth (v :: (cntC ls ++ [u])) (1 + i * 1) = some (iv (ls.count i)) := by
  rw [nth_eq, Nat.mul_one, Nat.add_comm, List.getElem?_cons_succ, List.getElem?_append_left (by rw [cntC_len]; exact h)]
  simp [cntC, h]
theorem nth_cnt17 (ls : List Nat) {u v : Value} : nth (v :: (cntC ls ++ [u])) 17 = some u := by
  rw [nth_eq, List.getElem?_cons_succ, List.getElem?_append_right (by rw [cntC_len]; exact Nat.le_refl _), cntC_len]; rfl
theorem set_of {cs : List Value} {i : Nat} {x : Value} (h : i < cs.length) : SetAt cs i x (cs.set i x) := by
  induction cs generalizing i with
  | nil => simp at h
  | cons c cs ih => cases i with
    | zero => exact .zero
    | succ i => exact .succ (ih (by simpa using h))
theorem cntC_snoc (ls : List Nat) {i : Nat} (h : i < 16) : (cntC ls).set i (.int .i64 ((ls.count i : Nat) + 1 : Int)) = cntC (ls ++ [i]) := by
  apply List.ext_getElem?
  intro j
  rw [List.getElem?_set]
  split
  · rename_i e; subst e
    rw [if_pos (by rw [cntC_len]; exact h)]
    simp [cntC, h, iv]
  · rename_i e
    simp only [cntC, List.getElem?_map, List.getElem?_range]
    by_cases hj : j < 16
    · simp [hj, List.count_append, List.count_singleton, e]
    · simp [hj]
theorem set_cnt (ls : List Nat) {i : Nat} {u v : Value} (h : i < 16) : SetAt (v :: (cntC ls ++ [u])) (1 + i * 1) (.int .i64 ((ls.count i : Nat) + 1 : Int)) (v :: (cntC (ls ++ [i]) ++ [u])) := by
  rw [Nat.mul_one, Nat.add_comm]
  refine .succ ?_
  have := set_of (cs := cntC ls ++ [u]) (i := i) (x := .int .i64 ((ls.count i : Nat) + 1 : Int)) (by simp [cntC_len]; omega)
  rw [List.set_append, if_pos (by rw [cntC_len]; exact h), cntC_snoc ls h] at this
  exact this
theorem set_cnt17 (ls : List Nat) {u v x : Value} : SetAt (v :: (cntC ls ++ [u])) 17 x (v :: (cntC ls ++ [x])) := by
  refine .succ ?_
  have := set_of (cs := cntC ls ++ [u]) (i := 16) (x := x) (by simp [cntC_len])
  rw [List.set_append, if_neg (by rw [cntC_len]; omega), cntC_len] at this
  exact this
end Huff
theorem nth_sliceL {cs xs : List Value} {off n i : Nat} {x : Value} (h : sliceL cs off n = xs) (hx : xs[i]? = some x) : nth cs (off + i * 1) = some x := by
  rw [nth_eq, Nat.mul_one]
  subst h
  simp only [sliceL, List.getElem?_take, List.getElem?_drop] at hx
  split at hx
  · exact hx
  · cases hx
theorem get_iv {ls : List Nat} {i c : Nat} (h : ls[i]? = some c) : (ls.map iv)[i]? = some (.int .i64 (c : Int)) := by rw [List.getElem?_map, h]; rfl
theorem own_snocI {e : Nat} {u : Value} {l : List Nat} {n : Nat} : own e 1 u (l.length + 1) (l.map iv ++ [.int .i64 (n : Int)]) = own e 1 u (l ++ [n]).length ((l ++ [n]).map iv) := by
  simp [iv]
theorem iv_one (l : List Nat) : ∀ u ∈ l.map iv, u.oneCell' = true := by
  intro u hu; obtain ⟨c, _, rfl⟩ := List.mem_map.1 hu; rfl
theorem RD.bits_lt (r : RD) (n : Nat) : (r.bits n).2.1 < 2 ^ n := by
  unfold RD.bits; split
  · exact Nat.pow_pos (by omega)
  · exact Nat.mod_lt _ (Nat.pow_pos (by omega))
theorem nth_take {cur xs : List Value} {n i : Nat} {x : Value} (h : cur.take (n * 1) = xs) (hx : xs[i]? = some x) : nth cur i = some x := by
  rw [nth_eq]; subst h
  rw [List.getElem?_take] at hx
  split at hx
  · exact hx
  · cases hx
theorem getD_iv {S : List Nat} {i : Nat} (h : i < S.length) : S[i]? = some (S.getD i 0) := by
  rw [List.getD_eq_getElem?_getD, List.getElem?_eq_getElem h]; rfl
theorem CG.ownShape {P : Program} {w0 : World} {N : Nat} {Q : Exit → Act → World → Prop} {D : List Deferred} {L : List (Nat × Value)} {H : List HP} {c : Code} {T sz n : Nat} (v : Value) {xs : List Value} {H1 : List HP} (ht : Take H (own T sz v n xs) H1) (k : ∀ ad c', v = .slice ad n c' → CG P w0 N c Q D L H) : CG P w0 N c Q D L H := by
  intro a w hf hw
  obtain ⟨h1, h2, ad, c', h3⟩ := (hw.take1 ht).ownLen
  exact k ad c' h3 a w hf hw
end Go.Eng
/-
  Plain: RFC 1951 read (inflate), no program in sight.
-/
set_option linter.unusedVariables false
namespace Go.Eng
theorem shl_lim {k : IntKind} {a c : Nat} (hc : c ≤ k.bits) (h : a * 2 ^ c < 2 ^ lim k) : k.wrap ((a : Int) * 2 ^ min ((c : Int)).toNat k.bits) = ((a * 2 ^ c : Nat) : Int) := by
  rw [Int.toNat_natCast, Nat.min_eq_left hc]
  have e : ((a : Int) * 2 ^ c) = ((a * 2 ^ c : Nat) : Int) := by simp
  rw [e]
  refine wrap_lim (by omega) ?_
  have h2 := Int.ofNat_lt.2 h
  rw [Int.natCast_pow] at h2
  exact h2
namespace RD
theorem fill_left (n : Nat) (r : RD) (hr : r.Ok) (hn : n ≤ 32) : (r.fill n).left = r.left := by
  induction r using RD.fill.induct n with
  | case1 r h ih =>
    rw [RD.fill, dif_pos h, ih (hr.step (by omega) h.2)]
    have := hr.pos
    obtain ⟨c, hc⟩ := get_some h.2
    unfold RD.step left; rw [hc]; simp only; omega
  | case2 r h => rw [RD.fill, dif_neg h]
theorem bits_left {r : RD} (hr : r.Ok) {n : Nat} (hn : n ≤ 32) (h : (r.bits n).2.2 = true) : (r.bits n).1.left + n = r.left := by
  have hf := fill_left n r hr hn
  unfold bits at h ⊢
  split at h
  · cases h
  · rw [if_neg (by assumption)]
    simp only [took, left] at hf ⊢
    omega
theorem bits_left_le {r : RD} (hr : r.Ok) {n : Nat} (hn : n ≤ 32) : (r.bits n).1.left ≤ r.left := by
  have hf := fill_left n r hr hn
  unfold bits
  split
  · show (r.fill n).left ≤ _; omega
  · simp only [took, left] at hf ⊢; omega
theorem bytes_left_le {r : RD} (hr : r.Ok) (n : Nat) : (r.bytes n).1.left ≤ r.left := by
  have h1 := hr.hav
  have h2 := hr.pos
  have h3 := hr.begun
  have hf := from_le hr
  unfold bytes
  split
  · simp only [align, took, left]; omega
  · simp only [left, from_, align, took] at *; omega
theorem bytes_len {r : RD} (hr : r.Ok) {n : Nat} (h : (r.bytes n).2.2 = true) : (r.bytes n).2.1.length = n := by
  have hf := from_le hr
  unfold bytes at h ⊢
  split at h
  · cases h
  · rw [if_neg (by assumption)]; simp; omega
theorem left_div {r : RD} (hr : r.Ok) : r.left / 8 ≤ r.s.length := by
  have h1 := hr.pos
  have h2 := hr.begun
  unfold left; omega
end RD
namespace Huff
theorem readGo_ok (ls S : List Nat) (f : Nat) : ∀ (n code first att : Nat) (r : RD), r.Ok → (readGo ls S f n code first att r).1.Ok ∧ (readGo ls S f n code first att r).1.left ≤ r.left ∧ ((readGo ls S f n code first att r).2.2 = 0 → (readGo ls S f n code first att r).1.left < r.left) := by
  induction f with
  | zero => intro n code first att r hr; exact ⟨hr, Nat.le_refl _, fun h => by simp [readGo] at h⟩
  | succ f ih =>
    intro n code first att r hr
    have h1 := RD.bits_ok hr (n := 1) (by omega)
    have h2 := RD.bits_left_le hr (n := 1) (by omega)
    unfold readGo
    split
    · exact ⟨h1, h2, fun h => by simp at h⟩
    · rename_i hb
      have h3 := RD.bits_left hr (n := 1) (by omega) (by simpa using hb)
      split
      · exact ⟨h1, h2, fun _ => by simp only; omega⟩
      · split
        · exact ⟨h1, h2, fun h => by simp at h⟩
        · have := ih (n + 1) (code * 2 + (r.bits 1).2.1) ((first + ls.count n) * 2) (att + ls.count n) (r.bits 1).1 h1
          exact ⟨this.1, by omega, fun h => by have := this.2.1; omega⟩
theorem read_ok (ls : List Nat) {r : RD} (hr : r.Ok) : (read ls r).1.Ok ∧ (read ls r).1.left ≤ r.left ∧ ((read ls r).2.2 = 0 → (read ls r).1.left < r.left) := by
  unfold read; split
  · exact ⟨hr, Nat.le_refl _, fun h => by simp at h⟩
  · exact readGo_ok _ _ _ _ _ _ _ r hr
end Huff
namespace Infl
def fixedLen (i : Nat) : Nat := if i < 144 then 8 else if 280 ≤ i then 8 else if i < 256 then 9 else 7
def fixedLit : List Nat := (List.range 288).map fixedLen
def fixedDist : List Nat := (List.range 32).map fun _ => 5
theorem lit_bad : Huff.bad fixedLit = false := by kernel_rfl
theorem dist_bad : Huff.bad fixedDist = false := by kernel_rfl
theorem lit_sorted : (Huff.sorted fixedLit).length = 288 := by kernel_rfl
theorem dist_sorted : (Huff.sorted fixedDist).length = 32 := by kernel_rfl
theorem lit_len : fixedLit.length = 288 := by simp [fixedLit]
theorem dist_len : fixedDist.length = 32 := by simp [fixedDist]
theorem lit_le : ∀ x ∈ fixedLit, x ≤ 15 := by
  intro x hx; obtain ⟨i, _, rfl⟩ := List.mem_map.1 hx; unfold fixedLen; split
  · omega
  · split
    · omega
    · split <;> omega
theorem dist_le : ∀ x ∈ fixedDist, x ≤ 15 := by
  intro x hx; obtain ⟨i, _, rfl⟩ := List.mem_map.1 hx; omega
def order : List Nat := [16, 17, 18, 0, 8, 7, 9, 6, 10, 5, 11, 4, 12, 3, 13, 2, 14, 1, 15]
def lengthBase (i : Nat) : Nat × Nat := if i = 28 then (258, 0) else if i < 8 then (3 + i, 0) else (3 + (4 + i % 4) * 2 ^ (i / 4 - 1), i / 4 - 1)
def distBase (i : Nat) : Nat × Nat := if i < 4 then (1 + i, 0) else (1 + (2 + i % 2) * 2 ^ (i / 2 - 1), i / 2 - 1)
theorem two_pow_le {a b : Nat} (h : a ≤ b) : 2 ^ a ≤ 2 ^ b := Nat.pow_le_pow_right (by omega) h
theorem lengthBase_le {i : Nat} (h : i ≤ 28) : 3 ≤ (lengthBase i).1 ∧ (lengthBase i).1 ≤ 1000 ∧ (lengthBase i).2 ≤ 6 := by
  unfold lengthBase
  split
  · simp
  · split
    · simp; omega
    · have h1 : (4 + i % 4) * 2 ^ (i / 4 - 1) ≤ 7 * 2 ^ 6 := Nat.mul_le_mul (by omega) (two_pow_le (by omega))
      simp only; omega
theorem distBase_le {i : Nat} (h : i ≤ 29) : 1 ≤ (distBase i).1 ∧ (distBase i).1 ≤ 100000 ∧ (distBase i).2 ≤ 13 := by
  unfold distBase
  split
  · simp; omega
  · have h1 : (2 + i % 2) * 2 ^ (i / 2 - 1) ≤ 3 * 2 ^ 13 := Nat.mul_le_mul (by omega) (two_pow_le (by omega))
    simp only; omega
abbrev St := RD × List UInt8 × Nat
def stored2 (ok : Bool) (q : RD) (bs out : List UInt8) (most : Nat) : St := if most - out.length < bs.length then (q, out, 2) else (q, out ++ bs, if ok = false then 6 else 0)
def stored1 (r : RD) (n : Nat) (out : List UInt8) (most : Nat) : St :=
  if (r.bytes n).2.2 = false then stored2 false ((r.bytes n).1.bytes ((r.bytes n).1.left / 8)).1 ((r.bytes n).1.bytes ((r.bytes n).1.left / 8)).2.1 out most
  else stored2 true (r.bytes n).1 (r.bytes n).2.1 out most
def stored (r : RD) (out : List UInt8) (most : Nat) : St :=
  if (r.bytes 4).2.2 = false then ((r.bytes 4).1, out, 6)
  else if bits .xor .i64 (Sums.fromLittle ((r.bytes 4).2.1.take 2)) 65535 ≠ Sums.fromLittle ((r.bytes 4).2.1.drop 2) then ((r.bytes 4).1, out, 3)
  else
    stored1 (r.bytes 4).1 (Sums.fromLittle ((r.bytes 4).2.1.take 2)).toNat out most
def copyGo (most back : Nat) : Nat → List UInt8 → List UInt8 × Nat
  | 0, out => (out, 0)
  | k + 1, out => if out.length = most then (out, 2) else copyGo most back k (out ++ [out.getD (out.length - back) 0])
def again (dist : List Nat) (most : Nat) (r : RD) (out : List UInt8) (s : Nat) : St :=
  if 285 < s then (r, out, 3) else
  let b := lengthBase (s - 257)
  let x := r.bits b.2
  if x.2.2 = false then (x.1, out, 6) else
  let y := Huff.read dist x.1
  if y.2.2 ≠ 0 then (y.1, out, y.2.2) else
  if 29 < y.2.1 then (y.1, out, 3) else
  let d := distBase y.2.1
  let z := y.1.bits d.2
  if z.2.2 = false then (z.1, out, 6) else
  if out.length < d.1 + z.2.1 then (z.1, out, 3) else
  (z.1, copyGo most (d.1 + z.2.1) (b.1 + x.2.1) out)
def symbols (lit dist : List Nat) (most : Nat) : Nat → RD → List UInt8 → St
  | 0, r, out => (r, out, 99)
  | f + 1, r, out =>
    let x := Huff.read lit r
    if x.2.2 ≠ 0 then (x.1, out, x.2.2) else
    if x.2.1 = 256 then (x.1, out, 0) else
    if x.2.1 < 256 then (if out.length = most then (x.1, out, 2) else symbols lit dist most f x.1 (out ++ [u8i x.2.1])) else
    let y := again dist most x.1 out x.2.1
    if y.2.2 ≠ 0 then y else symbols lit dist most f y.1 y.2.1
def clGo : List Nat → RD → List Nat → RD × List Nat × Bool
  | [], r, first => (r, first, true)
  | o :: os, r, first => if (r.bits 3).2.2 = false then ((r.bits 3).1, first, false) else clGo os (r.bits 3).1 (first.set o (r.bits 3).2.1)
def repK (total : Nat) (k : RD → List Nat → RD × List Nat × Nat) (q : RD) (l : List Nat) (bts least what : Nat) : RD × List Nat × Nat :=
  if (q.bits bts).2.2 = false then ((q.bits bts).1, l, 6)
  else if total < l.length + least + (q.bits bts).2.1 then ((q.bits bts).1, l, 3)
  else k (q.bits bts).1 (l ++ List.replicate (least + (q.bits bts).2.1) what)
def lensGo (t : List Nat) (total : Nat) : Nat → RD → List Nat → RD × List Nat × Nat
  | 0, r, l => (r, l, 99)
  | f + 1, r, l =>
    if total ≤ l.length then (r, l, 0) else
    if (Huff.read t r).2.2 ≠ 0 then ((Huff.read t r).1, l, (Huff.read t r).2.2) else
    if (Huff.read t r).2.1 < 16 then lensGo t total f (Huff.read t r).1 (l ++ [(Huff.read t r).2.1]) else
    if (Huff.read t r).2.1 = 16 then (if l.length = 0 then ((Huff.read t r).1, l, 3) else repK total (lensGo t total f) (Huff.read t r).1 l 2 3 (l.getD (l.length - 1) 0)) else
    if (Huff.read t r).2.1 = 17 then repK total (lensGo t total f) (Huff.read t r).1 l 3 3 0 else repK total (lensGo t total f) (Huff.read t r).1 l 7 11 0
structure Tabs where
  r : RD
  lit : List Nat
  dist : List Nat
  err : Nat
def tables (r : RD) : Tabs :=
  let x := r.bits 14
  if x.2.2 = false then ⟨x.1, [], [], 6⟩ else
  let nl := x.2.1 % 32 + 257
  let nd := x.2.1 / 32 % 32 + 1
  let nc := x.2.1 / 1024 + 4
  if 286 < nl ∨ 30 < nd then ⟨x.1, [], [], 3⟩ else
  let y := clGo (order.take nc) x.1 (List.replicate 19 0)
  if y.2.2 = false then ⟨y.1, [], [], 6⟩ else
  if Huff.bad y.2.1 = true then ⟨y.1, [], [], 3⟩ else
  let z := lensGo y.2.1 (nl + nd) (nl + nd + 1) y.1 []
  if z.2.2 ≠ 0 then ⟨z.1, [], [], z.2.2⟩ else
  if z.2.1.getD 256 0 = 0 ∨ Huff.bad (z.2.1.take nl) = true ∨ Huff.bad (z.2.1.drop nl) = true then ⟨z.1, [], [], 3⟩ else
  ⟨z.1, z.2.1.take nl, z.2.1.drop nl, 0⟩
def block (most h : Nat) (r : RD) (out : List UInt8) : St :=
  if h / 2 = 0 then stored r out most
  else if h / 2 = 1 then symbols fixedLit fixedDist most (r.left + 1) r out
  else if h / 2 = 2 then (if (tables r).err ≠ 0 then ((tables r).r, out, (tables r).err) else symbols (tables r).lit (tables r).dist most ((tables r).r.left + 1) (tables r).r out)
  else (r, out, 3)
def run (most : Nat) : Nat → RD → List UInt8 → St
  | 0, r, out => (r, out, 99)
  | g + 1, r, out =>
    if (r.bits 3).2.2 = false then ((r.bits 3).1, out, 6) else
    (fun (y : St) => if y.2.2 ≠ 0 then y else if (r.bits 3).2.1 % 2 = 0 then run most g y.1 y.2.1 else (y.1, y.2.1, 0)) (block most (r.bits 3).2.1 (r.bits 3).1 out)
def cont (most h g : Nat) (y : St) : St := if y.2.2 ≠ 0 then y else if h % 2 = 0 then run most g y.1 y.2.1 else (y.1, y.2.1, 0)
theorem run_succ (most g : Nat) (r : RD) (out : List UInt8) : run most (g + 1) r out = if (r.bits 3).2.2 = false then ((r.bits 3).1, out, 6) else cont most (r.bits 3).2.1 g (block most (r.bits 3).2.1 (r.bits 3).1 out) := rfl
def inflate (s : List UInt8) (at_ most : Nat) : List UInt8 × Nat × Nat :=
  let x := run most ((RD.new s at_).left + 1) (RD.new s at_) []
  if x.2.2 ≠ 0 then ([], 0, x.2.2) else (x.2.1, x.1.used, 0)
theorem clGo_ok (os : List Nat) : ∀ (r : RD) (f : List Nat), r.Ok → (clGo os r f).1.Ok ∧ (clGo os r f).1.left ≤ r.left := by
  induction os with
  | nil => intro r f hr; exact ⟨hr, Nat.le_refl _⟩
  | cons o os ih =>
    intro r f hr
    have h1 := RD.bits_ok hr (n := 3) (by omega)
    have h2 := RD.bits_left_le hr (n := 3) (by omega)
    unfold clGo; split
    · exact ⟨h1, h2⟩
    · have := ih (r.bits 3).1 (f.set o (r.bits 3).2.1) h1; exact ⟨this.1, by omega⟩
theorem repK_ok {total : Nat} {k : RD → List Nat → RD × List Nat × Nat} (hk : ∀ r l, r.Ok → (k r l).1.Ok ∧ (k r l).1.left ≤ r.left) {q : RD} (hq : q.Ok) (l : List Nat) {bts : Nat} (hb : bts ≤ 32) (least what : Nat) : (repK total k q l bts least what).1.Ok ∧ (repK total k q l bts least what).1.left ≤ q.left := by
  have h1 := RD.bits_ok hq hb
  have h2 := RD.bits_left_le hq hb
  unfold repK; split
  · exact ⟨h1, h2⟩
  · split
    · exact ⟨h1, h2⟩
    · have := hk (q.bits bts).1 (l ++ List.replicate (least + (q.bits bts).2.1) what) h1; exact ⟨this.1, by omega⟩
theorem lensGo_ok (t : List Nat) (total f : Nat) : ∀ (r : RD) (l : List Nat), r.Ok → (lensGo t total f r l).1.Ok ∧ (lensGo t total f r l).1.left ≤ r.left := by
  induction f with
  | zero => intro r l hr; exact ⟨hr, Nat.le_refl _⟩
  | succ f ih =>
    intro r l hr
    obtain ⟨h1, h2, -⟩ := Huff.read_ok t hr
    rw [lensGo]
    generalize Huff.read t r = x at h1 h2 ⊢
    have up : ∀ {q : RD}, (q.Ok ∧ q.left ≤ x.1.left) → q.Ok ∧ q.left ≤ r.left := fun h => ⟨h.1, by omega⟩
    split
    · exact ⟨hr, Nat.le_refl _⟩
    · split
      · exact ⟨h1, h2⟩
      · split
        · exact up (ih _ _ h1)
        · split
          · split
            · exact ⟨h1, h2⟩
            · exact up (repK_ok ih h1 l (by omega) _ _)
          · split
            · exact up (repK_ok ih h1 l (by omega) _ _)
            · exact up (repK_ok ih h1 l (by omega) _ _)
theorem repK_len {total : Nat} {k : RD → List Nat → RD × List Nat × Nat} (hk : ∀ r l, l.length ≤ total → (k r l).2.2 = 0 → (k r l).2.1.length = total) (q : RD) (l : List Nat) (bts least what : Nat) (h : (repK total k q l bts least what).2.2 = 0) : (repK total k q l bts least what).2.1.length = total := by
  unfold repK at h ⊢
  by_cases c1 : (q.bits bts).2.2 = false
  · rw [if_pos c1] at h; cases h
  · rw [if_neg c1] at h ⊢
    by_cases c2 : total < l.length + least + (q.bits bts).2.1
    · rw [if_pos c2] at h; cases h
    · rw [if_neg c2] at h ⊢; exact hk _ _ (by simp; omega) h
theorem lensGo_len (t : List Nat) (total f : Nat) : ∀ (r : RD) (l : List Nat), l.length ≤ total → (lensGo t total f r l).2.2 = 0 → (lensGo t total f r l).2.1.length = total := by
  induction f with
  | zero => intro r l hl h; cases h
  | succ f ih =>
    intro r l hl h
    rw [lensGo] at h ⊢
    generalize Huff.read t r = x at h ⊢
    by_cases c1 : total ≤ l.length
    · rw [if_pos c1]; simp only; omega
    · rw [if_neg c1] at h ⊢
      by_cases c2 : x.2.2 ≠ 0
      · rw [if_pos c2] at h; exact absurd h c2
      · rw [if_neg c2] at h ⊢
        by_cases c3 : x.2.1 < 16
        · rw [if_pos c3] at h ⊢; exact ih _ _ (by simp; omega) h
        · rw [if_neg c3] at h ⊢
          by_cases c4 : x.2.1 = 16
          · rw [if_pos c4] at h ⊢
            by_cases c5 : l.length = 0
            · rw [if_pos c5] at h; cases h
            · rw [if_neg c5] at h ⊢; exact repK_len ih _ _ _ _ _ h
          · rw [if_neg c4] at h ⊢
            by_cases c5 : x.2.1 = 17
            · rw [if_pos c5] at h ⊢; exact repK_len ih _ _ _ _ _ h
            · rw [if_neg c5] at h ⊢; exact repK_len ih _ _ _ _ _ h
theorem tables_ok {r : RD} (hr : r.Ok) : (tables r).r.Ok ∧ (tables r).r.left ≤ r.left ∧ (tables r).lit.length ≤ 320 ∧ (tables r).dist.length ≤ 320 := by
  have h1 := RD.bits_ok hr (n := 14) (by omega)
  have h2 := RD.bits_left_le hr (n := 14) (by omega)
  unfold tables
  dsimp only
  split
  · exact ⟨h1, h2, by simp, by simp⟩
  · split
    · exact ⟨h1, h2, by simp, by simp⟩
    · rename_i hn
      generalize hy : clGo (order.take ((r.bits 14).2.1 / 1024 + 4)) (r.bits 14).1 (List.replicate 19 0) = y
      obtain ⟨h3, h4⟩ := clGo_ok (order.take ((r.bits 14).2.1 / 1024 + 4)) (r.bits 14).1 (List.replicate 19 0) h1
      rw [hy] at h3 h4
      split
      · exact ⟨h3, by simp only; omega, by simp, by simp⟩
      · split
        · exact ⟨h3, by simp only; omega, by simp, by simp⟩
        · generalize hz : lensGo y.2.1 ((r.bits 14).2.1 % 32 + 257 + ((r.bits 14).2.1 / 32 % 32 + 1)) ((r.bits 14).2.1 % 32 + 257 + ((r.bits 14).2.1 / 32 % 32 + 1) + 1) y.1 [] = z
          obtain ⟨h5, h6⟩ := lensGo_ok y.2.1 ((r.bits 14).2.1 % 32 + 257 + ((r.bits 14).2.1 / 32 % 32 + 1)) ((r.bits 14).2.1 % 32 + 257 + ((r.bits 14).2.1 / 32 % 32 + 1) + 1) y.1 [] h3
          have h7 := lensGo_len y.2.1 ((r.bits 14).2.1 % 32 + 257 + ((r.bits 14).2.1 / 32 % 32 + 1)) ((r.bits 14).2.1 % 32 + 257 + ((r.bits 14).2.1 / 32 % 32 + 1) + 1) y.1 [] (by simp)
          rw [hz] at h5 h6 h7
          split
          · exact ⟨h5, by simp only; omega, by simp, by simp⟩
          · rename_i h8
            have h9 := h7 (by omega)
            split
            · exact ⟨h5, by simp only; omega, by simp, by simp⟩
            · exact ⟨h5, by simp only; omega, by simp; omega, by simp; omega⟩
theorem stored_ok {r : RD} (hr : r.Ok) {out : List UInt8} {most : Nat} (ho : out.length ≤ most) : (stored r out most).1.Ok ∧ (stored r out most).1.left ≤ r.left ∧ (stored r out most).2.1.length ≤ most := by
  have h1 := RD.bytes_ok hr 4
  have h2 := RD.bytes_left_le hr 4
  have key : ∀ (ok : Bool) (q : RD) (bs : List UInt8), q.Ok → q.left ≤ r.left → (stored2 ok q bs out most).1.Ok ∧ (stored2 ok q bs out most).1.left ≤ r.left ∧ (stored2 ok q bs out most).2.1.length ≤ most := by
    intro ok q bs h3 h4
    unfold stored2; split
    · exact ⟨h3, h4, ho⟩
    · exact ⟨h3, h4, by simp; omega⟩
  unfold stored
  generalize hx : r.bytes 4 = x at h1 h2 ⊢
  split
  · exact ⟨h1, h2, ho⟩
  · split
    · exact ⟨h1, h2, ho⟩
    · generalize (Sums.fromLittle (x.2.1.take 2)).toNat = n
      have h3 := RD.bytes_ok h1 n
      have h4 := RD.bytes_left_le h1 n
      unfold stored1
      split
      · exact key _ _ _ (RD.bytes_ok h3 _) (by have := RD.bytes_left_le h3 ((x.1.bytes n).1.left / 8); omega)
      · exact key _ _ _ h3 (by omega)
theorem copyGo_len (most back k : Nat) : ∀ out : List UInt8, out.length ≤ most → (copyGo most back k out).1.length ≤ most := by
  induction k with
  | zero => intro out h; exact h
  | succ k ih =>
    intro out h; unfold copyGo; split
    · exact h
    · exact ih _ (by simp; omega)
theorem again_ok {ds : List Nat} {r : RD} (hr : r.Ok) {out : List UInt8} {most s : Nat} (ho : out.length ≤ most) (hs : 257 ≤ s) : (again ds most r out s).1.Ok ∧ (again ds most r out s).1.left ≤ r.left ∧ (again ds most r out s).2.1.length ≤ most := by
  unfold again
  split
  · exact ⟨hr, Nat.le_refl _, ho⟩
  · dsimp only
    have hB := lengthBase_le (i := s - 257) (by omega)
    have h1 := RD.bits_ok hr (n := (lengthBase (s - 257)).2) (by omega)
    have h2 := RD.bits_left_le hr (n := (lengthBase (s - 257)).2) (by omega)
    generalize r.bits (lengthBase (s - 257)).2 = x at h1 h2 ⊢
    split
    · exact ⟨h1, h2, ho⟩
    · obtain ⟨h3, h4, -⟩ := Huff.read_ok ds h1
      generalize Huff.read ds x.1 = y at h3 h4 ⊢
      split
      · exact ⟨h3, by simp only; omega, ho⟩
      · split
        · exact ⟨h3, by simp only; omega, ho⟩
        · have hD := distBase_le (i := y.2.1) (by omega)
          have h5 := RD.bits_ok h3 (n := (distBase y.2.1).2) (by omega)
          have h6 := RD.bits_left_le h3 (n := (distBase y.2.1).2) (by omega)
          generalize y.1.bits (distBase y.2.1).2 = z at h5 h6 ⊢
          split
          · exact ⟨h5, by simp only; omega, ho⟩
          · split
            · exact ⟨h5, by simp only; omega, ho⟩
            · exact ⟨h5, by simp only; omega, copyGo_len _ _ _ _ ho⟩
theorem symbols_ok (ls ds : List Nat) (most f : Nat) : ∀ (r : RD) (out : List UInt8), r.Ok → out.length ≤ most → (symbols ls ds most f r out).1.Ok ∧ (symbols ls ds most f r out).2.1.length ≤ most := by
  induction f with
  | zero => intro r out hr ho; exact ⟨hr, ho⟩
  | succ f ih =>
    intro r out hr ho
    rw [symbols]
    dsimp only
    obtain ⟨h1, -, -⟩ := Huff.read_ok ls hr
    generalize Huff.read ls r = x at h1 ⊢
    split
    · exact ⟨h1, ho⟩
    · split
      · exact ⟨h1, ho⟩
      · split
        · split
          · exact ⟨h1, ho⟩
          · exact ih _ _ h1 (by simp; omega)
        · obtain ⟨h2, -, h3⟩ := again_ok (ds := ds) h1 (most := most) (s := x.2.1) ho (by omega)
          generalize again ds most x.1 out x.2.1 = y at h2 h3 ⊢
          split
          · exact ⟨h2, h3⟩
          · exact ih _ _ h2 h3
theorem block_ok {most h : Nat} {r : RD} (hr : r.Ok) {out : List UInt8} (ho : out.length ≤ most) : (block most h r out).1.Ok ∧ (block most h r out).2.1.length ≤ most := by
  unfold block
  split
  · exact ⟨(stored_ok hr ho).1, (stored_ok hr ho).2.2⟩
  · split
    · exact symbols_ok _ _ _ _ _ _ hr ho
    · split
      · split
        · exact ⟨(tables_ok hr).1, ho⟩
        · exact symbols_ok _ _ _ _ _ _ (tables_ok hr).1 ho
      · exact ⟨hr, ho⟩
theorem run_okk (most g : Nat) : ∀ (r : RD) (out : List UInt8), r.Ok → out.length ≤ most → (run most g r out).1.Ok ∧ (run most g r out).2.1.length ≤ most := by
  induction g with
  | zero => intro r out hr ho; exact ⟨hr, ho⟩
  | succ g ih =>
    intro r out hr ho
    rw [run_succ]
    have h1 := RD.bits_ok hr (n := 3) (by omega)
    generalize r.bits 3 = x at h1 ⊢
    split
    · exact ⟨h1, ho⟩
    · obtain ⟨h2, h3⟩ := block_ok (most := most) (h := x.2.1) h1 ho
      generalize block most x.2.1 x.1 out = y at h2 h3 ⊢
      unfold cont
      split
      · exact ⟨h2, h3⟩
      · split
        · exact ih _ _ h2 h3
        · exact ⟨h2, h3⟩
theorem inflate_len (s : List UInt8) (hs : s.length ≤ 140737488351232) (at_ most : Nat) : (inflate s at_ most).1.length ≤ most := by
  have := run_okk most ((RD.new s at_).left + 1) (RD.new s at_) [] (RD.new_ok hs at_) (by simp)
  unfold inflate
  dsimp only
  split
  · simp
  · exact this.2
end Infl
theorem drop_cons {α : Type} {l : List α} {k : Nat} {o : α} (h : l[k]? = some o) : l.drop k = o :: l.drop (k + 1) := by
  obtain ⟨h1, rfl⟩ := List.getElem?_eq_some_iff.1 h
  exact List.drop_eq_getElem_cons h1
theorem set_iv {f : List Nat} {i n : Nat} (h : i < f.length) : SetAt (f.map iv) i (.int .i64 (n : Int)) ((f.set i n).map iv) := by
  have := Huff.set_of (cs := f.map iv) (i := i) (x := .int .i64 (n : Int)) (by simpa using h)
  rw [show (f.map iv).set i (.int .i64 (n : Int)) = (f.set i n).map iv by rw [List.map_set]; rfl] at this
  exact this
end Go.Eng
/-
  Scopes with labels, results in cells, rows made whole, arrays as values. Speaks of no program.
-/
set_option linter.unusedVariables false
set_option linter.unusedSimpArgs false
namespace Go.Eng

/-- as Q; by a goto to a label l: J l -/
def jumps (J : Nat → Act → World → Prop) (Q : Exit → Act → World → Prop) : Exit → Act → World → Prop
  | .goto l, a, w => J l a w
  | e, a, w => Q e a w

section
variable {P : Program} {Q : Exit → Act → World → Prop}
theorem wp_scope_labels {c : Code} (J : Nat → Nat → Act → World → Prop)
    (pass : ∀ l n a w, J l n a w → ∃ rest, findLabel c l = some rest ∧ rest.wp P (jumps (fun l' a' w' => ∃ n', n' < n ∧ J l' n' a' w') Q) a w)
    {n0 : Nat} {a : Act} {w : World} (first : c.wp P (jumps (fun l a w => ∃ n', n' < n0 ∧ J l n' a w) Q) a w) : (Code.scope c).wp P Q a w := by
  intro b k cs
  have key : ∀ n l a w, J l n a w → ∃ rest, findLabel c l = some rest ∧ ∃ e a' w', Q e a' w' ∧ Arrives P (lone (b.at a (.code rest :: .inScope c :: k)) cs w) b k cs e a' w' := by
    intro n
    induction n using Nat.strongRecOn with
    | _ n ih =>
      intro l a w hJ
      obtain ⟨rest, hf, hp⟩ := pass l n a w hJ
      refine ⟨rest, hf, ?_⟩
      obtain ⟨e, a₁, w₁, hq, harr⟩ := hp b (.inScope c :: k) cs
      cases e with
      | normal => exact ⟨.normal, a₁, w₁, hq, Steps.trans harr (.one step_inScope)⟩
      | exit id => exact ⟨.exit id, a₁, w₁, hq, fun k' hk => harr k' (by simp [exitTo, hk])⟩
      | goto l' =>
        obtain ⟨n', hlt, hJ'⟩ := hq
        obtain ⟨rest', hf', e₂, a₂, w₂, hq₂, harr₂⟩ := ih n' hlt l' a₁ w₁ hJ'
        have hg : gotoIn l' (.inScope c :: k) = some (.code rest' :: .inScope c :: k) := by simp [gotoIn, hf']
        exact ⟨e₂, a₂, w₂, hq₂, .of_steps (harr _ hg) harr₂⟩
      | ret => exact ⟨_, a₁, w₁, hq, harr⟩
      | panic ch => exact ⟨_, a₁, w₁, hq, harr⟩
      | outgrown => exact ⟨_, a₁, w₁, hq, harr⟩
  obtain ⟨e, a₁, w₁, hq, harr⟩ := first b (.inScope c :: k) cs
  cases e with
  | normal => exact ⟨.normal, a₁, w₁, hq, .head step_scope (Steps.trans harr (.one step_inScope))⟩
  | exit id => exact ⟨.exit id, a₁, w₁, hq, fun k' hk => .head step_scope (harr k' (by simp [exitTo, hk]))⟩
  | goto l' =>
    obtain ⟨n', hlt, hJ'⟩ := hq
    obtain ⟨rest', hf', e₂, a₂, w₂, hq₂, harr₂⟩ := key n' l' a₁ w₁ hJ'
    have hg : gotoIn l' (.inScope c :: k) = some (.code rest' :: .inScope c :: k) := by simp [gotoIn, hf']
    exact ⟨e₂, a₂, w₂, hq₂, .of_steps (.head step_scope (harr _ hg)) harr₂⟩
  | ret => exact ⟨_, a₁, w₁, hq, .of_steps (.one step_scope) harr⟩
  | panic ch => exact ⟨_, a₁, w₁, hq, .of_steps (.one step_scope) harr⟩
  | outgrown => exact ⟨_, a₁, w₁, hq, .of_steps (.one step_scope) harr⟩
end

section
variable {P : Program} {w0 : World} {N : Nat} {Q : Exit → Act → World → Prop} {D : List Deferred} {L : List (Nat × Value)} {H : List HP}
/-- what holds at a label: I l n: at label l, of whose passes the measure is n -/
def atL (w0 : World) (N : Nat) (D : List Deferred) (I : Nat → Nat → List (Nat × Value) → List HP → Prop) (l n : Nat) (a : Act) (w : World) : Prop := ∃ L H, I l n L H ∧ Fr N D L a ∧ WS w0 H w
theorem CG.scope {c : Code} (I : Nat → Nat → List (Nat × Value) → List HP → Prop) (n0 : Nat)
    (first : CG P w0 N c (jumps (fun l a w => ∃ n', n' < n0 ∧ atL w0 N D I l n' a w) Q) D L H)
    (pass : ∀ l n L H, I l n L H → ∃ rest, findLabel c l = some rest ∧ CG P w0 N rest (jumps (fun l' a w => ∃ n', n' < n ∧ atL w0 N D I l' n' a w) Q) D L H) : CG P w0 N (.scope c) Q D L H := by
  intro a w hf hw
  refine wp_scope_labels (atL w0 N D I) (fun l n a w hJ => ?_) (first a w hf hw)
  obtain ⟨L', H', hI, hf', hw'⟩ := hJ
  obtain ⟨rest, h1, h2⟩ := pass l n L' H' hI
  exact ⟨rest, h1, h2 a w hf' hw'⟩
theorem EN.goto {I : Nat → Nat → List (Nat × Value) → List HP → Prop} {l n : Nat} (n' : Nat) {L' : List (Nat × Value)} {H' : List HP} (hlt : n' < n) (hI : I l n' L' H') (hs : Sub L L') {hl R F : List HP} (hH : H' = hl ++ F) (ht : Takes H hl R) (hsu : Suf R F) :
    EN w0 N (jumps (fun l a w => ∃ n', n' < n ∧ atL w0 N D I l n' a w) Q) (.goto l) D L H :=
  fun a w hf hw => ⟨n', hlt, L', H', hI, hf.sub hs.get, by rw [hH]; exact hw.sel ht hsu⟩
theorem EN.jr {J : Nat → Act → World → Prop} (h : EN w0 N Q .ret D L H) : EN w0 N (jumps J Q) .ret D L H := h
theorem CG.splitT {c : Code} {t : Nat} {p : Prop} [Decidable p] (ht : get? L t = some (.bool (decide p))) (h1 : p → CG P w0 N c Q D ((t, .bool true) :: L) H) (h2 : ¬ p → CG P w0 N c Q D ((t, .bool false) :: L) H) : CG P w0 N c Q D L H := by
  intro a w hf hw
  have key : ∀ b, decide p = b → Fr N D ((t, .bool b) :: L) a := by
    rintro b hb
    refine hf.sub fun u v hv => ?_
    simp only [get?] at hv
    cases hx : Nat.beq t u
    · rw [hx] at hv; exact hv
    · rw [hx] at hv
      have := Nat.eq_of_beq_eq_true hx
      subst this
      simp only [cond_true, Option.some.injEq] at hv
      rw [ht, hb, hv]
  by_cases hp : p
  · exact h1 hp a w (key true (by simpa using hp)) hw
  · exact h2 hp a w (key false (by simpa using hp)) hw
theorem G.closeOwn {E : Env} {l : List Oper} {T sz n g cap : Nat} {cur xs : List Value} {H1 : List HP} (ht : Take H (cel g T cur) H1) (hn : n ≤ cap) (hm : cap ≤ maxLen) (hl : cur.length = cap * sz) (hx : cur.take (n * sz) = xs)
    (k : G E D l L (own T sz (.slice (some ⟨g, 0, none⟩) n cap) n xs :: H1)) : G E D l L H := fun a w hf hw => k a w hf ((hw.take1 ht).closeOwn hn hm hl hx)
theorem get_u8 {l : List UInt8} {i : Nat} {c : UInt8} (h : l[i]? = some c) : (l.map u8v)[i]? = some (.int .u8 (c.toNat : Int)) := by rw [List.getElem?_map, h]; rfl
theorem getD_u8 {S : List UInt8} {i : Nat} (h : i < S.length) : S[i]? = some (S.getD i 0) := by
  rw [List.getD_eq_getElem?_getD, List.getElem?_eq_getElem h]; rfl
theorem Spec.mono {f : FuncId} {args : Array Value} {pre : List HP} {p q : Value → List HP → Prop} (h : Spec P f args pre (Ret p)) (hi : ∀ v hl, p v hl → q v hl) : Spec P f args pre (Ret q) := by
  intro F w0 w hw
  refine Calls.mono (h F w0 w hw) ?_
  rintro e w' ⟨hl, hp, hw'⟩
  refine ⟨hl, ?_, hw'⟩
  cases e <;> first | exact hi _ _ hp | exact hp
/- results in cells -/
theorem run_loadVar_agg {w : World} {T U b : Nat} {cs : List Value} (hw : WS w0 H w) (hT : aggB P T = some true) (hz : sizeB P T = some cs.length) (hm : Mem (cel b U cs) H) : (loadVar T ⟨b, 0, none⟩).run P w = .ok (.agg cs.toArray) w := by
  have := run_loadCells_list (P := P) w ⟨b, 0, none⟩ cs (fun j v hj => by
    rw [Addr.add_lit, Nat.zero_add]; exact cell_cel hw hm (by rw [nth_eq]; exact hj))
  simp [loadVar, run_isAgg hT, run_sizeOf hz, this]
theorem run_loadVar_one {w : World} {T U b : Nat} {v : Value} (hw : WS w0 H w) (hT : aggB P T = some false) (hm : Mem (cel b U [v]) H) : (loadVar T ⟨b, 0, none⟩).run P w = .ok v w := by
  have := cell_cel (off := 0) hw hm rfl
  simp [loadVar, run_isAgg hT, this]
theorem fin_ret1c {fn : Func} {F : List HP} {post : Ending → List HP → Prop} {t : Tmp} {T U b n : Nat} {cs : List Value} {hl R : List HP} (hr : fn.results = #[.cell t T]) (hv : get? L t = some (.pointer (some ⟨b, 0, none⟩))) (hT : aggB P T = some true) (hz : sizeB P T = some n) (hm : Mem (cel b U cs) H) (hn : Nat.beq cs.length n = true)
    (ht : Takes H hl R) (hsu : Suf R F) (hp : post (.returned (.agg cs.toArray)) hl) (e : Exit) (he : e = .ret ∨ e = .normal) : EN w0 N (Fin P w0 fn F post) e [] L H := by
  intro a w hf hw
  have hw' : WS w0 (hl ++ F) w := hw.sel ht hsu
  have h1 := hf.val t _ hv
  have hrun : (results fn a.tmps).run P w = .ok (.agg cs.toArray) w := by
    rw [← Nat.eq_of_beq_eq_true hn] at hz
    rw [Array.getD_eq_getD_getElem?] at h1
    simp [results, hr, h1, asAddr, run_loadVar_agg hw hT hz hm]
  rcases he with rfl | rfl
  all_goals exact ⟨hf.defs, _, hrun, hl, hp, hw'⟩

/- rows made whole -/
theorem madeCells_one (z : Value) (n : Nat) : madeCells #[z] n = (List.replicate n z).toArray := by
  apply Array.toList_inj.1
  apply List.ext_getElem?
  intro j
  by_cases h : j < n <;> simp [madeCells, h, Nat.mod_one]
theorem e_makeSlice {o : Oper} {x y : Operand} {t e bytes n : Nat} {z : Value} {k k2 : IntKind} (ho : o.op = .makeSlice t x y) (hx : ev L x = some (.int k (n : Int))) (hy : ev L y = some (.int k2 (n : Int))) (hs : sliceE P t = some e) (hi : infoB P e = some (some [z], 1, bytes)) (hb : bytes * n ≤ 281474976710656 ∧ n ≤ 9223372036854775807) :
    EOp P L H o (fun u H' => ∃ b, u = .slice (some ⟨b, 0, none⟩) n n ∧ H' = cel b e (List.replicate n z) :: H) := by
  intro N D a w w0 K Q hf hw hk
  obtain ⟨i, zv, hi1, hi2, hi3, hi4, hi5⟩ := infoB_spec hi
  have hrun : (execOp a.eval o).run P w = .ok (.value (.slice (some ⟨w.heap.size, 0, none⟩) n n)) (w.alloc (.cells (List.replicate n z).toArray e)) := by
    have := run_make (P := P) w t e i zv (sliceE_spec hs) hi1 hi2 k k2 (n : Int) (n : Int) (by omega) (by omega) (by rw [hi5]; have h := Int.ofNat_le.2 hb.1; rw [Int.natCast_mul] at h; exact h) (by omega)
    rw [hi4, hi3, Nat.mul_one, Int.toNat_natCast] at this
    have e2 : madeCells [z].toArray n = (List.replicate n z).toArray := madeCells_one z n
    rw [e2] at this
    unfold execOp; rw [ho]
    simp [hf.ev hx, hf.ev hy, this]
  unfold Oper.wp; rw [hrun]
  exact hk _ _ _ ⟨_, rfl, rfl⟩ (hw.alloc _)
/- an array's part -/
theorem q_ixagg {o : Oper} {x y : Operand} {t e n : Nat} {cs : List Value} {k : IntKind} {i : Nat} {v : Value} (ho : o.op = .index t x y) (hx : ev L x = some (.agg cs.toArray)) (hy : ev L y = some (.int k i)) (hs : arrE P t = some (n, e)) (hz : sizeB P e = some 1) (ha : aggB P e = some false) (h : i < n) (hv : cs[i]? = some v) : QOp P L o v := by
  intro N D a w hf
  have hi : (i : Int) < n := by omega
  unfold execOp; rw [ho]
  simp [hf.ev hx, hf.ev hy, Instr.index, asIntOf, run_underlying (arrE_spec hs), run_sizeOf hz, hi, Go.part, run_isAgg ha, hv, h]
end
end Go.Eng
/-
  Plain: SHA-1 as integers, no program in sight.
-/
set_option linter.unusedVariables false
namespace Go.Eng
def u32v (x : Int) : Value := .int .u32 x
namespace Sha
def w32 (x : Int) : Int := IntKind.u32.wrap x
def rot (x : Int) (n : Nat) : Int := bits .or .u32 (w32 (x * 2 ^ n)) (x / 2 ^ (32 - n))
def word (p : List UInt8) (k : Nat) : Int := ((p.getD (4 * k) 0).toNat : Int) * 16777216 + (p.getD (4 * k + 1) 0).toNat * 65536 + (p.getD (4 * k + 2) 0).toNat * 256 + (p.getD (4 * k + 3) 0).toNat
def next (w : List Int) (k : Nat) : Int := rot (bits .xor .u32 (bits .xor .u32 (bits .xor .u32 (w.getD (k - 3) 0) (w.getD (k - 8) 0)) (w.getD (k - 14) 0)) (w.getD (k - 16) 0)) 1
def sched (p : List UInt8) : Nat → List Int
  | 0 => []
  | k + 1 => sched p k ++ [if k < 16 then word p k else next (sched p k) k]
theorem sched_len (p : List UInt8) (k : Nat) : (sched p k).length = k := by
  induction k with
  | zero => rfl
  | succ k ih => simp [sched, ih]
theorem sched_get (p : List UInt8) {k i : Nat} (h : i < k) : (sched p k)[i]? = some ((sched p k).getD i 0) := by
  rw [List.getD_eq_getElem?_getD, List.getElem?_eq_getElem (by rw [sched_len]; exact h)]; rfl
def fk (i : Nat) (b c d : Int) : Int × Int :=
  if i / 20 = 0 then (bits .or .u32 (bits .and .u32 b c) (bits .and .u32 (bits .xor .u32 4294967295 b) d), 1518500249)
  else if i / 20 = 1 then (bits .xor .u32 (bits .xor .u32 b c) d, 1859775393)
  else if i / 20 = 2 then (bits .or .u32 (bits .or .u32 (bits .and .u32 b c) (bits .and .u32 b d)) (bits .and .u32 c d), 2400959708)
  else (bits .xor .u32 (bits .xor .u32 b c) d, 3395469782)
section
variable {i : Nat} {b c d : Int}
theorem fk0 (h : i / 20 = 0) : fk i b c d = (bits .or .u32 (bits .and .u32 b c) (bits .and .u32 (bits .xor .u32 4294967295 b) d), 1518500249) := if_pos h
theorem fk1 (h : i / 20 = 1) : fk i b c d = (bits .xor .u32 (bits .xor .u32 b c) d, 1859775393) := by unfold fk; rw [if_neg (by omega), if_pos h]
theorem fk2 (h : i / 20 = 2) : fk i b c d = (bits .or .u32 (bits .or .u32 (bits .and .u32 b c) (bits .and .u32 b d)) (bits .and .u32 c d), 2400959708) := by unfold fk; rw [if_neg (by omega), if_neg (by omega), if_pos h]
theorem fk3 (h : 3 ≤ i / 20) : fk i b c d = (bits .xor .u32 (bits .xor .u32 b c) d, 3395469782) := by unfold fk; rw [if_neg (by omega), if_neg (by omega), if_neg (by omega)]
end
structure S5 where
  a : Int
  b : Int
  c : Int
  d : Int
  e : Int
def step (i : Nat) (x : Int) (s : S5) : S5 := ⟨w32 (w32 (w32 (w32 (rot s.a 5 + (fk i s.b s.c s.d).1) + s.e) + (fk i s.b s.c s.d).2) + x), s.a, rot s.b 30, s.c, s.d⟩
def comp (w : List Int) (s : S5) : Nat → S5
  | 0 => s
  | k + 1 => step k (w.getD k 0) (comp w s k)
def add5 (h s : S5) : S5 := ⟨w32 (h.a + s.a), w32 (h.b + s.b), w32 (h.c + s.c), w32 (h.d + s.d), w32 (h.e + s.e)⟩
def block (h : S5) (p : List UInt8) : S5 := add5 h (comp (sched p 80) h 80)
def cells (h : S5) : List Value := [.int .u32 h.a, .int .u32 h.b, .int .u32 h.c, .int .u32 h.d, .int .u32 h.e]
def start1 : S5 := ⟨1732584193, 4023233417, 2562383102, 271733878, 3285377520⟩
/-- the whole blocks of a text taken in; what is left -/
def blocks (h : S5) (t : List UInt8) : S5 × List UInt8 := if hh : 64 ≤ t.length then blocks (block h (t.take 64)) (t.drop 64) else (h, t)
termination_by t.length
decreasing_by simp; omega
/-- how many noughts stand behind the byte 0x80 -/
def padN (rest : Nat) : Nat := (119 - rest % 64) % 64
/-- the length in bits, eight bytes -/
def lenB (n : Int) (k : Nat) : List UInt8 := (List.range k).map fun j => u8i (IntKind.u64.wrap (n * 8) / 2 ^ (56 - 8 * j))
def padded (rest : Nat) (n : Int) : List UInt8 := (128 :: List.replicate (padN rest) 0) ++ lenB n 8
def outW (x : Int) : List UInt8 := [u8i (x / 16777216), u8i (x / 65536), u8i (x / 256), u8i x]
def wordsL (h : S5) : List Int := [h.a, h.b, h.c, h.d, h.e]
def outB (h : S5) : List UInt8 := (wordsL h).flatMap outW
/-- SHA-1 of a text -/
def sum1 (t : List UInt8) : List UInt8 := outB (blocks (blocks start1 t).1 ((blocks start1 t).2 ++ padded (blocks start1 t).2.length (0 + (t.length : Int)))).1
/-- the array of the words while it is filled -/
def arrC (p : List UInt8) (k : Nat) : List Value := (sched p k).map u32v ++ List.replicate (80 - k) (.int .u32 0)
theorem arr_len (p : List UInt8) {k : Nat} (h : k ≤ 80) : (arrC p k).length = 80 := by simp [arrC, sched_len]; omega
theorem arr_get (p : List UInt8) {k i : Nat} (h : i < k) : (arrC p k)[i]? = some (.int .u32 ((sched p k).getD i 0)) := by
  unfold arrC
  rw [List.getElem?_append_left (by rw [List.length_map, sched_len]; exact h), List.getElem?_map, sched_get p h]; rfl
theorem arr_nth (p : List UInt8) {k i : Nat} (h : i < k) : nth (arrC p k) (0 + i * 1) = some (.int .u32 ((sched p k).getD i 0)) := by
  rw [nth_eq, Nat.zero_add, Nat.mul_one]; exact arr_get p h
theorem arr_set (p : List UInt8) {k : Nat} {x : Int} (h : k < 80) (hx : (if k < 16 then word p k else next (sched p k) k) = x) : SetAt (arrC p k) (0 + k * 1) (.int .u32 x) (arrC p (k + 1)) := by
  rw [Nat.zero_add, Nat.mul_one]
  have := Huff.set_of (cs := arrC p k) (i := k) (x := .int .u32 x) (by rw [arr_len p (by omega)]; exact h)
  have e : (arrC p k).set k (.int .u32 x) = arrC p (k + 1) := by
    unfold arrC
    rw [List.set_append, if_neg (by rw [List.length_map, sched_len]; omega), List.length_map, sched_len, Nat.sub_self, show 80 - k = (80 - (k + 1)) + 1 by omega, List.replicate_succ, List.set_cons_zero, sched, hx]
    simp [u32v]
  rw [e] at this; exact this
end Sha
end Go.Eng
/-
  Calls of function values; a slice beside nil. Speaks of no program.
-/
set_option linter.unusedVariables false
set_option linter.unusedSimpArgs false
namespace Go.Eng
section
variable {P : Program} {w0 : World} {N : Nat} {Q : Exit → Act → World → Prop} {D : List Deferred} {L : List (Nat × Value)} {H : List HP}
theorem e_callv {o : Oper} {f : FuncId} {y : Operand} {xs : List Operand} {ts : Array TypeId} {vs : List Value} {pre F : List HP} {post : Value → List HP → Prop}
    (ho : o.op = .call { callee := .value y, args := xs.toArray, argTypes := ts }) (hy : ev L y = some (.func (.func f) #[] #[])) (hx : evs L xs = some vs) (hb : bodied P f = true) (hH : H = pre ++ F)
    (hs : Spec P f vs.toArray pre (Ret post)) : EOp P L H o (fun v H' => ∃ hl, post v hl ∧ H' = hl ++ F) := by
  intro N D a w w0 K Q hf hw hk
  subst hH
  have hrun : (execOp a.eval o).run P w = .ok (.enter f vs.toArray) w := by
    unfold execOp; rw [ho]
    have hm : xs.toArray.map a.eval = vs.toArray := by simp [evs_eval hf hx]
    simp only [resolve, Sem.run_bind, hm]
    rw [hf.ev hy]
    simp [Deferred.ofValue, invoke, run_callFunc hb]
  unfold Oper.wp
  rw [hrun]
  simp only [Oper.upon]
  refine (hs F w0 w hw).mono ?_
  rintro e w' ⟨hl, hp, hw'⟩
  cases e with
  | returned v => exact hk v _ w' ⟨hl, hp, rfl⟩ hw'
  | panicked c => exact hp.elim
  | outgrown => exact hp.elim
theorem G.callv {E : Env} {o : Oper} {rest : List Oper} {d : Nat} {f : FuncId} {y : Operand} {xs : List Operand} {ts : Array TypeId} {vs : List Value} {pre F : List HP} {post : Value → List HP → Prop}
    (ho : o.op = .call { callee := .value y, args := xs.toArray, argTypes := ts }) (hy : ev L y = some (.func (.func f) #[] #[])) (hx : evs L xs = some vs) (hs : Spec E.P f vs.toArray pre (Ret post)) (hb : bodied E.P f = true)
    (hd : o.dst = some d) (hdn : Nat.blt d E.N = true) (hg : gd E.ol L o = some true) (hc : okc E o .e = true) (ht : Takes H pre F)
    (hC : E.dr = true → ∀ v hl w', post v hl → WS E.w0 (hl ++ F) w' → E.C w')
    (k : ∀ v hl, post v hl → G E D rest ((d, v) :: L) (hl ++ F)) : G E D (o :: rest) L H := by
  refine G.takes ht ?_
  refine G.e hd hdn hg hc (e_callv ho hy hx hb rfl hs) ?_ ?_
  · rintro hdr v H' w' ⟨hl, hp, rfl⟩ hw'; exact hC hdr v hl w' hp hw'
  · rintro v H' ⟨hl, hp, rfl⟩; exact k v hl hp
theorem CG.ownSome {c : Code} {T sz n : Nat} (v : Value) {xs : List Value} {H1 : List HP} (ht : Take H (own T sz v n xs) H1) (hn : 0 < n) (k : ∀ g cap, v = .slice (some ⟨g, 0, none⟩) n cap → CG P w0 N c Q D L H) : CG P w0 N c Q D L H := by
  intro a w hf hw
  obtain ⟨g, cap, cur, h1, _⟩ := (hw.take1 ht).openOwn hn
  exact k g cap h1 a w hf hw
theorem q_eqsl {o : Oper} {x y : Operand} {T U e : TypeId} {ad : Option Addr} {n c : Nat} (ho : o.op = .binOp .eql T x y U) (hx : ev L x = some (.slice ad n c)) (hy : ev L y = some (.slice none 0 0)) (hs : sliceE P T = some e) : QOp P L o (.bool ad.isNone) := q_bin ho hx hy fun w => by
  have h := run_equal_slice_nil w T e ad n c (sliceE_spec hs)
  have h2 : (binOp .eql T (.slice ad n c) (.slice none 0 0)).run P w = .ok (.bool ad.isNone) w := by
    show (Sem.run P (do let b ← Op.equal T (.slice ad n c) (.slice none 0 0); pure (Value.bool b)) w) = _
    simp only [Sem.run_bind, h]; rfl
  rw [eqGuard_at_slice]
  simpa using h2
end
end Go.Eng
/-
  A region whose drawn order leaves effects unordered: walked once for each order of theirs. Speaks of no program.
-/
set_option linter.unusedVariables false
set_option linter.unusedSimpArgs false
namespace Go.Eng
/- orders of a list -/
inductive Tr (com : Nat → Nat → Bool) : List Nat → List Nat → Prop
  | nil : Tr com [] []
  | cons {k l t r} : (∀ x ∈ t, com k x = true) → Tr com l (t ++ r) → Tr com (k :: l) (t ++ k :: r)
theorem sub_rest {x y k : Nat} {t r : List Nat} (hx : x ≠ k) (hy : y ≠ k) (hk : k ∉ t ++ r) (h : [x, y].Sublist (t ++ k :: r)) : [x, y].Sublist (t ++ r) := by
  have h1 := h.filter (fun z => z != k)
  have e1 : [x, y].filter (fun z => z != k) = [x, y] := by simp [hx, hy]
  have e2 : (t ++ k :: r).filter (fun z => z != k) = t ++ r := by
    have : ∀ l : List Nat, k ∉ l → l.filter (fun z => z != k) = l := fun l hl => List.filter_eq_self.2 fun z hz => by
      simp only [bne_iff_ne, ne_eq]; intro e; subst e; exact hl hz
    simp only [List.mem_append, not_or] at hk
    rw [List.filter_append, List.filter_cons]
    simp [this t hk.1, this r hk.2]
  rw [e1, e2] at h1; exact h1
theorem sub_anti {x k : Nat} {s : List Nat} (hn : s.Nodup) (h1 : [x, k].Sublist s) (h2 : [k, x].Sublist s) : False := by
  induction s with
  | nil => cases h1
  | cons a s ih =>
    have hn' := List.nodup_cons.1 hn
    cases h1 with
    | cons _ h1 =>
      cases h2 with
      | cons _ h2 => exact ih hn'.2 h1 h2
      | cons_cons _ h2 => exact hn'.1 (h1.subset (by simp))
    | cons_cons _ h1 =>
      cases h2 with
      | cons _ h2 => exact hn'.1 (h2.subset (by simp))
      | cons_cons _ h2 => exact hn'.1 (h1.subset (by simp))
theorem sub_trans {x y z : Nat} {s : List Nat} (hn : s.Nodup) (h1 : [x, y].Sublist s) (h2 : [y, z].Sublist s) : [x, z].Sublist s := by
  induction s with
  | nil => cases h1
  | cons a s ih =>
    have hn' := List.nodup_cons.1 hn
    cases h1 with
    | cons _ h1 =>
      cases h2 with
      | cons _ h2 => exact (ih hn'.2 h1 h2).cons _
      | cons_cons _ h2 => exact absurd (h1.subset (by simp)) hn'.1
    | cons_cons _ h1 =>
      cases h2 with
      | cons _ h2 => exact .cons_cons _ ((List.sublist_cons_self y [z]).trans h2)
      | cons_cons _ h2 => exact .cons_cons _ h2
theorem tr_of {com : Nat → Nat → Bool} : ∀ (l s : List Nat), s.Nodup → l.Perm s → l.Pairwise (fun x y => com x y = true ∨ [x, y].Sublist s) → Tr com l s
  | [], s, _, hp, _ => by rw [List.nil_perm.1 hp]; exact .nil
  | k :: l, s, hn, hp, hw => by
    have hk : k ∈ s := hp.subset (by simp)
    obtain ⟨t, r, rfl⟩ := List.append_of_mem hk
    have hp2 : l.Perm (t ++ r) := (List.perm_cons k).1 (hp.trans List.perm_middle)
    have hn2 := List.nodup_cons.1 (List.perm_middle.nodup_iff.1 hn)
    obtain ⟨h1, h2⟩ := List.pairwise_cons.1 hw
    have hkl : k ∉ l := fun h => hn2.1 (hp2.subset h)
    refine .cons ?_ (tr_of l (t ++ r) hn2.2 hp2 ?_)
    · intro x hx
      refine (h1 x (hp2.symm.subset (by simp [hx]))).resolve_right fun h => sub_anti hn h ?_
      obtain ⟨t1, t2, rfl⟩ := List.append_of_mem hx
      have : [x, k] = [x] ++ [k] := rfl
      rw [this]
      refine List.Sublist.append ?_ ?_
      · simp
      · simp
    · refine (List.Pairwise.and_mem.1 h2).imp ?_
      rintro x y ⟨hx, hy, h⟩
      rcases h with h | h
      · exact .inl h
      · exact .inr (sub_rest (fun (e : x = k) => hkl (e ▸ hx)) (fun (e : y = k) => hkl (e ▸ hy)) hn2.1 h)
section
variable {P : Program} {C : World → Prop} {cl : Oper → Cls} {ops : Array Oper} {md : Region.Mode}
inductive Lg (md : Region.Mode) (ops : Array Oper) : Array Bool → List Nat → Prop
  | nil {li} : Region.ready md ops li = [] → Lg md ops li []
  | cons {li i s} : i ∈ Region.ready md ops li → Lg md ops (li.setIfInBounds i true) s → Lg md ops li (i :: s)
theorem filter_lt {p q : Nat → Bool} {i : Nat} : ∀ {l : List Nat}, (∀ x ∈ l, q x = true → p x = true) → i ∈ l → p i = true → q i = false → (l.filter q).length < (l.filter p).length
  | [], _, hi, _, _ => by cases hi
  | x :: l, h, hi, h1, h2 => by
    have hle : (l.filter q).length ≤ (l.filter p).length := by
      rw [← List.countP_eq_length_filter, ← List.countP_eq_length_filter]
      exact List.countP_mono_left fun y hy => h y (List.mem_cons_of_mem _ hy)
    rcases List.mem_cons.1 hi with rfl | hi
    · rw [List.filter_cons_of_pos h1, List.filter_cons_of_neg (by simp [h2])]; simp; omega
    · have ih := filter_lt (p := p) (q := q) (fun y hy => h y (List.mem_cons_of_mem _ hy)) hi h1 h2
      cases hq : q x
      · rw [List.filter_cons_of_neg (by simp [hq])]
        cases hp : p x
        · rw [List.filter_cons_of_neg (by simp [hp])]; exact ih
        · rw [List.filter_cons_of_pos hp]; simp; omega
      · rw [List.filter_cons_of_pos hq, List.filter_cons_of_pos (h x (by simp) hq)]; simp; exact ih
theorem lin_legal : ∀ (fuel t : Nat) (li : Array Bool), ((List.range ops.size).filter fun i => !li.getD i true).length ≤ fuel → Lg md ops li (Region.linearise.go md ops fuel t li [])
  | 0, t, li, h => by
    refine .nil ?_
    cases hr : Region.ready md ops li with
    | nil => rfl
    | cons i r =>
      obtain ⟨h1, o, ho, _⟩ := mem_ready.1 (show i ∈ Region.ready md ops li by rw [hr]; exact List.mem_cons_self)
      have hlt := (Array.getElem?_eq_some_iff.1 ho).1
      have h0 := List.eq_nil_of_length_eq_zero (Nat.le_zero.1 h)
      have : i ∈ ((List.range ops.size).filter fun i => !li.getD i true) := by rw [List.mem_filter]; exact ⟨by simpa using hlt, by simp [h1]⟩
      rw [h0] at this; cases this
  | fuel + 1, t, li, h => by
    simp only [Region.linearise.go]
    change Lg md ops li (match (Region.ready md ops li)[t % (Region.ready md ops li).length]? with
      | some i => Region.linearise.go md ops fuel (t / (Region.ready md ops li).length) (li.setIfInBounds i true) [i]
      | none => [].reverse)
    cases hi : (Region.ready md ops li)[t % (Region.ready md ops li).length]? with
    | none =>
      refine .nil ?_
      cases hr : Region.ready md ops li with
      | nil => rfl
      | cons x xs =>
        rw [hr] at hi
        have hlt : t % (x :: xs).length < (x :: xs).length := Nat.mod_lt _ (by simp)
        have := List.getElem?_eq_none_iff.1 hi
        omega
    | some i =>
      simp only []
      rw [linearise_go_acc, List.reverse_singleton, List.singleton_append]
      have hm := List.mem_of_getElem? hi
      refine .cons hm (lin_legal fuel _ _ ?_)
      obtain ⟨h1, o, ho, _⟩ := mem_ready.1 hm
      have hlt := (Array.getElem?_eq_some_iff.1 ho).1
      have := filter_lt (p := fun i => !li.getD i true) (q := fun j => !(li.setIfInBounds i true).getD j true) (i := i) (l := List.range ops.size) (fun x _ hx => by
        by_cases e : i = x
        · subst e
          simp only [Array.getD_eq_getD_getElem?] at hx ⊢
          by_cases hs : i < li.size
          · simp [hs] at hx
          · rw [Array.getElem?_eq_none (by simpa using hs)] at hx; simp at hx
        · rwa [getD_set_ne true e] at hx) (by simpa using hlt) (by simp [h1]) (by
          simp only [Array.getD_eq_getD_getElem?] at h1 ⊢
          by_cases hs : i < li.size
          · simp [hs]
          · rw [Array.getElem?_eq_none (by simpa using hs)]; simp)
      omega
theorem set_false {li : Array Bool} {i j : Nat} (h0 : li.getD i true = false) (h : (li.setIfInBounds i true).getD j true = false) : j ≠ i ∧ li.getD j true = false := by
  by_cases e : i = j
  · subst e
    exfalso
    simp only [Array.getD_eq_getD_getElem?] at h h0
    by_cases hs : i < li.size
    · simp [hs] at h
    · rw [Array.getElem?_eq_none (by omega)] at h0; simp at h0
  · rw [getD_set_ne true e] at h; exact ⟨fun e' => e e'.symm, h⟩
theorem Lg.nodup {li : Array Bool} {s : List Nat} (h : Lg md ops li s) : s.Nodup ∧ ∀ i ∈ s, li.getD i true = false ∧ i < ops.size := by
  induction h with
  | nil => exact ⟨List.nodup_nil, fun i hi => by cases hi⟩
  | @cons li i s hm _ ih =>
    obtain ⟨h1, o, ho, _⟩ := mem_ready.1 hm
    have hlt := (Array.getElem?_eq_some_iff.1 ho).1
    refine ⟨List.nodup_cons.2 ⟨fun hi => (set_false h1 (ih.2 i hi).1).1 rfl, ih.1⟩, fun j hj => ?_⟩
    rcases List.mem_cons.1 hj with rfl | hj
    · exact ⟨h1, hlt⟩
    · exact ⟨(set_false h1 (ih.2 j hj).1).2, (ih.2 j hj).2⟩
theorem Lg.edge {li : Array Bool} {s : List Nat} (h : Lg md ops li s) : ∀ i ∈ s, ∀ o, ops[i]? = some o → ∀ e ∈ o.after, Region.binds md e = true → li.getD e.on false = true ∨ [e.on, i].Sublist s := by
  induction h with
  | nil => intro i hi; cases hi
  | @cons li i s hm _ ih =>
    obtain ⟨h1, o, ho, hd⟩ := mem_ready.1 hm
    intro j hj o' ho' e he hb
    rcases List.mem_cons.1 hj with rfl | hj
    · rw [ho] at ho'; cases ho'; exact .inl (hd e he hb)
    · rcases ih j hj o' ho' e he hb with h2 | h2
      · by_cases ee : i = e.on
        · rw [← ee]; exact .inr (.cons_cons _ (List.singleton_sublist.2 hj))
        · rw [getD_set_ne false ee] at h2; exact .inl h2
      · exact .inr (h2.cons _)
def textB (md : Region.Mode) (ops : Array Oper) (n : Nat) : Bool := (List.range n).all fun i => match ops[i]? with | some o => o.after.all fun e => !Region.binds md e || Nat.blt e.on i | none => true
theorem textB_spec {n : Nat} (h : textB md ops n = true) {i : Nat} (hi : i < n) {o : Oper} (ho : ops[i]? = some o) {e : Edge} (he : e ∈ o.after) (hb : Region.binds md e = true) : e.on < i := by
  have := List.all_eq_true.1 h i (by simpa using hi)
  rw [ho] at this
  have := Array.all_eq_true'.1 this e he
  simp only [hb, Bool.not_true, Bool.false_or] at this
  simp [Nat.blt] at this; omega
theorem Lg.full {li : Array Bool} {s : List Nat} (ht : textB md ops ops.size = true) (h : Lg md ops li s) : li.size = ops.size → ∀ i, i < ops.size → i ∈ s ∨ li.getD i true = true := by
  induction h with
  | @nil li hr =>
    intro hs i
    induction i using Nat.strongRecOn with
    | _ i ih =>
      intro hi
      right
      cases hx : li.getD i true with
      | true => rfl
      | false =>
        exfalso
        have : i ∈ Region.ready md ops li := mem_ready.2 ⟨hx, ops[i], Array.getElem?_eq_getElem hi, fun e he hb => by
          have hlt := textB_spec ht hi (Array.getElem?_eq_getElem hi) he hb
          have h2 := (ih e.on hlt (by omega)).resolve_left (by simp)
          have hlt2 : e.on < li.size := by omega
          rw [Array.getD_eq_getD_getElem?, Array.getElem?_eq_getElem hlt2] at h2 ⊢
          exact h2⟩
        rw [hr] at this; cases this
  | @cons li i s hm _ ih =>
    intro hs j hj
    by_cases e : i = j
    · subst e; exact .inl (by simp)
    · rcases ih (by simpa using hs) j hj with h | h
      · exact .inl (List.mem_cons_of_mem _ h)
      · rw [getD_set_ne true e] at h; exact .inr h

/-- what stands ahead of each operation -/
def ancT (md : Region.Mode) (l : List Oper) : List (List Nat) := l.foldl (fun T o => T ++ [o.after.foldl (fun acc e => if Region.binds md e then (e.on :: T.getD e.on []).foldl (fun acc x => if acc.contains x then acc else x :: acc) acc else acc) []]) []
def ancOk (md : Region.Mode) (ops : Array Oper) (T : List (List Nat)) (n : Nat) : Bool := (List.range n).all fun k => (T.getD k []).all fun x => match ops[k]? with
  | some o => o.after.any fun e => Region.binds md e && (Nat.beq e.on x || (T.getD e.on []).contains x)
  | none => false
theorem anc_spec {T : List (List Nat)} {s : List Nat} (ht : textB md ops ops.size = true) (hT : ancOk md ops T ops.size = true) (hn : s.Nodup) (hf : ∀ i, i < ops.size → i ∈ s)
    (he : ∀ i ∈ s, ∀ o, ops[i]? = some o → ∀ e ∈ o.after, Region.binds md e = true → [e.on, i].Sublist s) : ∀ k, k < ops.size → ∀ x ∈ T.getD k [], [x, k].Sublist s := by
  intro k
  induction k using Nat.strongRecOn with
  | _ k ih =>
    intro hk x hx
    have h1 := List.all_eq_true.1 (List.all_eq_true.1 hT k (by simpa using hk)) x hx
    rw [Array.getElem?_eq_getElem hk] at h1
    obtain ⟨i, hi, h2⟩ := Array.any_eq_true.1 h1
    rw [Bool.and_eq_true, Bool.or_eq_true] at h2
    have hm : ops[k].after[i] ∈ ops[k].after := Array.getElem_mem _
    have h3 := he k (hf k hk) _ (Array.getElem?_eq_getElem hk) _ hm h2.1
    rcases h2.2 with h4 | h4
    · rw [← Nat.eq_of_beq_eq_true h4]; exact h3
    · have hlt := textB_spec ht hk (Array.getElem?_eq_getElem hk) hm h2.1
      exact sub_trans hn (ih _ hlt (by omega) x (by simpa using h4)) h3

def comI (cl : Oper → Cls) (ops : Array Oper) (i j : Nat) : Bool := match ops[i]?, ops[j]? with | some x, some y => commuteB cl ops x y | _, _ => false
inductive Ask where
  | ord (l : List Nat)
  | ask (i j : Nat) (t f : Ask)
def pairB (p : Nat → Nat → Bool) : List Nat → Bool
  | [] => true
  | k :: l => l.all (p k) && pairB p l
theorem pairB_spec {p : Nat → Nat → Bool} : ∀ {l : List Nat}, pairB p l = true → l.Pairwise (fun x y => p x y = true)
  | [], _ => .nil
  | k :: l, h => by
    simp only [pairB, Bool.and_eq_true] at h
    exact .cons (fun x hx => List.all_eq_true.1 h.1 x hx) (pairB_spec h.2)
def askP (cl : Oper → Cls) (ops : Array Oper) (T : List (List Nat)) (x y : Nat) : Bool := (T.getD y []).contains x || comI cl ops x y
/-- i is known to stand ahead of j -/
def addT (T : List (List Nat)) (i j : Nat) : List (List Nat) := T.zipIdx.map fun p => if Nat.beq p.2 j || p.1.contains j then (i :: T.getD i []) ++ p.1 else p.1
theorem addT_spec {T : List (List Nat)} {i j n : Nat} {s : List Nat} (hn : s.Nodup) (hi : i < n) (hij : [i, j].Sublist s) (hT : ∀ k, k < n → ∀ x ∈ T.getD k [], [x, k].Sublist s) : ∀ k, k < n → ∀ x ∈ (addT T i j).getD k [], [x, k].Sublist s := by
  intro k hk x hx
  rw [List.getD_eq_getElem?_getD] at hx
  unfold addT at hx
  rw [List.getElem?_map, List.getElem?_zipIdx] at hx
  cases hr : T[k]? with
  | none => rw [hr] at hx; simp at hx
  | some r =>
    have hTk : T.getD k [] = r := by rw [List.getD_eq_getElem?_getD, hr]; rfl
    rw [hr] at hx
    simp only [Option.map_some, Option.getD_some, Nat.zero_add] at hx
    split at hx
    · rename_i hc
      have hik : [i, k].Sublist s := by
        rw [Bool.or_eq_true] at hc
        rcases hc with hc | hc
        · rw [Nat.eq_of_beq_eq_true hc]; exact hij
        · exact sub_trans hn hij (hT k hk j (by rw [hTk]; simpa using hc))
      rcases List.mem_append.1 hx with hx | hx
      · rcases List.mem_cons.1 hx with rfl | hx
        · exact hik
        · exact sub_trans hn (hT i hi x hx) hik
      · exact hT k hk x (by rw [hTk]; exact hx)
    · exact hT k hk x (by rw [hTk]; exact hx)
def Ask.ok (cl : Oper → Cls) (ops : Array Oper) (n : Nat) : List (List Nat) → Ask → Bool
  | T, .ord l => decide l.Nodup && l.all (fun i => Nat.blt i n) && (List.range n).all (fun i => l.contains i) && pairB (askP cl ops T) l
  | T, .ask i j t f => !Nat.beq i j && Nat.blt i n && Nat.blt j n && t.ok cl ops n (addT T i j) && f.ok cl ops n (addT T j i)
def Ask.orders : Ask → List (List Nat)
  | .ord l => [l]
  | .ask _ _ t f => t.orders ++ f.orders
theorem either {i j : Nat} {s : List Nat} (hi : i ∈ s) (hj : j ∈ s) (hne : i ≠ j) : [i, j].Sublist s ∨ [j, i].Sublist s := by
  obtain ⟨t, r, rfl⟩ := List.append_of_mem hi
  rcases List.mem_append.1 hj with h | h
  · right
    have e : [j, i] = [j] ++ [i] := rfl
    rw [e]; exact List.Sublist.append (by simpa using h) (by simp)
  · left
    have e : [i, j] = [] ++ [i, j] := rfl
    rw [e]
    refine List.Sublist.append (List.nil_sublist _) (.cons_cons _ ?_)
    rcases List.mem_cons.1 h with e | h
    · exact absurd e.symm hne
    · simpa using h
theorem Ask.spec {s : List Nat} (hn : s.Nodup) (hs : ∀ i, i ∈ s ↔ i < ops.size) : ∀ (t : Ask) (T : List (List Nat)), (∀ k, k < ops.size → ∀ x ∈ T.getD k [], [x, k].Sublist s) →
    t.ok cl ops ops.size T = true → ∃ l ∈ t.orders, Tr (comI cl ops) l s
  | .ord l, T, hT, h => by
    simp only [Ask.ok, Bool.and_eq_true, decide_eq_true_eq] at h
    obtain ⟨⟨⟨h1, h2⟩, h3⟩, h4⟩ := h
    have hlt : ∀ x ∈ l, x < ops.size := fun x hx => by
      have := List.all_eq_true.1 h2 x hx; simp [Nat.blt] at this; omega
    refine ⟨l, by simp [Ask.orders], tr_of l s hn ((List.perm_ext_iff_of_nodup h1 hn).2 fun i => ?_) ?_⟩
    · rw [hs]
      refine ⟨hlt i, fun hi => ?_⟩
      have := List.all_eq_true.1 h3 i (by simpa using hi)
      simpa using this
    · refine (List.Pairwise.and_mem.1 (pairB_spec h4)).imp ?_
      rintro x y ⟨hx, hy, h⟩
      simp only [askP, Bool.or_eq_true] at h
      rcases h with h | h
      · exact .inr (hT y (hlt y hy) x (by simpa using h))
      · exact .inl h
  | .ask i j t f, T, hT, h => by
    simp only [Ask.ok, Bool.and_eq_true] at h
    obtain ⟨⟨⟨⟨h1, h2⟩, h3⟩, h4⟩, h5⟩ := h
    have hi : i < ops.size := by simp [Nat.blt] at h2; omega
    have hj : j < ops.size := by simp [Nat.blt] at h3; omega
    have hne : i ≠ j := fun e => by subst e; simp at h1
    rcases either ((hs i).2 hi) ((hs j).2 hj) hne with h6 | h6
    · obtain ⟨l, hl, ht⟩ := Ask.spec hn hs t (addT T i j) (addT_spec hn hi h6 hT) h4
      exact ⟨l, by simp [Ask.orders, hl], ht⟩
    · obtain ⟨l, hl, ht⟩ := Ask.spec hn hs f (addT T j i) (addT_spec hn hj h6 hT) h5
      exact ⟨l, by simp [Ask.orders, hl], ht⟩

def wpI (P : Program) (C : World → Prop) (cl : Oper → Cls) (ops : Array Oper) (Q : Act → World → Prop) : List Nat → Act → World → Prop
  | [], a, w => Q a w
  | i :: r, a, w => tOp P C cl ops i (wpI P C cl ops Q r) a w
theorem tOp_mono {i : Nat} {K K' : Act → World → Prop} {a : Act} {w : World} (hz : ∀ (i : Nat) o, ops[i]? = some o → cl o ≠ .z) (hC : C w) (h : ∀ a' w', C w' → K a' w' → K' a' w') (hh : tOp P C cl ops i K a w) : tOp P C cl ops i K' a w := by
  unfold tOp at *
  cases ho : ops[i]? with
  | none => simp only [ho] at hh ⊢; exact h _ _ hC hh
  | some o => simp only [ho] at hh ⊢; exact gOp_mono (hz i o ho) hC h hh
theorem bubble {Q : Act → World → Prop} (hz : ∀ (i : Nat) o, ops[i]? = some o → cl o ≠ .z) (hsel : ∀ (j : Nat) (o : Oper) cs b, ops[j]? = some o → o.op ≠ .select cs b) {k : Nat} {r : List Nat} :
    ∀ (t : List Nat) (a : Act) (w : World), C w → (∀ x ∈ t, comI cl ops k x = true) → wpI P C cl ops Q (k :: (t ++ r)) a w → wpI P C cl ops Q (t ++ k :: r) a w
  | [], a, w, _, _, h => h
  | x :: t, a, w, hC, hc, h => by
    have hx := hc x (by simp)
    have h2 : tOp P C cl ops x (tOp P C cl ops k (wpI P C cl ops Q (t ++ r))) a w := by
      have h : tOp P C cl ops k (tOp P C cl ops x (wpI P C cl ops Q (t ++ r))) a w := h
      unfold comI at hx
      cases hok : ops[k]? with
      | none => rw [hok] at hx; cases hx
      | some ok =>
        cases hox : ops[x]? with
        | none => rw [hok, hox] at hx; cases hx
        | some ox =>
          rw [hok, hox] at hx
          unfold tOp at h ⊢
          simp only [hok, hox] at h ⊢
          exact swap hx (fun cs b => hsel k ok cs b hok) (fun cs b => hsel x ox cs b hox) hC h
    exact tOp_mono hz hC (fun a' w' hC' h' => bubble hz hsel t a' w' hC' (fun y hy => hc y (by simp [hy])) h') h2
theorem wpI_tr {Q : Act → World → Prop} (hz : ∀ (i : Nat) o, ops[i]? = some o → cl o ≠ .z) (hsel : ∀ (j : Nat) (o : Oper) cs b, ops[j]? = some o → o.op ≠ .select cs b) {l s : List Nat} (ht : Tr (comI cl ops) l s) :
    ∀ (a : Act) (w : World), C w → wpI P C cl ops Q l a w → wpI P C cl ops Q s a w := by
  induction ht with
  | nil => exact fun a w _ h => h
  | @cons k l t r hc _ ih =>
    intro a w hC h
    refine bubble hz hsel t a w hC hc ?_
    exact tOp_mono hz hC (fun a' w' hC' h' => ih a' w' hC' h') h
theorem wpOps_of_I {Q : Exit → Act → World → Prop} (hz : ∀ (i : Nat) o, ops[i]? = some o → cl o ≠ .z) : ∀ (s : List Nat) (a : Act) (w : World), C w → wpI P C cl ops (Q .normal) s a w → wpOps P ops Q s a w
  | [], a, w, _, h => by unfold wpOps; exact h
  | i :: s, a, w, hC, h => by
    rw [wpOps_cons]
    refine wpOp_of_tOp hC (fun a' w' hC' h' => ?_) h
    rcases hC' with hC' | ⟨o, ho, ho'⟩
    · exact wpOps_of_I hz s a' w' hC' h'
    · exact absurd ho' (hz i o ho)
def pick (ol : List Oper) : List Nat → List Oper
  | [] => []
  | i :: r => match nth ol i with | some o => o :: pick ol r | none => pick ol r
theorem wpI_of_pick {Q : Act → World → Prop} {l : List Oper} (hz : ∀ (i : Nat) o, l.toArray[i]? = some o → cl o ≠ .z) : ∀ (s : List Nat) (a : Act) (w : World), C w → wpT P C cl l.toArray Q (pick l s) a w → wpI P C cl l.toArray Q s a w
  | [], a, w, _, h => h
  | i :: s, a, w, hC, h => by
    unfold pick at h
    unfold wpI tOp
    have e : l.toArray[i]? = nth l i := by rw [nth_eq]; simp
    rw [e]
    cases ho : nth l i with
    | none => rw [ho] at h; exact wpI_of_pick hz s a w hC h
    | some o =>
      rw [ho] at h
      exact gOp_mono (hz i o (by rw [e, ho])) hC (fun a' w' hC' h' => wpI_of_pick hz s a' w' hC' h') h

def askB (cl : Oper → Cls) (md : Region.Mode) (l : List Oper) (t : Ask) : Bool := Region.noSelect l.toArray && l.all (fun o => !isZ (cl o)) && textB md l.toArray l.length && ancOk md l.toArray (ancT md l) l.length && t.ok cl l.toArray l.length (ancT md l)
/-- A region that draws its order: once for each order of what does not commute. -/
theorem wp_region_ask {id : Nat} {Q : Exit → Act → World → Prop} {a : Act} {w : World} {l : List Oper} {t : Ask} (hm : P.follows .mixedOrders = true) (hB : askB cl .any l t = true) (hC : C { w with drawn := w.drawn + 1 })
    (h : ∀ o ∈ t.orders, wpT P C cl l.toArray (Q .normal) (pick l o) a { w with drawn := w.drawn + 1 }) : (Code.region id l.toArray true).wp P Q a w := by
  simp only [askB, Bool.and_eq_true] at hB
  obtain ⟨⟨⟨⟨h1, h2⟩, h3⟩, h4⟩, h5⟩ := hB
  have hz : ∀ (i : Nat) o, l.toArray[i]? = some o → cl o ≠ .z := fun i o ho hzz => by
    have hm : o ∈ l := List.mem_of_getElem? (by simpa using ho)
    have := List.all_eq_true.1 h2 o hm
    rw [hzz] at this; cases this
  have hsz : l.toArray.size = l.length := rfl
  refine wp_region_draw fun u => ?_
  simp only [Region.schedule, hm, Bool.true_or, if_true]
  have hlg : Lg .any l.toArray (Array.replicate l.toArray.size false) (Region.linearise .any l.toArray u) := lin_legal _ _ _ (by
    refine Nat.le_trans (List.length_filter_le _ _) (by simp))
  obtain ⟨hn, hlt⟩ := hlg.nodup
  have hf : ∀ i, i < l.toArray.size → i ∈ Region.linearise .any l.toArray u := fun i hi => (hlg.full h3 (by simp) i hi).resolve_right (by
    rw [Array.getD_eq_getD_getElem?, Array.getElem?_eq_getElem (by simpa using hi)]; simp)
  have he : ∀ i ∈ Region.linearise .any l.toArray u, ∀ o, l.toArray[i]? = some o → ∀ e ∈ o.after, Region.binds .any e = true → [e.on, i].Sublist (Region.linearise .any l.toArray u) := fun i hi o ho e hee hb =>
    (hlg.edge i hi o ho e hee hb).resolve_left (by
      rw [Array.getD_eq_getD_getElem?]
      by_cases hx : e.on < l.toArray.size
      · rw [Array.getElem?_eq_getElem (by simpa using hx)]; simp
      · rw [Array.getElem?_eq_none (by simpa using hx)]; simp)
  obtain ⟨o, ho, htr⟩ := Ask.spec hn (fun i => ⟨fun hi => (hlt i hi).2, hf i⟩) t _ (anc_spec h3 h4 hn hf he) h5
  exact wpOps_of_I hz _ _ _ hC (wpI_tr hz (fun j oj cs b hj => Region.noSelect_spec h1 j oj cs b hj) htr _ _ hC (wpI_of_pick hz o a _ hC (h o ho)))
end
section
variable {P : Program} {w0 : World} {N : Nat} {Q : Exit → Act → World → Prop} {D : List Deferred} {L : List (Nat × Value)} {H : List HP}
theorem CG.regA {id : Nat} {l : List Oper} (t : Ask) (qs : List Nat) (C : World → Prop) (hm : P.follows .mixedOrders = true) (hB : askB (clsQ qs) .any l t = true) (hC : ∀ w, WS w0 H w → C w) (h : ∀ o ∈ t.orders, G ⟨P, true, C, clsQ qs, l, Q, w0, N⟩ D (pick l o) L H) : CG P w0 N (.region id l.toArray true) Q D L H := by
  intro a w hf hw
  have hw' : WS w0 H { w with drawn := w.drawn + 1 } := hw.heapEq rfl rfl rfl rfl
  exact wp_region_ask (C := C) (cl := clsQ qs) hm hB (hC _ hw') (fun o ho => h o ho a _ hf hw' (hC _ hw'))
end
/-- worlds that keep a part of the memory -/
def Keeps (w0 : World) (K : List HP) (w : World) : Prop := ∃ H, WS w0 (K ++ H) w
theorem Keeps.of {w0 w : World} {H K R : List HP} (hw : WS w0 H w) (ht : Takes H K R) : Keeps w0 K w := ⟨R, hw.takes ht⟩
/-- a read of what is kept is quiet -/
theorem G.rK {P : Program} {dr : Bool} {K : List HP} {cl : Oper → Cls} {ol : List Oper} {Q : Exit → Act → World → Prop} {w0 : World} {N : Nat} {D : List Deferred} {o : Oper} {rest : List Oper} {L : List (Nat × Value)} {H : List HP} {v : Value} {d : Nat}
    (hd : o.dst = some d) (hn : Nat.blt d N = true) (hg : gd ol L o = some true) (hdr : dr = true) (hc : okc ⟨P, dr, Keeps w0 K, cl, ol, Q, w0, N⟩ o .q = true) (h : ∀ R, ROp P L (K ++ R) o v)
    (k : G ⟨P, dr, Keeps w0 K, cl, ol, Q, w0, N⟩ D rest ((d, v) :: L) H) : G ⟨P, dr, Keeps w0 K, cl, ol, Q, w0, N⟩ D (o :: rest) L H :=
  G.qC (E := ⟨P, dr, Keeps w0 K, cl, ol, Q, w0, N⟩) hd hn hg hdr hc (fun D a w hf hw => by obtain ⟨R, hR⟩ := hw; exact h R _ _ _ _ _ hf hR) k
theorem G.saK {P : Program} {dr : Bool} {cl : Oper → Cls} {ol : List Oper} {Q : Exit → Act → World → Prop} {w0 : World} {N : Nat} {D : List Deferred} {o : Oper} {rest : List Oper} {L : List (Nat × Value)} {H H' K R : List HP} {x y : Operand} {T U b : Nat} {cs vs : List Value}
    (hT : sizeB P T = some vs.length) (k : G ⟨P, dr, Keeps w0 K, cl, ol, Q, w0, N⟩ D rest L H') (ho : o.op = .store T x y := by exact rfl) (hx : ev L x = some (.pointer (some ⟨b, 0, none⟩)) := by exact rfl) (hy : ev L y = some (.agg vs.toArray) := by exact rfl) (hd : o.dst = none := by exact rfl) (hg : gd ol L o = some true := by exact rfl)
    (hc : okc ⟨P, dr, Keeps w0 K, cl, ol, Q, w0, N⟩ o .e = true := by exact rfl) (hv : vs.all (·.oneCell') = true := by exact rfl) (hr : Rep H (cel b U cs) (cel b U vs) H' := by repeat (first | exact Rep.here | apply Rep.there)) (hl : Nat.beq vs.length cs.length = true := by exact rfl)
    (ht : Takes H' K R := by repeat (first | exact Takes.nil | apply Takes.cons | exact Take.here | apply Take.there)) :
    G ⟨P, dr, Keeps w0 K, cl, ol, Q, w0, N⟩ D (o :: rest) L H :=
  .e0 (E := ⟨P, dr, Keeps w0 K, cl, ol, Q, w0, N⟩) hd hg hc (e_storeall ho hx hy hr hT hv hl) (fun _ _ _ _ h hw => by obtain ⟨_, rfl⟩ := h; exact Keeps.of hw ht) (fun _ _ h => by obtain ⟨_, rfl⟩ := h; exact k)
end Go.Eng
/-
  Maps as functions. Speaks of no program.
-/
set_option linter.unusedVariables false
set_option linter.unusedSimpArgs false
namespace Go.Eng

section
variable {κ : Type} [DecidableEq κ]
abbrev Ent (κ : Type) := κ × Value × Nat
def entOf (kv : κ → Value) (p : Ent κ) : MapEntry := { key := kv p.1, val := p.2.1, born := p.2.2 }
def look : List (Ent κ) → κ → Option Value
  | [], _ => none
  | p :: l, k => if k = p.1 then some p.2.1 else look l k
/-- a map that is this function -/
def mapH (kv : κ → Value) (b : Nat) (f : κ → Option Value) : HP := fun h => ∃ (l : List (Ent κ)) (clock : Nat), h b = some (.map (l.map (entOf kv)).toArray clock) ∧ ∀ k, look l k = f k
def upd (f : κ → Option Value) (k : κ) (v : Value) : κ → Option Value := fun k' => if k' = k then some v else f k'

structure KeyK (P : Program) (T : TypeId) (kv : κ → Value) : Prop where
  desc : ∃ d, P.underlying T = some d ∧ ∀ a b, Instr.sameNow d (kv a) (kv b) = some (decide (a = b))
  check : ∀ (e : Bool) (k : κ) (w : World), (Instr.checkKey e 10000 T (kv k)).run P w = .ok () w
  stays : ∀ k, Instr.sameBits 10000 (kv k) (kv k) = true

theorem findNow_look {d : TypeDesc} {kv : κ → Value} (hd : ∀ a b, Instr.sameNow d (kv a) (kv b) = some (decide (a = b))) (k : κ) : ∀ (l : List (Ent κ)) (i : Nat),
    (Instr.findNow d (kv k) (l.map (entOf kv)) i = some none ∧ look l k = none) ∨
    ∃ j v n, Instr.findNow d (kv k) (l.map (entOf kv)) i = some (some (i + j, v)) ∧ look l k = some v ∧ l[j]? = some (k, v, n) ∧ ∀ x : Value, ∀ k', look (l.modify j fun p => (k, x, p.2.2)) k' = if k' = k then some x else look l k'
  | [], i => .inl ⟨rfl, rfl⟩
  | p :: l, i => by
    by_cases h : k = p.1
    · right
      obtain ⟨pk, pv, pn⟩ := p
      simp only at h
      subst h
      refine ⟨0, pv, pn, ?_, ?_, rfl, ?_⟩
      · simp [Instr.findNow, entOf, hd]
      · simp [look]
      · intro x k'
        by_cases hk : k' = k <;> simp [look, hk]
    · have e1 : Instr.findNow d (kv k) ((p :: l).map (entOf kv)) i = Instr.findNow d (kv k) (l.map (entOf kv)) (i + 1) := by
        simp [Instr.findNow, entOf, hd, h]
      have e2 : look (p :: l) k = look l k := by simp [look, h]
      rw [e1, e2]
      rcases findNow_look hd k l (i + 1) with ⟨h1, h2⟩ | ⟨j, v, n, h1, h2, h3, h4⟩
      · exact .inl ⟨h1, h2⟩
      · refine .inr ⟨j + 1, v, n, by rw [h1]; congr 3; omega, h2, by simpa using h3, fun x k' => ?_⟩
        rw [List.modify_succ_cons]
        simp only [look]
        rw [h4 x k']
        by_cases hk : k' = p.1
        · have hkk : ¬ p.1 = k := fun e => h e.symm
          simp [hk, hkk]
        · simp [hk]
theorem look_push {k : κ} {v : Value} {n : Nat} : ∀ {l : List (Ent κ)}, look l k = none → ∀ k', look (l ++ [(k, v, n)]) k' = if k' = k then some v else look l k'
  | [], _, k' => by simp [look]
  | p :: l, h, k' => by
    simp only [look] at h
    split at h
    · cases h
    · rename_i hp
      simp only [List.cons_append, look]
      rw [look_push h k']
      by_cases hk : k' = p.1
      · have hkk : ¬ p.1 = k := fun e => hp e.symm
        simp [hk, hkk]
      · simp [hk]

def mapE (P : Program) (T : TypeId) : Option (TypeId × TypeId) := match P.underlying T with | some (.map k e) => some (k, e) | _ => none
theorem mapE_spec {P : Program} {T k e : TypeId} (h : mapE P T = some (k, e)) : P.underlying T = some (.map k e) := by
  unfold mapE at h
  split at h
  · rename_i h'; simp only [Option.some.injEq, Prod.mk.injEq] at h; obtain ⟨rfl, rfl⟩ := h; exact h'
  · cases h
def zeroB (P : Program) (T : TypeId) : Option Value := (P.info? T).bind (·.zero)
theorem run_zero {P : Program} {T : TypeId} {z : Value} (h : zeroB P T = some z) (w : World) : (zeroValue T).run P w = .ok z w := by
  unfold zeroB at h
  cases hi : P.info? T with
  | none => rw [hi] at h; cases h
  | some i => rw [hi] at h; simp only [Option.bind_some] at h; simp [zeroValue, typeInfo, hi, h]

theorem keyStr {P : Program} {T : TypeId} (h : P.underlying T = some .string) : KeyK P T str := by
  refine ⟨⟨_, h, fun a b => ?_⟩, fun e k w => ?_, fun k => ?_⟩
  · have : ((⟨a.toArray⟩ : ByteArray) == ⟨b.toArray⟩) = decide (a = b) := by
      by_cases hab : a = b
      · subst hab; rw [decide_eq_true rfl]; exact (MapKept.bytes_beq _ _).2 rfl
      · have h1 : ¬ (⟨a.toArray⟩ : ByteArray) = ⟨b.toArray⟩ := fun e => hab (by simpa using congrArg (fun x => x.data.toList) e)
        rw [decide_eq_false hab]
        cases hx : ((⟨a.toArray⟩ : ByteArray) == ⟨b.toArray⟩) with
        | false => rfl
        | true => exact absurd ((MapKept.bytes_beq _ _).1 hx) h1
    simp [Instr.sameNow, str, this]
  · unfold Instr.checkKey; simp [run_underlying h, str]
  · simp only [Instr.sameBits, str]; exact (MapKept.bytes_beq _ _).2 rfl
def ikv (k : IntKind) (n : Int) : Value := .int k n
section
variable {P : Program} {L : List (Nat × Value)} {H : List HP} {o : Oper} {kv : κ → Value}
theorem run_findKey {T : TypeId} (K : KeyK P T kv) (k : κ) (l : List (Ent κ)) (w : World) :
    ((Instr.findKey T (kv k) (l.map (entOf kv))).run P w = .ok none w ∧ look l k = none) ∨
    ∃ j v n, (Instr.findKey T (kv k) (l.map (entOf kv))).run P w = .ok (some (j, v)) w ∧ look l k = some v ∧ l[j]? = some (k, v, n) ∧ ∀ x : Value, ∀ k', look (l.modify j fun p => (k, x, p.2.2)) k' = if k' = k then some x else look l k' := by
  obtain ⟨d, hd, hs⟩ := K.desc
  rcases findNow_look hs k l 0 with ⟨h1, h2⟩ | ⟨j, v, n, h1, h2, h3, h4⟩
  · exact .inl ⟨by simp [Instr.findKey, run_underlying hd, h1], h2⟩
  · rw [Nat.zero_add] at h1
    exact .inr ⟨j, v, n, by simp [Instr.findKey, run_underlying hd, h1], h2, h3, h4⟩
theorem WS.mapGet {w0 w : World} {b : Nat} {f : κ → Option Value} (h : WS w0 H w) (hm : Mem (mapH kv b f) H) : ∃ (l : List (Ent κ)) (clock : Nat), w.heap[b]? = some (.map (l.map (entOf kv)).toArray clock) ∧ ∀ k, look l k = f k := by
  obtain ⟨S, l, c, h1, h2⟩ := h.get hm
  exact ⟨l, c, (res_pt h1).2, h2⟩
/-- m[k] -/
theorem r_lookup {x y : Operand} {T K e b : TypeId} {k : κ} {f : κ → Option Value} {z : Value} {ok : Bool} (ho : o.op = .lookup T x y ok) (hx : ev L x = some (.map (some b))) (hy : ev L y = some (kv k)) (hT : mapE P T = some (K, e)) (hK : KeyK P K kv) (hz : zeroB P e = some z) (hm : Mem (mapH kv b f) H) :
    ROp P L H o (if ok then .tuple #[(f k).getD z, .bool (f k).isSome] else (f k).getD z) := by
  intro N D a w w0 hf hw
  obtain ⟨l, c, hb, hl⟩ := hw.mapGet hm
  unfold execOp; rw [ho]
  simp only [hf.ev hx, hf.ev hy, Sem.run_bind]
  have hT' := mapE_spec hT
  have hrun : (Instr.lookup T (.map (some b)) (kv k) ok).run P w = .ok (if ok then .tuple #[(f k).getD z, .bool (f k).isSome] else (f k).getD z) w := by
    have hch := hK.check ((l.map (entOf kv)).toArray).isEmpty k w
    rcases run_findKey hK k l w with ⟨h1, h2⟩ | ⟨j, v, n, h1, h2, -⟩
    · rw [hl] at h2
      simp only [Instr.lookup, Sem.run_bind, run_underlying hT', Result.andThen_ok, MapKept.run_getObj_map hb, Sem.run_pure, hch]
      rw [h1]
      simp only [Result.andThen_ok, Sem.run_bind, run_zero hz, Sem.run_pure, h2, Option.getD_none, Option.isSome_none]
    · rw [hl] at h2
      simp only [Instr.lookup, Sem.run_bind, run_underlying hT', Result.andThen_ok, MapKept.run_getObj_map hb, Sem.run_pure, hch]
      rw [h1]
      simp only [Result.andThen_ok, Sem.run_bind, Sem.run_pure, h2, Option.getD_some, Option.isSome_some]
  rw [hrun]; rfl
theorem WS.mapPut {w0 w w' : World} {H' : List HP} {b : Nat} {f g : κ → Option Value} (h : WS w0 H w) (hr : Rep H (mapH kv b f) (mapH kv b g) H') (l : List (Ent κ)) (c : Nat) (hw' : w'.heap[b]? = some (.map (l.map (entOf kv)).toArray c)) (hl : ∀ k, look l k = g k) (hne : ∀ k, k ≠ b → w'.heap[k]? = w.heap[k]?)
    (hos : w'.os = w.os) (ht : w'.tape = w.tape) (hout : w'.output = w.output) : WS w0 H' w' := by
  refine h.upd hr (fun S hp => ?_) hos ht hout
  obtain ⟨l0, c0, h1, h2⟩ := hp
  have hS := (res_pt h1).1
  refine ⟨⟨l, c, ?_, hl⟩, fun k _ hk => hne k (fun e => hk (e ▸ hS))⟩
  rw [res_in (.inl hS)]; exact hw'
theorem Rep.mem {p p' : HP} {H H' : List HP} (h : Rep H p p' H') : Mem p H := by
  induction h with
  | here => exact .here
  | there _ ih => exact .there ih
/-- m[k] = v -/
theorem e_mapUpdate {x y u : Operand} {T K e b : TypeId} {k : κ} {v : Value} {f : κ → Option Value} {H' : List HP} (ho : o.op = .mapUpdate T x y u) (hx : ev L x = some (.map (some b))) (hy : ev L y = some (kv k)) (hu : ev L u = some v) (hT : mapE P T = some (K, e)) (hK : KeyK P K kv)
    (hr : Rep H (mapH kv b f) (mapH kv b (upd f k v)) H') : EOp P L H o (fun r H2 => r = undef ∧ H2 = H') := by
  intro N D a w w0 Q Q' hf hw hk
  obtain ⟨l, c, hb, hl⟩ := hw.mapGet hr.mem
  have hT' := mapE_spec hT
  have hch := hK.check false k w
  have hrun : ∃ w', (execOp a.eval o).run P w = .ok .skip w' ∧ WS w0 H' w' := by
    have hlt : b < w.heap.size := (Array.getElem?_eq_some_iff.1 hb).1
    rcases run_findKey hK k l w with ⟨h1, h2⟩ | ⟨j, v0, n, h1, h2, h3, h4⟩
    · refine ⟨{ w with heap := w.heap.setIfInBounds b (.map (((l ++ [(k, v, c)]).map (entOf kv)).toArray) (c + 1)) }, ?_, ?_⟩
      · unfold execOp; rw [ho]
        simp only [hf.ev hx, hf.ev hy, hf.ev hu, Sem.run_bind, Instr.mapUpdate, run_underlying hT', Result.andThen_ok, MapKept.run_getObj_map hb, hch]
        rw [h1]
        have hpush : ((l.map (entOf kv)).toArray.push { key := kv k, val := v, born := c }) = ((l ++ [(k, v, c)]).map (entOf kv)).toArray := by simp [entOf]
        simp only [Result.andThen_ok, hpush, MapKept.run_setObj_map _ hb]
        rfl
      · refine hw.mapPut hr (l ++ [(k, v, c)]) (c + 1) (by simp [Array.getElem?_setIfInBounds, hlt]) (fun k' => by rw [look_push h2, hl]; rfl) (fun k' hk' => by simp [Array.getElem?_modify, Ne.symm hk']) rfl rfl rfl
    · refine ⟨{ w with heap := w.heap.setIfInBounds b (.map (((l.modify j fun p => (k, v, p.2.2)).map (entOf kv)).toArray) c) }, ?_, ?_⟩
      · have hkey : (((((l.map (entOf kv)).toArray)[j]?).map (·.key)).getD (kv k)) = kv k := by simp [h3, entOf]
        have hst : (Instr.keyThatStays (kv k) (kv k)).run P w = .ok (kv k) w := by simp [Instr.keyThatStays, hK.stays k]
        have hmod : ((l.map (entOf kv)).toArray.modify j fun e => { e with key := kv k, val := v }) = ((l.modify j fun p => (k, v, p.2.2)).map (entOf kv)).toArray := by
          apply Array.toList_inj.1
          apply List.ext_getElem?
          intro i
          simp only [Array.toList_modify, List.getElem?_modify, List.getElem?_map]
          by_cases hij : j = i
          · subst hij; simp [h3, entOf]
          · simp [hij]
        unfold execOp; rw [ho]
        simp only [hf.ev hx, hf.ev hy, hf.ev hu, Sem.run_bind, Instr.mapUpdate, run_underlying hT', Result.andThen_ok, MapKept.run_getObj_map hb, hch]
        rw [h1]
        simp only [Result.andThen_ok, Sem.run_bind, hkey, hst, hmod]
        simp only [Result.andThen_ok, MapKept.run_setObj_map _ hb]
        rfl
      · refine hw.mapPut hr (l.modify j fun p => (k, v, p.2.2)) c (by simp [Array.getElem?_setIfInBounds, hlt]) (fun k' => by rw [h4, hl]; rfl) (fun k' hk' => by simp [Array.getElem?_modify, Ne.symm hk']) rfl rfl rfl
  obtain ⟨w', h1, h2⟩ := hrun
  unfold Oper.wp; rw [h1]
  exact hk undef H' w' ⟨rfl, rfl⟩ h2
/-- map[K]V{} -/
theorem e_makeMap (kv : κ → Value) {T : TypeId} (ho : o.op = .makeMap T none) : EOp P L H o (fun u H' => ∃ b, u = .map (some b) ∧ H' = mapH kv b (fun _ => none) :: H) := by
  intro N D a w w0 K Q hf hw hk
  have hrun : (execOp a.eval o).run P w = .ok (.value (.map (some w.heap.size))) (w.alloc (.map #[] 0)) := by
    unfold execOp; rw [ho]
    simp only [Instr.makeMap, Sem.run_bind, run_newObj_alloc, Result.andThen_ok, Sem.run_pure]; rfl
  unfold Oper.wp; rw [hrun]
  refine hk _ _ _ ⟨_, rfl, rfl⟩ ?_
  have h2 := hw.alloc (.map #[] 0)
  obtain ⟨S, h3, h4⟩ := star_cons.1 h2.sat
  refine ⟨star_cons.2 ⟨S, ⟨[], 0, h3, fun _ => rfl⟩, h4⟩, h2.os, h2.tape, h2.output⟩
end
end
theorem G.mu0 {κ : Type} [DecidableEq κ] {kv : κ → Value} {P : Program} {dr : Bool} {cl : Oper → Cls} {ol : List Oper} {Q : Exit → Act → World → Prop} {w0 : World} {N : Nat} {D : List Deferred} {o : Oper} {rest : List Oper} {L : List (Nat × Value)} {H H' : List HP} {x y u : Operand} {v : Value} {k : κ} {T K0 e b : Nat} {f : κ → Option Value}
    (hT : mapE P T = some (K0, e)) (hK : KeyK P K0 kv) (kk : G ⟨P, dr, fun _ => True, cl, ol, Q, w0, N⟩ D rest L H') (ho : o.op = .mapUpdate T x y u := by exact rfl) (hx : ev L x = some (.map (some b)) := by exact rfl) (hy : ev L y = some (kv k) := by exact rfl) (hu : ev L u = some v := by exact rfl) (hd : o.dst = none := by exact rfl) (hg : gd ol L o = some true := by exact rfl)
    (hc : okc ⟨P, dr, fun _ => True, cl, ol, Q, w0, N⟩ o .e = true := by exact rfl) (hr : Rep H (mapH kv b f) (mapH kv b (upd f k v)) H' := by repeat (first | exact Rep.here | apply Rep.there)) :
    G ⟨P, dr, fun _ => True, cl, ol, Q, w0, N⟩ D (o :: rest) L H :=
  .e0 (E := ⟨P, dr, fun _ => True, cl, ol, Q, w0, N⟩) hd hg hc (e_mapUpdate ho hx hy hu hT hK hr) (fun _ _ _ _ _ _ => trivial) (fun _ _ h => by obtain ⟨_, rfl⟩ := h; exact kk)
end Go.Eng
/-
  Contracts of the shelf as contracts of this engine. Speaks of no program.
-/
set_option linter.unusedVariables false
namespace Go.Eng
open Go.Sort
/-- a package-level table -/
def tabH (g : Nat) (l : List Value) (tz : TypeId × Nat × Nat) : HP := fun h => h g = some (.cells l.toArray tz.1 tz.2)
section
variable {P : Program} {w0 w : World} {H F : List HP} {f : FuncId} {args : Array Value} {v : Value}
theorem WS.tab {g : Nat} {l : List Value} {tz : TypeId × Nat × Nat} (h : WS w0 H w) (hm : Mem (tabH g l tz) H) : ∃ T z, w.heap[g]? = some (.cells l.toArray T z) := by
  obtain ⟨S, h1⟩ := h.get hm
  exact ⟨_, _, (res_pt h1).2⟩
theorem WS.grown (h : WS w0 H w) (k : Nat) (os : Array Obj) : WS w0 H (grow (w.drewN k) os) := by
  refine ⟨star_mono h.sat fun b => ?_, h.os, h.tape, h.output⟩
  show w.heap[b]? = (w.heap ++ os)[b]? ∨ w.heap[b]? = none
  by_cases hb : b < w.heap.size
  · left; rw [Array.getElem?_append_left hb]
  · right; exact Array.getElem?_eq_none (by omega)
theorem Spec.shelf {tz : TypeId × Nat × Nat} {name : String} {g : Nat} {kd : IntKind} {zs : List Int} (hg : P.globalNamed name = some g) (h : ∀ w, Lib.TabIs P w name kd zs → Calls P f args w fun e w' => e = .returned v ∧ ∃ k os, w' = grow (w.drewN k) os) :
    Spec P f args [tabH g (zs.map fun z => .int kd z) tz] (Ret fun u hl => u = v ∧ hl = [tabH g (zs.map fun z => .int kd z) tz]) := by
  intro F w0 w hw
  obtain ⟨T, z, hb⟩ := hw.tab (g := g) .here
  refine (h w ?_).mono ?_
  · unfold Lib.TabIs World.var?
    rw [hg, Option.bind_some, hb]
  · rintro e w' ⟨rfl, k, os, rfl⟩
    exact ⟨_, ⟨rfl, rfl⟩, hw.grown k os⟩
/-- .. of a function that leaves the world alone -/
theorem Spec.still (h : ∀ w, Calls P f args w fun e w' => e = .returned v ∧ w' = w) : Spec P f args [] (Ret fun u hl => u = v ∧ hl = []) := by
  intro F w0 w hw
  refine (h w).mono ?_
  rintro e w' ⟨rfl, rfl⟩
  exact ⟨_, ⟨rfl, rfl⟩, hw⟩
/-- a contract's call leaves all that stood as it stood -/
theorem Spec.kept {g : Nat} {l : List Value} {tz : TypeId × Nat × Nat} {W : World} (h : Spec P f args [tabH g l tz] (Ret fun u hl => u = v ∧ hl = [tabH g l tz])) (hg : W.heap[g]? = some (.cells l.toArray tz.1 tz.2)) :
    Calls P f args W fun e w' => e = .returned v ∧ w'.os = W.os ∧ w'.output = W.output ∧ ∀ i, i < W.heap.size → w'.heap[i]? = W.heap[i]? := by
  refine (h [fun h => ∀ b, b < W.heap.size → b ≠ g → h b = W.heap[b]?] W W ⟨⟨fun k => if k = g then 0 else 1, fun i p hp => ?_⟩, rfl, rfl, rfl⟩).mono ?_
  · rcases i with _ | _ | i
    · cases hp
      show (if (if g = g then 0 else 1) = 0 then W.heap[g]? else none) = _
      simp [hg]
    · cases hp
      intro b hb hne
      show (if (if b = g then 0 else 1) = 0 + 1 then W.heap[b]? else none) = _
      simp [hne]
    · simp at hp
  · intro e w' he
    obtain ⟨hl, h1, h2⟩ := he
    cases e with
    | returned u =>
      obtain ⟨rfl, rfl⟩ := h1
      refine ⟨rfl, h2.os, h2.output, fun i hi => ?_⟩
      by_cases hig : i = g
      · subst hig
        obtain ⟨S, h3⟩ := h2.get (.here)
        rw [hg]; exact (res_pt h3).2
      · obtain ⟨S, h3⟩ := h2.get (.there .here)
        have h4 := h3 i hi hig
        obtain ⟨o, ho⟩ : ∃ o, W.heap[i]? = some o := ⟨_, Array.getElem?_eq_getElem hi⟩
        rw [ho] at h4 ⊢; exact (res_pt h4).2
    | _ => exact h1.elim
end
end Go.Eng
