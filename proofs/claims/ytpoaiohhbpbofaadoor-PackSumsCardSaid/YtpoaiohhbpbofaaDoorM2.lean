/-
  Joined by program out of the texts E12 P7 E13 E14 P8 E15 P9 E16 P10 P11 P12 F1 F2 F3 F4: contracts for the functions that the law reaches, and the engine that proves them.
-/
import Derived.Test.YtpoaiohhbpbofaaDoorM1
import Derived.MapKept
import Derived.Lib.LaidTab
import Derived.Sort.Grow
import Derived.Deep.Draws
import Derived.Deep.AppendSrc
import Derived.Deep.Upon
import Derived.Recover
import Derived.Laws.StructEq
import Derived.Test.YtpoaiohhbpbofaaDoorProg
import Derived.KernelRfl
/-
  Maps as functions. Speaks of no program.
-/
set_option linter.unusedVariables false
set_option linter.unusedSimpArgs false
namespace Go.Eng

section
variable {κ : Type} [DecidableEq κ]
abbrev Ent (κ : Type) := κ × Value × Nat
def entOf (kv : κ → Value) (p : Ent κ) : MapEntry := { key := kv p.1, val := p.2.1, born := p.2.2 }
def look : List (Ent κ) → κ → Option Value
  | [], _ => none
  | p :: l, k => if k = p.1 then some p.2.1 else look l k
/-- a map that is this function -/
def mapH (kv : κ → Value) (b : Nat) (f : κ → Option Value) : HP := fun h => ∃ (l : List (Ent κ)) (clock : Nat), h b = some (.map (l.map (entOf kv)).toArray clock) ∧ ∀ k, look l k = f k
def upd (f : κ → Option Value) (k : κ) (v : Value) : κ → Option Value := fun k' => if k' = k then some v else f k'

structure KeyK (P : Program) (T : TypeId) (kv : κ → Value) : Prop where
  desc : ∃ d, P.underlying T = some d ∧ ∀ a b, Instr.sameNow d (kv a) (kv b) = some (decide (a = b))
  check : ∀ (e : Bool) (k : κ) (w : World), (Instr.checkKey e 10000 T (kv k)).run P w = .ok () w
  stays : ∀ k, Instr.sameBits 10000 (kv k) (kv k) = true

theorem findNow_look {d : TypeDesc} {kv : κ → Value} (hd : ∀ a b, Instr.sameNow d (kv a) (kv b) = some (decide (a = b))) (k : κ) : ∀ (l : List (Ent κ)) (i : Nat),
    (Instr.findNow d (kv k) (l.map (entOf kv)) i = some none ∧ look l k = none) ∨
    ∃ j v n, Instr.findNow d (kv k) (l.map (entOf kv)) i = some (some (i + j, v)) ∧ look l k = some v ∧ l[j]? = some (k, v, n) ∧ ∀ x : Value, ∀ k', look (l.modify j fun p => (k, x, p.2.2)) k' = if k' = k then some x else look l k'
  | [], i => .inl ⟨rfl, rfl⟩
  | p :: l, i => by
    by_cases h : k = p.1
    · right
      obtain ⟨pk, pv, pn⟩ := p
      simp only at h
      subst h
      refine ⟨0, pv, pn, ?_, ?_, rfl, ?_⟩
      · simp [Instr.findNow, entOf, hd]
      · simp [look]
      · intro x k'
        by_cases hk : k' = k <;> simp [look, hk]
    · have e1 : Instr.findNow d (kv k) ((p :: l).map (entOf kv)) i = Instr.findNow d (kv k) (l.map (entOf kv)) (i + 1) := by
        simp [Instr.findNow, entOf, hd, h]
      have e2 : look (p :: l) k = look l k := by simp [look, h]
      rw [e1, e2]
      rcases findNow_look hd k l (i + 1) with ⟨h1, h2⟩ | ⟨j, v, n, h1, h2, h3, h4⟩
      · exact .inl ⟨h1, h2⟩
      · refine .inr ⟨j + 1, v, n, by rw [h1]; congr 3; omega, h2, by simpa using h3, fun x k' => ?_⟩
        rw [List.modify_succ_cons]
        simp only [look]
        rw [h4 x k']
        by_cases hk : k' = p.1
        · have hkk : ¬ p.1 = k := fun e => h e.symm
          simp [hk, hkk]
        · simp [hk]
theorem look_push {k : κ} {v : Value} {n : Nat} : ∀ {l : List (Ent κ)}, look l k = none → ∀ k', look (l ++ [(k, v, n)]) k' = if k' = k then some v else look l k'
  | [], _, k' => by simp [look]
  | p :: l, h, k' => by
    simp only [look] at h
    split at h
    · cases h
    · rename_i hp
      simp only [List.cons_append, look]
      rw [look_push h k']
      by_cases hk : k' = p.1
      · have hkk : ¬ p.1 = k := fun e => hp e.symm
        simp [hk, hkk]
      · simp [hk]

def mapE (P : Program) (T : TypeId) : Option (TypeId × TypeId) := match P.underlying T with | some (.map k e) => some (k, e) | _ => none
theorem mapE_spec {P : Program} {T k e : TypeId} (h : mapE P T = some (k, e)) : P.underlying T = some (.map k e) := by
  unfold mapE at h
  split at h
  · rename_i h'; simp only [Option.some.injEq, Prod.mk.injEq] at h; obtain ⟨rfl, rfl⟩ := h; exact h'
  · cases h
def zeroB (P : Program) (T : TypeId) : Option Value := (P.info? T).bind (·.zero)
theorem run_zero {P : Program} {T : TypeId} {z : Value} (h : zeroB P T = some z) (w : World) : (zeroValue T).run P w = .ok z w := by
  unfold zeroB at h
  cases hi : P.info? T with
  | none => rw [hi] at h; cases h
  | some i => rw [hi] at h; simp only [Option.bind_some] at h; simp [zeroValue, typeInfo, hi, h]

theorem keyStr {P : Program} {T : TypeId} (h : P.underlying T = some .string) : KeyK P T str := by
  refine ⟨⟨_, h, fun a b => ?_⟩, fun e k w => ?_, fun k => ?_⟩
  · have : ((⟨a.toArray⟩ : ByteArray) == ⟨b.toArray⟩) = decide (a = b) := by
      by_cases hab : a = b
      · subst hab; rw [decide_eq_true rfl]; exact (MapKept.bytes_beq _ _).2 rfl
      · have h1 : ¬ (⟨a.toArray⟩ : ByteArray) = ⟨b.toArray⟩ := fun e => hab (by simpa using congrArg (fun x => x.data.toList) e)
        rw [decide_eq_false hab]
        cases hx : ((⟨a.toArray⟩ : ByteArray) == ⟨b.toArray⟩) with
        | false => rfl
        | true => exact absurd ((MapKept.bytes_beq _ _).1 hx) h1
    simp [Instr.sameNow, str, this]
  · unfold Instr.checkKey; simp [run_underlying h, str]
  · simp only [Instr.sameBits, str]; exact (MapKept.bytes_beq _ _).2 rfl
def ikv (k : IntKind) (n : Int) : Value := .int k n
theorem keyInt {P : Program} {T : TypeId} {k : IntKind} (h : intK P T = some k) : KeyK P T (ikv k) := by
  have h := intK_spec h
  refine ⟨⟨_, h, fun a b => ?_⟩, fun e k w => ?_, fun k => ?_⟩
  · by_cases hab : a = b <;> simp [Instr.sameNow, ikv, hab]
  · unfold Instr.checkKey; simp [run_underlying h, ikv]
  · simp [Instr.sameBits, ikv]

section
variable {P : Program} {L : List (Nat × Value)} {H : List HP} {o : Oper} {kv : κ → Value}
theorem run_findKey {T : TypeId} (K : KeyK P T kv) (k : κ) (l : List (Ent κ)) (w : World) :
    ((Instr.findKey T (kv k) (l.map (entOf kv))).run P w = .ok none w ∧ look l k = none) ∨
    ∃ j v n, (Instr.findKey T (kv k) (l.map (entOf kv))).run P w = .ok (some (j, v)) w ∧ look l k = some v ∧ l[j]? = some (k, v, n) ∧ ∀ x : Value, ∀ k', look (l.modify j fun p => (k, x, p.2.2)) k' = if k' = k then some x else look l k' := by
  obtain ⟨d, hd, hs⟩ := K.desc
  rcases findNow_look hs k l 0 with ⟨h1, h2⟩ | ⟨j, v, n, h1, h2, h3, h4⟩
  · exact .inl ⟨by simp [Instr.findKey, run_underlying hd, h1], h2⟩
  · rw [Nat.zero_add] at h1
    exact .inr ⟨j, v, n, by simp [Instr.findKey, run_underlying hd, h1], h2, h3, h4⟩
theorem WS.mapGet {w0 w : World} {b : Nat} {f : κ → Option Value} (h : WS w0 H w) (hm : Mem (mapH kv b f) H) : ∃ (l : List (Ent κ)) (clock : Nat), w.heap[b]? = some (.map (l.map (entOf kv)).toArray clock) ∧ ∀ k, look l k = f k := by
  obtain ⟨S, l, c, h1, h2⟩ := h.get hm
  exact ⟨l, c, (res_pt h1).2, h2⟩
/-- m[k] -/
theorem r_lookup {x y : Operand} {T K e b : TypeId} {k : κ} {f : κ → Option Value} {z : Value} {ok : Bool} (ho : o.op = .lookup T x y ok) (hx : ev L x = some (.map (some b))) (hy : ev L y = some (kv k)) (hT : mapE P T = some (K, e)) (hK : KeyK P K kv) (hz : zeroB P e = some z) (hm : Mem (mapH kv b f) H) :
    ROp P L H o (if ok then .tuple #[(f k).getD z, .bool (f k).isSome] else (f k).getD z) := by
  intro N D a w w0 hf hw
  obtain ⟨l, c, hb, hl⟩ := hw.mapGet hm
  unfold execOp; rw [ho]
  simp only [hf.ev hx, hf.ev hy, Sem.run_bind]
  have hT' := mapE_spec hT
  have hrun : (Instr.lookup T (.map (some b)) (kv k) ok).run P w = .ok (if ok then .tuple #[(f k).getD z, .bool (f k).isSome] else (f k).getD z) w := by
    have hch := hK.check ((l.map (entOf kv)).toArray).isEmpty k w
    rcases run_findKey hK k l w with ⟨h1, h2⟩ | ⟨j, v, n, h1, h2, -⟩
    · rw [hl] at h2
      simp only [Instr.lookup, Sem.run_bind, run_underlying hT', Result.andThen_ok, MapKept.run_getObj_map hb, Sem.run_pure, hch]
      rw [h1]
      simp only [Result.andThen_ok, Sem.run_bind, run_zero hz, Sem.run_pure, h2, Option.getD_none, Option.isSome_none]
    · rw [hl] at h2
      simp only [Instr.lookup, Sem.run_bind, run_underlying hT', Result.andThen_ok, MapKept.run_getObj_map hb, Sem.run_pure, hch]
      rw [h1]
      simp only [Result.andThen_ok, Sem.run_bind, Sem.run_pure, h2, Option.getD_some, Option.isSome_some]
  rw [hrun]; rfl
theorem WS.mapPut {w0 w w' : World} {H' : List HP} {b : Nat} {f g : κ → Option Value} (h : WS w0 H w) (hr : Rep H (mapH kv b f) (mapH kv b g) H') (l : List (Ent κ)) (c : Nat) (hw' : w'.heap[b]? = some (.map (l.map (entOf kv)).toArray c)) (hl : ∀ k, look l k = g k) (hne : ∀ k, k ≠ b → w'.heap[k]? = w.heap[k]?)
    (hos : w'.os = w.os) (ht : w'.tape = w.tape) (hout : w'.output = w.output) : WS w0 H' w' := by
  refine h.upd hr (fun S hp => ?_) hos ht hout
  obtain ⟨l0, c0, h1, h2⟩ := hp
  have hS := (res_pt h1).1
  refine ⟨⟨l, c, ?_, hl⟩, fun k _ hk => hne k (fun e => hk (e ▸ hS))⟩
  rw [res_in (.inl hS)]; exact hw'
theorem Rep.mem {p p' : HP} {H H' : List HP} (h : Rep H p p' H') : Mem p H := by
  induction h with
  | here => exact .here
  | there _ ih => exact .there ih
/-- m[k] = v -/
theorem e_mapUpdate {x y u : Operand} {T K e b : TypeId} {k : κ} {v : Value} {f : κ → Option Value} {H' : List HP} (ho : o.op = .mapUpdate T x y u) (hx : ev L x = some (.map (some b))) (hy : ev L y = some (kv k)) (hu : ev L u = some v) (hT : mapE P T = some (K, e)) (hK : KeyK P K kv)
    (hr : Rep H (mapH kv b f) (mapH kv b (upd f k v)) H') : EOp P L H o (fun r H2 => r = undef ∧ H2 = H') := by
  intro N D a w w0 Q Q' hf hw hk
  obtain ⟨l, c, hb, hl⟩ := hw.mapGet hr.mem
  have hT' := mapE_spec hT
  have hch := hK.check false k w
  have hrun : ∃ w', (execOp a.eval o).run P w = .ok .skip w' ∧ WS w0 H' w' := by
    have hlt : b < w.heap.size := (Array.getElem?_eq_some_iff.1 hb).1
    rcases run_findKey hK k l w with ⟨h1, h2⟩ | ⟨j, v0, n, h1, h2, h3, h4⟩
    · refine ⟨{ w with heap := w.heap.setIfInBounds b (.map (((l ++ [(k, v, c)]).map (entOf kv)).toArray) (c + 1)) }, ?_, ?_⟩
      · unfold execOp; rw [ho]
        simp only [hf.ev hx, hf.ev hy, hf.ev hu, Sem.run_bind, Instr.mapUpdate, run_underlying hT', Result.andThen_ok, MapKept.run_getObj_map hb, hch]
        rw [h1]
        have hpush : ((l.map (entOf kv)).toArray.push { key := kv k, val := v, born := c }) = ((l ++ [(k, v, c)]).map (entOf kv)).toArray := by simp [entOf]
        simp only [Result.andThen_ok, hpush, MapKept.run_setObj_map _ hb]
        rfl
      · refine hw.mapPut hr (l ++ [(k, v, c)]) (c + 1) (by simp [Array.getElem?_setIfInBounds, hlt]) (fun k' => by rw [look_push h2, hl]; rfl) (fun k' hk' => by simp [Array.getElem?_modify, Ne.symm hk']) rfl rfl rfl
    · refine ⟨{ w with heap := w.heap.setIfInBounds b (.map (((l.modify j fun p => (k, v, p.2.2)).map (entOf kv)).toArray) c) }, ?_, ?_⟩
      · have hkey : (((((l.map (entOf kv)).toArray)[j]?).map (·.key)).getD (kv k)) = kv k := by simp [h3, entOf]
        have hst : (Instr.keyThatStays (kv k) (kv k)).run P w = .ok (kv k) w := by simp [Instr.keyThatStays, hK.stays k]
        have hmod : ((l.map (entOf kv)).toArray.modify j fun e => { e with key := kv k, val := v }) = ((l.modify j fun p => (k, v, p.2.2)).map (entOf kv)).toArray := by
          apply Array.toList_inj.1
          apply List.ext_getElem?
          intro i
          simp only [Array.toList_modify, List.getElem?_modify, List.getElem?_map]
          by_cases hij : j = i
          · subst hij; simp [h3, entOf]
          · simp [hij]
        unfold execOp; rw [ho]
        simp only [hf.ev hx, hf.ev hy, hf.ev hu, Sem.run_bind, Instr.mapUpdate, run_underlying hT', Result.andThen_ok, MapKept.run_getObj_map hb, hch]
        rw [h1]
        simp only [Result.andThen_ok, Sem.run_bind, hkey, hst, hmod]
        simp only [Result.andThen_ok, MapKept.run_setObj_map _ hb]
        rfl
      · refine hw.mapPut hr (l.modify j fun p => (k, v, p.2.2)) c (by simp [Array.getElem?_setIfInBounds, hlt]) (fun k' => by rw [h4, hl]; rfl) (fun k' hk' => by simp [Array.getElem?_modify, Ne.symm hk']) rfl rfl rfl
  obtain ⟨w', h1, h2⟩ := hrun
  unfold Oper.wp; rw [h1]
  exact hk undef H' w' ⟨rfl, rfl⟩ h2
/-- map[K]V{} -/
theorem e_makeMap (kv : κ → Value) {T : TypeId} (ho : o.op = .makeMap T none) : EOp P L H o (fun u H' => ∃ b, u = .map (some b) ∧ H' = mapH kv b (fun _ => none) :: H) := by
  intro N D a w w0 K Q hf hw hk
  have hrun : (execOp a.eval o).run P w = .ok (.value (.map (some w.heap.size))) (w.alloc (.map #[] 0)) := by
    unfold execOp; rw [ho]
    simp only [Instr.makeMap, Sem.run_bind, run_newObj_alloc, Result.andThen_ok, Sem.run_pure]; rfl
  unfold Oper.wp; rw [hrun]
  refine hk _ _ _ ⟨_, rfl, rfl⟩ ?_
  have h2 := hw.alloc (.map #[] 0)
  obtain ⟨S, h3, h4⟩ := star_cons.1 h2.sat
  refine ⟨star_cons.2 ⟨S, ⟨[], 0, h3, fun _ => rfl⟩, h4⟩, h2.os, h2.tape, h2.output⟩
end
end
theorem G.mu0 {κ : Type} [DecidableEq κ] {kv : κ → Value} {P : Program} {dr : Bool} {cl : Oper → Cls} {ol : List Oper} {Q : Exit → Act → World → Prop} {w0 : World} {N : Nat} {D : List Deferred} {o : Oper} {rest : List Oper} {L : List (Nat × Value)} {H H' : List HP} {x y u : Operand} {v : Value} {k : κ} {T K0 e b : Nat} {f : κ → Option Value}
    (hT : mapE P T = some (K0, e)) (hK : KeyK P K0 kv) (kk : G ⟨P, dr, fun _ => True, cl, ol, Q, w0, N⟩ D rest L H') (ho : o.op = .mapUpdate T x y u := by exact rfl) (hx : ev L x = some (.map (some b)) := by exact rfl) (hy : ev L y = some (kv k) := by exact rfl) (hu : ev L u = some v := by exact rfl) (hd : o.dst = none := by exact rfl) (hg : gd ol L o = some true := by exact rfl)
    (hc : okc ⟨P, dr, fun _ => True, cl, ol, Q, w0, N⟩ o .e = true := by exact rfl) (hr : Rep H (mapH kv b f) (mapH kv b (upd f k v)) H' := by repeat (first | exact Rep.here | apply Rep.there)) :
    G ⟨P, dr, fun _ => True, cl, ol, Q, w0, N⟩ D (o :: rest) L H :=
  .e0 (E := ⟨P, dr, fun _ => True, cl, ol, Q, w0, N⟩) hd hg hc (e_mapUpdate ho hx hy hu hT hK hr) (fun _ _ _ _ _ _ => trivial) (fun _ _ h => by obtain ⟨_, rfl⟩ := h; exact kk)
theorem G.muK {κ : Type} [DecidableEq κ] {kv : κ → Value} {P : Program} {dr : Bool} {cl : Oper → Cls} {ol : List Oper} {Q : Exit → Act → World → Prop} {w0 : World} {N : Nat} {D : List Deferred} {o : Oper} {rest : List Oper} {L : List (Nat × Value)} {H H' K R : List HP} {x y u : Operand} {v : Value} {k : κ} {T K0 e b : Nat} {f : κ → Option Value}
    (hT : mapE P T = some (K0, e)) (hK : KeyK P K0 kv) (kk : G ⟨P, dr, Keeps w0 K, cl, ol, Q, w0, N⟩ D rest L H') (ho : o.op = .mapUpdate T x y u := by exact rfl) (hx : ev L x = some (.map (some b)) := by exact rfl) (hy : ev L y = some (kv k) := by exact rfl) (hu : ev L u = some v := by exact rfl) (hd : o.dst = none := by exact rfl) (hg : gd ol L o = some true := by exact rfl)
    (hc : okc ⟨P, dr, Keeps w0 K, cl, ol, Q, w0, N⟩ o .e = true := by exact rfl) (hr : Rep H (mapH kv b f) (mapH kv b (upd f k v)) H' := by repeat (first | exact Rep.here | apply Rep.there))
    (ht : Takes H' K R := by repeat (first | exact Takes.nil | apply Takes.cons | exact Take.here | apply Take.there)) :
    G ⟨P, dr, Keeps w0 K, cl, ol, Q, w0, N⟩ D (o :: rest) L H :=
  .e0 (E := ⟨P, dr, Keeps w0 K, cl, ol, Q, w0, N⟩) hd hg hc (e_mapUpdate ho hx hy hu hT hK hr) (fun _ _ _ _ h hw => by obtain ⟨_, rfl⟩ := h; exact Keeps.of hw ht) (fun _ _ h => by obtain ⟨_, rfl⟩ := h; exact kk)
end Go.Eng
/-
  Plain: RFC 1951 written (Deflate, Stored), no program in sight.
-/
set_option linter.unusedVariables false
namespace Go.Eng
namespace Defl
theorem xor16 {n : Nat} (h : n ≤ 65535) : n ^^^ 65535 = 65535 - n := by
  have h1 : BitVec.ofNat 16 n ^^^ BitVec.allOnes 16 = ~~~ BitVec.ofNat 16 n := BitVec.xor_allOnes
  have h2 := congrArg BitVec.toNat h1
  rw [BitVec.toNat_xor, BitVec.toNat_not, BitVec.toNat_ofNat, BitVec.toNat_allOnes, Nat.mod_eq_of_lt (by omega)] at h2
  simpa using h2
theorem xor_val {n : Nat} (h : n ≤ 65535) : bits .xor .i64 (n : Int) 65535 = ((65535 - n : Nat) : Int) := by
  have := bits_xor_lim (k := .i64) (a := n) (b := 65535) (by simp [lim, IntKind.signed, IntKind.bits]; omega) (by simp [lim, IntKind.signed, IntKind.bits])
  rw [show ((65535 : Nat) : Int) = 65535 from rfl] at this
  rw [this, xor16 h]
/-- one stored block -/
def stored (s : List UInt8) : List UInt8 := ((WR.zero.put 1 3).bytes (Sums.little (s.length : Int) 2 ++ Sums.little ((65535 - s.length : Nat) : Int) 2 ++ s)).text
/-- the last symbol whose base isn't above n -/
def symOf (base : Nat → Nat × Nat) (n : Nat) : Nat → Nat × Nat × Nat
  | 0 => (0, n - (base 0).1, (base 0).2)
  | i + 1 => if (base (i + 1)).1 ≤ n then (i + 1, n - (base (i + 1)).1, (base (i + 1)).2) else symOf base n i
theorem symOf_le (base : Nat → Nat × Nat) (n m : Nat) : (symOf base n m).1 ≤ m := by
  induction m with
  | zero => simp [symOf]
  | succ m ih =>
    unfold symOf; split
    · exact Nat.le_refl _
    · omega
theorem symOf_spec (base : Nat → Nat × Nat) (n m : Nat) (h : (base 0).1 ≤ n) : (base (symOf base n m).1).1 ≤ n ∧ (symOf base n m).2.1 = n - (base (symOf base n m).1).1 ∧ (symOf base n m).2.2 = (base (symOf base n m).1).2 := by
  induction m with
  | zero => exact ⟨h, rfl, rfl⟩
  | succ m ih => unfold symOf; split; exact ⟨by assumption, rfl, rfl⟩; exact ih
/-- how many bytes stand alike -/
def ml (s : List UInt8) (a i : Nat) : Nat → Nat → Nat
  | 0, n => n
  | f + 1, n => if i + n < s.length ∧ s.getD (a + n) 0 = s.getD (i + n) 0 then ml s a i f (n + 1) else n
def key (s : List UInt8) (i : Nat) : List UInt8 := (s.take (i + 3)).drop i
abbrev Seen := List UInt8 → Option Nat
def find (s : List UInt8) (i : Nat) (seen : Seen) : Nat × Nat :=
  if i + 3 ≤ s.length then match seen (key s i) with
    | some a => if (i : Int) - a ≤ 32768 then (ml s a i 258 0, i - a) else (0, 0)
    | none => (0, 0)
  else (0, 0)
def note (s : List UInt8) (i : Nat) (seen : Seen) : Seen := if i + 3 ≤ s.length then fun k => if k = key s i then some i else seen k else seen
def lit (W : WR) (c : Nat) : WR := W.code (Huff.code Infl.fixedLit c).1 (Huff.code Infl.fixedLit c).2
def dst (W : WR) (c : Nat) : WR := W.code (Huff.code Infl.fixedDist c).1 (Huff.code Infl.fixedDist c).2
def rep (W : WR) (n back : Nat) : WR :=
  (dst ((lit W (257 + (symOf Infl.lengthBase n 28).1)).put (symOf Infl.lengthBase n 28).2.1 (symOf Infl.lengthBase n 28).2.2) (symOf Infl.distBase back 29).1).put (symOf Infl.distBase back 29).2.1 (symOf Infl.distBase back 29).2.2
def go (s : List UInt8) : Nat → Nat → Seen → WR → WR
  | 0, _, _, W => W
  | f + 1, i, seen, W => if s.length ≤ i then W else
    if (find s i seen).1 < 3 then go s f (i + 1) (note s i seen) (lit W (s.getD i 0).toNat)
    else go s f (i + (find s i seen).1) (note s i seen) (rep W (find s i seen).1 (find s i seen).2)
def stream (s : List UInt8) : List UInt8 := (lit (go s s.length 0 (fun _ => none) (WR.zero.put 3 3)) 256).text
def deflate (s : List UInt8) : List UInt8 := if (stream s).length < (stored s).length then stream s else stored s
theorem ml_le (s : List UInt8) (a i : Nat) : ∀ (f n : Nat), n ≤ ml s a i f n ∧ ml s a i f n ≤ n + f ∧ (ml s a i f n ≤ n ∨ i + ml s a i f n ≤ s.length)
  | 0, n => by simp [ml]
  | f + 1, n => by
    unfold ml
    split
    · have := ml_le s a i f (n + 1); omega
    · omega
/-- what is seen stands ahead -/
def SeenOk (s : List UInt8) (i : Nat) (seen : Seen) : Prop := ∀ k a, seen k = some a → a < i ∧ a + 3 ≤ s.length
theorem note_ok {s : List UInt8} {i : Nat} {seen : Seen} (h : SeenOk s i seen) {j : Nat} (hj : i < j) : SeenOk s j (note s i seen) := by
  intro k a hk
  unfold note at hk
  split at hk
  · simp only at hk
    split at hk
    · simp only [Option.some.injEq] at hk; omega
    · have := h k a hk; omega
  · have := h k a hk; omega
theorem find_le {s : List UInt8} {i : Nat} {seen : Seen} (h : SeenOk s i seen) : (find s i seen).1 ≤ 258 ∧ (3 ≤ (find s i seen).1 → i + (find s i seen).1 ≤ s.length ∧ 1 ≤ (find s i seen).2 ∧ (find s i seen).2 ≤ 32768 ∧ (find s i seen).2 ≤ i) := by
  unfold find
  split
  · split
    · rename_i a ha
      have := h _ a ha
      split
      · have := ml_le s a i 258 0
        simp only; omega
      · simp
    · simp
  · simp
theorem lengthBase_lt {i : Nat} (h : i ≤ 28) : (Infl.lengthBase i).2 ≤ 5 := by
  unfold Infl.lengthBase; split
  · simp
  · split
    · simp
    · simp only; omega
/-- the tables' codes -/
def litC (c : Nat) : Nat × Nat := if c < 144 then (48 + c, 8) else if c < 256 then (400 + (c - 144), 9) else if c < 280 then (c - 256, 7) else (192 + (c - 280), 8)
def litS : List Nat := List.range' 256 24 ++ List.range' 0 144 ++ List.range' 280 8 ++ List.range' 144 112
theorem litS_eq : Huff.sorted Infl.fixedLit = litS := by kernel_rfl
theorem code_lit0 : (List.range 288).all (fun c => decide (Huff.codeGo Infl.fixedLit litS c 15 1 0 0 = litC c)) = true := by kernel_rfl
theorem code_lit {c : Nat} (h : c < 288) : Huff.code Infl.fixedLit c = litC c := by
  have := List.all_eq_true.1 code_lit0 c (by simpa using h)
  unfold Huff.code; rw [litS_eq]; simpa using this
theorem code_dst0 : (List.range 32).all (fun c => decide (Huff.code Infl.fixedDist c = (c, 5))) = true := by kernel_rfl
theorem code_dst {c : Nat} (h : c < 32) : Huff.code Infl.fixedDist c = (c, 5) := by
  have := List.all_eq_true.1 code_dst0 c (by simpa using h)
  simpa using this
theorem litC_le (c : Nat) (h : c < 288) : (litC c).1 < 512 ∧ 7 ≤ (litC c).2 ∧ (litC c).2 ≤ 9 := by
  unfold litC; split
  · simp only; omega
  · split
    · simp only; omega
    · split <;> simp only <;> omega
def wl (W : WR) : Nat := 8 * W.out.length + W.hav
theorem lit_len (W : WR) {c : Nat} (h : c < 288) : wl (lit W c) ≤ wl W + 9 := by
  unfold lit wl; rw [WR.code_len, code_lit h]; have := litC_le c h; omega
theorem dst_len (W : WR) {c : Nat} (h : c < 32) : wl (dst W c) = wl W + 5 := by
  unfold dst wl; rw [WR.code_len, code_dst h]
theorem put_wl (W : WR) (x n : Nat) : wl (W.put x n) = wl W + n := WR.put_len W x n
theorem rep_len (W : WR) (n back : Nat) : wl (rep W n back) ≤ wl W + 32 := by
  unfold rep
  have h1 := symOf_le Infl.lengthBase n 28
  have h2 := symOf_le Infl.distBase back 29
  rw [put_wl, dst_len _ (by omega), put_wl]
  have h3 := lit_len W (c := 257 + (symOf Infl.lengthBase n 28).1) (by omega)
  have key : ∀ (base : Nat → Nat × Nat) (n m k : Nat), (∀ i, i ≤ m → (base i).2 ≤ k) → (symOf base n m).2.2 ≤ k := by
    intro base n m k hb
    induction m with
    | zero => exact hb 0 (Nat.le_refl _)
    | succ m ih => unfold symOf; split; exact hb _ (Nat.le_refl _); exact ih (fun i hi => hb i (by omega))
  have h4 := key Infl.lengthBase n 28 5 (fun i hi => lengthBase_lt hi)
  have h5 := key Infl.distBase back 29 13 (fun i hi => (Infl.distBase_le hi).2.2)
  omega
theorem lit_eq (W : WR) (c : Nat) : W.code (Huff.code Infl.fixedLit c).1 (Huff.code Infl.fixedLit c).2 = lit W c := rfl
theorem dst_eq (W : WR) (c : Nat) : W.code (Huff.code Infl.fixedDist c).1 (Huff.code Infl.fixedDist c).2 = dst W c := rfl
theorem rep_eq (W : WR) (n back : Nat) : (dst ((lit W (257 + (symOf Infl.lengthBase n 28).1)).put (symOf Infl.lengthBase n 28).2.1 (symOf Infl.lengthBase n 28).2.2) (symOf Infl.distBase back 29).1).put (symOf Infl.distBase back 29).2.1 (symOf Infl.distBase back 29).2.2 = rep W n back := rfl
theorem lit_get {c : Nat} (h : c < 288) : Infl.fixedLit[c]? = some (Infl.fixedLen c) := by simp [Infl.fixedLit, h]
theorem dst_get {c : Nat} (h : c < 32) : Infl.fixedDist[c]? = some 5 := by simp [Infl.fixedDist, h]
theorem len_pos (c : Nat) : 0 < Infl.fixedLen c := by unfold Infl.fixedLen; split <;> (try split) <;> (try split) <;> omega
theorem code_lt {c : Nat} (h : c < 288) : (Huff.code Infl.fixedLit c).1 < 2 ^ 32 ∧ (Huff.code Infl.fixedLit c).2 ≤ 32 := by rw [code_lit h]; have := litC_le c h; omega
theorem dcode_lt {c : Nat} (h : c < 32) : (Huff.code Infl.fixedDist c).1 < 2 ^ 32 ∧ (Huff.code Infl.fixedDist c).2 ≤ 32 := by rw [code_dst h]; simp only; omega
theorem sym_more (base : Nat → Nat × Nat) (n m k : Nat) (hb : ∀ i, i ≤ m → (base i).2 ≤ k) : (symOf base n m).2.2 ≤ k := by
  induction m with
  | zero => exact hb 0 (Nat.le_refl _)
  | succ m ih => unfold symOf; split; exact hb _ (Nat.le_refl _); exact ih (fun i hi => hb i (by omega))
theorem sym_rest (base : Nat → Nat × Nat) (n m : Nat) : (symOf base n m).2.1 ≤ n := by
  induction m with
  | zero => simp [symOf]
  | succ m ih => unfold symOf; split; exact Nat.sub_le _ _; exact ih
theorem find_no {s : List UInt8} {i : Nat} {seen : Seen} (h : s.length < i + 3) : find s i seen = (0, 0) ∧ note s i seen = seen := by
  unfold find note; rw [if_neg (by omega), if_neg (by omega)]; exact ⟨rfl, rfl⟩
theorem find_none {s : List UInt8} {i : Nat} {seen : Seen} (h : i + 3 ≤ s.length) (hs : seen ((s.take (i + 3)).drop i) = none) : find s i seen = (0, 0) := by
  unfold find key; rw [if_pos h, hs]
theorem find_far {s : List UInt8} {i a : Nat} {seen : Seen} (h : i + 3 ≤ s.length) (hs : seen ((s.take (i + 3)).drop i) = some a) (hf : ¬ (i : Int) - a ≤ 32768) : find s i seen = (0, 0) := by
  unfold find key; rw [if_pos h, hs]; exact if_neg hf
theorem find_some {s : List UInt8} {i a : Nat} {seen : Seen} (h : i + 3 ≤ s.length) (hs : seen ((s.take (i + 3)).drop i) = some a) (hf : (i : Int) - a ≤ 32768) : find s i seen = (ml s a i 258 0, i - a) := by
  unfold find key; rw [if_pos h, hs]; exact if_pos hf
theorem note_upd {s : List UInt8} {i : Nat} {seen : Seen} (h : i + 3 ≤ s.length) : upd (fun k => (seen k).map iv) ((s.take (i + 3)).drop i) (.int .i64 (i : Int)) = fun k => (note s i seen k).map iv := by
  funext k
  unfold upd note key
  rw [if_pos h]
  split <;> rfl
theorem lit_ok {W : WR} (h : W.Ok) (c : Nat) : (lit W c).Ok := WR.code_ok h _ _
theorem dst_ok {W : WR} (h : W.Ok) (c : Nat) : (dst W c).Ok := WR.code_ok h _ _
theorem rep_ok {W : WR} (h : W.Ok) (n back : Nat) : (rep W n back).Ok := WR.put_ok (dst_ok (WR.put_ok (lit_ok h _) _ _) _) _ _
theorem stored_len (s : List UInt8) : (stored s).length ≤ s.length + 6 := by
  have h1 := WR.put_len WR.zero 1 3
  have h2 := WR.align_len (WR.put_ok WR.zero_ok 1 3)
  have h3 : WR.zero.out.length = 0 := rfl
  have h4 : WR.zero.hav = 0 := rfl
  unfold stored WR.text
  rw [if_neg (by show ¬ 0 < (WR.zero.put 1 3).align.hav; omega)]
  simp [WR.bytes, Sums.little]; omega
theorem deflate_len (s : List UInt8) (hs : s.length ≤ 65535) : (deflate s).length ≤ 65600 := by
  have := stored_len s
  unfold deflate; split <;> omega
end Defl
end Go.Eng
/-
  Contracts of the shelf as contracts of this engine. Speaks of no program.
-/
set_option linter.unusedVariables false
namespace Go.Eng
open Go.Sort
/-- a package-level table -/
def tabH (g : Nat) (l : List Value) (tz : TypeId × Nat × Nat) : HP := fun h => h g = some (.cells l.toArray tz.1 tz.2)
section
variable {P : Program} {w0 w : World} {H F : List HP} {f : FuncId} {args : Array Value} {v : Value}
theorem WS.tab {g : Nat} {l : List Value} {tz : TypeId × Nat × Nat} (h : WS w0 H w) (hm : Mem (tabH g l tz) H) : ∃ T z, w.heap[g]? = some (.cells l.toArray T z) := by
  obtain ⟨S, h1⟩ := h.get hm
  exact ⟨_, _, (res_pt h1).2⟩
theorem WS.grown (h : WS w0 H w) (k : Nat) (os : Array Obj) : WS w0 H (grow (w.drewN k) os) := by
  refine ⟨star_mono h.sat fun b => ?_, h.os, h.tape, h.output⟩
  show w.heap[b]? = (w.heap ++ os)[b]? ∨ w.heap[b]? = none
  by_cases hb : b < w.heap.size
  · left; rw [Array.getElem?_append_left hb]
  · right; exact Array.getElem?_eq_none (by omega)
theorem Spec.shelf {tz : TypeId × Nat × Nat} {name : String} {g : Nat} {kd : IntKind} {zs : List Int} (hg : P.globalNamed name = some g) (h : ∀ w, Lib.TabIs P w name kd zs → Calls P f args w fun e w' => e = .returned v ∧ ∃ k os, w' = grow (w.drewN k) os) :
    Spec P f args [tabH g (zs.map fun z => .int kd z) tz] (Ret fun u hl => u = v ∧ hl = [tabH g (zs.map fun z => .int kd z) tz]) := by
  intro F w0 w hw
  obtain ⟨T, z, hb⟩ := hw.tab (g := g) .here
  refine (h w ?_).mono ?_
  · unfold Lib.TabIs World.var?
    rw [hg, Option.bind_some, hb]
  · rintro e w' ⟨rfl, k, os, rfl⟩
    exact ⟨_, ⟨rfl, rfl⟩, hw.grown k os⟩
/-- .. of a function that leaves the world alone -/
theorem Spec.still (h : ∀ w, Calls P f args w fun e w' => e = .returned v ∧ w' = w) : Spec P f args [] (Ret fun u hl => u = v ∧ hl = []) := by
  intro F w0 w hw
  refine (h w).mono ?_
  rintro e w' ⟨rfl, rfl⟩
  exact ⟨_, ⟨rfl, rfl⟩, hw⟩
/-- .. of one that only makes new memory -/
theorem Spec.makes (h : ∀ w, Calls P f args w fun e w' => e = .returned v ∧ ∃ k os, w' = grow (w.drewN k) os) : Spec P f args [] (Ret fun u hl => u = v ∧ hl = []) := by
  intro F w0 w hw
  refine (h w).mono ?_
  rintro e w' ⟨rfl, k, os, rfl⟩
  exact ⟨_, ⟨rfl, rfl⟩, hw.grown k os⟩
/-- a contract's call leaves all that stood as it stood -/
theorem Spec.kept {g : Nat} {l : List Value} {tz : TypeId × Nat × Nat} {W : World} (h : Spec P f args [tabH g l tz] (Ret fun u hl => u = v ∧ hl = [tabH g l tz])) (hg : W.heap[g]? = some (.cells l.toArray tz.1 tz.2)) :
    Calls P f args W fun e w' => e = .returned v ∧ w'.os = W.os ∧ w'.output = W.output ∧ ∀ i, i < W.heap.size → w'.heap[i]? = W.heap[i]? := by
  refine (h [fun h => ∀ b, b < W.heap.size → b ≠ g → h b = W.heap[b]?] W W ⟨⟨fun k => if k = g then 0 else 1, fun i p hp => ?_⟩, rfl, rfl, rfl⟩).mono ?_
  · rcases i with _ | _ | i
    · cases hp
      show (if (if g = g then 0 else 1) = 0 then W.heap[g]? else none) = _
      simp [hg]
    · cases hp
      intro b hb hne
      show (if (if b = g then 0 else 1) = 0 + 1 then W.heap[b]? else none) = _
      simp [hne]
    · simp at hp
  · intro e w' he
    obtain ⟨hl, h1, h2⟩ := he
    cases e with
    | returned u =>
      obtain ⟨rfl, rfl⟩ := h1
      refine ⟨rfl, h2.os, h2.output, fun i hi => ?_⟩
      by_cases hig : i = g
      · subst hig
        obtain ⟨S, h3⟩ := h2.get (.here)
        rw [hg]; exact (res_pt h3).2
      · obtain ⟨S, h3⟩ := h2.get (.there .here)
        have h4 := h3 i hi hig
        obtain ⟨o, ho⟩ : ∃ o, W.heap[i]? = some o := ⟨_, Array.getElem?_eq_getElem hi⟩
        rw [ho] at h4 ⊢; exact (res_pt h4).2
    | _ => exact h1.elim
end
end Go.Eng
/-
  Slices that begin anywhere in their rows; append of anything; closures. Speaks of no program.
-/
set_option linter.unusedVariables false
set_option linter.unusedSimpArgs false
namespace Go.Eng

/-- a slice of n elements that owns its cells xs; z: it begins its row, which is its capacity's -/
def ownG (z : Bool) (T sz : Nat) (v : Value) (n : Nat) (xs : List Value) : HP := fun h =>
  xs.length = n * sz ∧ ((v = .slice none 0 0 ∧ n = 0) ∨
    ∃ g off cap cur, v = .slice (some ⟨g, off, none⟩) n cap ∧ h g = some (.cells cur T (0, 0)) ∧ n ≤ cap ∧ cap ≤ maxLen ∧ off + cap * sz ≤ cur.size ∧ (cur.toList.drop off).take (n * sz) = xs ∧ (z = true → off = 0 ∧ cur.size = cap * sz))
abbrev ownO := ownG false
theorem own_G {T sz n : Nat} {v : Value} {xs : List Value} {h : Hp} : own T sz v n xs h ↔ ownG true T sz v n xs h := by
  constructor
  · rintro ⟨h1, h2 | ⟨g, cap, cur, rfl, h3, h4, h5, h6, h7⟩⟩
    · exact ⟨h1, .inl h2⟩
    · exact ⟨h1, .inr ⟨g, 0, cap, cur, rfl, h3, h4, h5, by omega, by simpa using h7, fun _ => ⟨rfl, h6⟩⟩⟩
  · rintro ⟨h1, h2 | ⟨g, off, cap, cur, rfl, h3, h4, h5, h6, h7, h8⟩⟩
    · exact ⟨h1, .inl h2⟩
    · obtain ⟨rfl, h9⟩ := h8 rfl
      exact ⟨h1, .inr ⟨g, cap, cur, rfl, h3, h4, h5, h9, by simpa using h7⟩⟩
theorem own_eq {T sz n : Nat} {v : Value} {xs : List Value} : own T sz v n xs = ownG true T sz v n xs := by
  funext h; exact propext own_G
theorem ownG_weak {z : Bool} {T sz n : Nat} {v : Value} {xs : List Value} {h : Hp} (hh : ownG z T sz v n xs h) : ownO T sz v n xs h := by
  obtain ⟨h1, h2 | ⟨g, off, cap, cur, h3, h4, h5, h6, h7, h8, h9⟩⟩ := hh
  · exact ⟨h1, .inl h2⟩
  · exact ⟨h1, .inr ⟨g, off, cap, cur, h3, h4, h5, h6, h7, h8, fun e => by cases e⟩⟩
theorem star_imp {p q : HP} {L : List HP} {h : Hp} (hs : star (p :: L) h) (hi : ∀ h, p h → q h) : star (q :: L) h := by
  obtain ⟨S, h1, h2⟩ := star_cons.1 hs
  exact star_cons.2 ⟨S, hi _ h1, h2⟩

theorem setCells_heap (b : Nat) {T : Nat} : ∀ (vs : List Value) (o : Nat) (w : World) (cs : List Value), w.heap[b]? = some (.cells cs.toArray T (0, 0)) → o + vs.length ≤ cs.length →
    (w.setCells b o vs).heap[b]? = some (.cells (cs.take o ++ vs ++ cs.drop (o + vs.length)).toArray T (0, 0)) ∧ ∀ k, k ≠ b → (w.setCells b o vs).heap[k]? = w.heap[k]?
  | [], o, w, cs, hb, _ => by simpa [World.setCells] using hb
  | v :: vs, o, w, cs, hb, hl => by
    simp only [List.length_cons] at hl
    have h1 : (w.setCell ⟨b, o, none⟩ v).heap[b]? = some (.cells (cs.set o v).toArray T (0, 0)) := by
      simp [World.setCell, Array.getElem?_modify, hb]
    obtain ⟨h2, h3⟩ := setCells_heap b vs (o + 1) _ _ h1 (by simp; omega)
    refine ⟨?_, fun k hk => ?_⟩
    · rw [World.setCells, h2]
      have e1 : (cs.set o v).take (o + 1) = cs.take o ++ [v] := by
        rw [List.take_add_one, List.take_set_of_le (Nat.le_refl _)]
        simp [show o < cs.length by omega]
      have e2 : (cs.set o v).drop (o + 1 + vs.length) = cs.drop (o + (vs.length + 1)) := by
        rw [List.drop_set_of_lt (by omega)]; congr 1; omega
      rw [e1, e2]; simp
    · rw [World.setCells, h3 k hk]
      exact RowKit.Below.heap_setCell _ _ _ _ hk

section
variable {P : Program} {L : List (Nat × Value)} {H : List HP} {o : Oper}
theorem ownG_shape {z : Bool} {T sz n : Nat} {v : Value} {xs : List Value} {h : Hp} (hh : ownG z T sz v n xs h) : xs.length = n * sz ∧ n ≤ maxLen ∧ ∃ ad c, v = .slice ad n c ∧ n ≤ c := by
  obtain ⟨h1, ⟨rfl, rfl⟩ | ⟨g, off, cap, cur, rfl, h4, h5, h6, h7, h8, h9⟩⟩ := hh
  · exact ⟨h1, Nat.zero_le _, _, _, rfl, Nat.le_refl _⟩
  · exact ⟨h1, by omega, _, _, rfl, h5⟩
theorem own_shape {T sz n : Nat} {v : Value} {xs : List Value} {h : Hp} (hh : own T sz v n xs h) : xs.length = n * sz ∧ n ≤ maxLen ∧ ∃ ad c, v = .slice ad n c ∧ n ≤ c := ownG_shape (own_G.1 hh)
theorem ownG_src {z : Bool} {tx T sz n : Nat} {v : Value} {xs : List Value} {S : Nat → Prop} {w : World} (hk : P.underlying tx = some (.slice T)) (hh : ownG z T sz v n xs (res S w)) (h1 : ∀ u ∈ xs, u.oneCell' = true) : Src P sz tx v n xs w := by
  obtain ⟨hl, ⟨rfl, rfl⟩ | ⟨g, off, cap, cur, rfl, hg, h5, h6, h7, h8, h9⟩⟩ := hh
  · obtain rfl : xs = [] := List.eq_nil_of_length_eq_zero (by simpa using hl)
    exact Src.ofNil w hk 0
  · refine Src.ofSlice w hk _ _ _ _ hl (fun j u hj => ?_) h1
    have hg := (res_pt hg).2
    rw [Addr.add_lit]
    rw [← h8, List.getElem?_take] at hj
    split at hj
    · rw [List.getElem?_drop, Array.getElem?_toList] at hj
      simp [World.cell?, hg, hj]
    · cases hj
theorem cel_src {tx e b U off m c sz : Nat} {ys news : List Value} {w0 w : World} (hk : P.underlying tx = some (.slice e)) (hw : WS w0 H w) (hm : Mem (cel b U ys) H) (hn : sliceL ys off (m * sz) = news) (hl : news.length = m * sz) (h1 : ∀ u ∈ news, u.oneCell' = true) : Src P sz tx (.slice (some ⟨b, off, none⟩) m c) m news w := by
  refine Src.ofSlice w hk _ _ _ _ hl (fun j u hj => ?_) h1
  rw [Addr.add_lit]
  refine cell_cel hw hm ?_
  rw [nth_eq]
  rw [← hn] at hj
  simp only [sliceL, List.getElem?_take, List.getElem?_drop] at hj
  split at hj
  · exact hj
  · cases hj
theorem str_src {tx : Nat} {l : List UInt8} {w : World} (hk : P.underlying tx = some .string) : Src P 1 tx (str l) l.length (l.map u8v) w := by
  have := Src.ofString (P := P) w hk ⟨l.toArray⟩
  have e1 : (⟨l.toArray⟩ : ByteArray).size = l.length := by simp [ByteArray.size]
  have e2 : byteCells ⟨l.toArray⟩ = l.map u8v := by simp only [byteCells, List.toList_toArray]; rfl
  rw [e1, e2] at this; exact this

/-- append of anything -/
theorem e_appendG {z : Bool} {x y : Operand} {t tx e sz bytes : Nat} {zs : List Value} {v v2 : Value} {n m : Nat} {xs news : List Value} {H1 : List HP} (ho : o.op = .call { callee := .builtin .append, args := #[x, y], argTypes := #[t, tx] })
    (hx : ev L x = some v) (hy : ev L y = some v2) (hs : sliceE P t = some e) (hi : infoB P e = some (some zs, sz, bytes)) (hz : Nat.beq zs.length sz = true)
    (ht : Take H (ownG z e sz v n xs) H1) (hsrc : ∀ w0 w, WS w0 H1 w → Src P sz tx v2 m news w) (hb : (n + m) * bytes ≤ 140737488355328 ∧ n + m ≤ 140737488355328) :
    EOp P L H o (fun u H' => H' = ownG z e sz u (n + m) (xs ++ news) :: H1) := by
  intro N D a w w0 K Q hf hw hk
  obtain ⟨i, zv, hi1, hi2, hi3, hi4, hi5⟩ := infoB_spec hi
  have hz' := Nat.eq_of_beq_eq_true hz
  have hw2 : WS w0 (ownG z e sz v n xs :: H1) w := hw.take1 ht
  have hS := hsrc w0 w ⟨star_tail hw2.sat, hw2.os, hw2.tape, hw2.output⟩
  rw [← hi4] at hS
  obtain ⟨S, hp⟩ := hw2.get .here
  have hlen : (xs ++ news).length = (n + m) * sz := by rw [List.length_append, hp.1, hS.newsLen, hi4, Nat.add_mul]
  have hst := sliceE_spec hs
  have hnl : news.length = m * sz := by rw [hS.newsLen, hi4]
  have grown : ∀ (old : Nat), old < n + m → ∀ u, u = Value.slice (some ⟨w.heap.size, 0, none⟩) (n + m) (grownCap w (n + m) old e) →
      WS w0 (ownG z e sz u (n + m) (xs ++ news) :: H1) (w.drew.alloc (.cells ((xs ++ news).toArray ++ Builtin.zeroCells zv.cells (grownCap w (n + m) old e - (n + m))) e)) := by
    rintro old ho u rfl
    have hge := grownCap_ge w (n + m) old e
    have hcm : grownCap w (n + m) old e ≤ maxLen := grownCap_le_maxLen w (n + m) old e (by unfold maxLen; omega)
    have hsz : ((xs ++ news).toArray ++ Builtin.zeroCells zv.cells (grownCap w (n + m) old e - (n + m))).size = grownCap w (n + m) old e * sz := by
      simp only [Array.size_append, List.size_toArray, size_zeroCells, hi3, hz', hlen, ← Nat.add_mul]
      congr 1; omega
    refine hw2.upd .here (fun S' hp' => ⟨⟨hlen, .inr ⟨w.heap.size, 0, _, _, rfl, ?_, hge, hcm, by rw [hsz]; omega, ?_, fun _ => ⟨rfl, hsz⟩⟩⟩, fun k hk _ => RowKit.Below.heap_alloc w.drew _ k hk⟩) rfl rfl rfl
    · rw [res_in (.inr (Nat.le_refl _))]; exact heap_alloc_new w.drew _
    · rw [List.drop_zero, ← hlen]
      simp only [Array.toList_append]
      exact List.take_left
  have hrun : ∃ u w', (Builtin.append_ #[t, tx] o.type #[v, v2]).run P w = .ok u w' ∧ WS w0 (ownG z e sz u (n + m) (xs ++ news) :: H1) w' := by
    rcases hp.2 with ⟨rfl, rfl⟩ | ⟨g, off, cap, cur, rfl, hg, hnc, hcm, hfit, htk, hzz⟩
    · have hx0 : xs = [] := List.eq_nil_of_length_eq_zero (by simpa using hp.1)
      subst hx0
      by_cases hm : m = 0
      · subst hm
        have hn0 : news = [] := List.eq_nil_of_length_eq_zero (by simpa using hnl)
        subst hn0
        refine ⟨.slice none 0 0, w, ?_, by simpa using hw2⟩
        have hc := hS.cells
        have hl := hS.len w
        rcases hS.kind with ⟨e', hk'⟩ | hk' <;> simp [Builtin.append_, run_underlying hst, run_underlying hk', sizeOf, typeInfo, hi1, hS.len, hS.cells]
      · have hold : (Builtin.firstCells i.size 0 (.slice none 0 0)).run P w.drew = .ok ([] : List Value).toArray w.drew := run_firstCells_none w.drew i.size 0 0 0
        have hr := run_append_grow_src (P := P) w t tx o.type e i zv hst hi1 hi2 none 0 0 [] hold v2 m news hS (by omega) (by omega) (growslice_fits (by omega) (by rw [hi5]; exact hb.1))
        exact ⟨_, _, hr, by have := grown 0 (by omega) _ rfl; simpa using this⟩
    · have hgw := (res_pt hg).2
      by_cases hroom : n + m ≤ cap
      · have hfit2 : off + n * sz + news.length ≤ cur.toList.length := by
          have h1 : (n + m) * sz ≤ cap * sz := Nat.mul_le_mul_right _ hroom
          rw [Nat.add_mul] at h1
          have hcl : cur.toList.length = cur.size := Array.length_toList
          omega
        have hcl : cur.toList.length = cur.size := Array.length_toList
        have hr := run_append_room_src (P := P) w t tx o.type e i hst hi1 g off n cap v2 m news hS hroom (fun j hj => by
            rw [hi4]
            have h2 : off + n * sz + j < cur.size := by omega
            simp [World.cell?, hgw, h2]) (fun j hj => by simp [World.frozen?, hgw])
        rw [hi4] at hr
        obtain ⟨h3, h4⟩ := setCells_heap g news (off + n * sz) w cur.toList (by simpa using hgw) hfit2
        refine ⟨_, _, hr, ?_⟩
        have hk0 := World.keptBut_setCells g (may := fun _ => True) news (off + n * sz) w (fun _ _ => trivial)
        refine hw2.upd .here (fun S' hp' => ?_) hk0.1 ?_ hk0.2.1
        · have hSg : S' g := by
            obtain ⟨_, ⟨e1, _⟩ | ⟨g', off', cap', cur', e1, hg', _⟩⟩ := hp'
            · cases e1
            · cases e1; exact (res_pt hg').1
          refine ⟨⟨hlen, .inr ⟨g, off, cap, (cur.toList.take (off + n * sz) ++ news ++ cur.toList.drop (off + n * sz + news.length)).toArray, rfl, ?_, hroom, hcm, ?_, ?_, ?_⟩⟩, fun k hlt hk => h4 k (fun e => hk (e ▸ hSg))⟩
          · rw [res_in (.inl hSg)]; exact h3
          · simp only [List.size_toArray, List.length_append, List.length_take, List.length_drop] at hfit2 ⊢; omega
          · have e1 : (n + m) * sz = n * sz + news.length := by rw [hnl, Nat.add_mul]
            have e2 : (cur.toList.drop off).take (n * sz) = xs := htk
            have hl1 : off ≤ (cur.toList.take (off + n * sz)).length := by rw [List.length_take]; omega
            rw [List.append_assoc, List.drop_append_of_le_length hl1, List.drop_take, Nat.add_sub_cancel_left, e2, e1]
            have hxl : xs.length = n * sz := hp.1
            rw [← hxl, List.take_length_add_append, List.take_left]
          · intro hzt
            obtain ⟨h5, h6⟩ := hzz hzt
            refine ⟨h5, ?_⟩
            simp only [List.size_toArray, List.length_append, List.length_take, List.length_drop] at hfit2 ⊢; omega
        · have : ∀ (vs : List Value) (o : Nat) (w : World), (w.setCells g o vs).tape = w.tape := by
            intro vs
            induction vs with
            | nil => intro o w; rfl
            | cons v vs ih => intro o w; exact (ih _ _).trans rfl
          exact this _ _ _
      · have hgd : w.drew.heap[g]? = some (.cells cur e (0, 0)) := hgw
        have hold : (Builtin.firstCells i.size n (.slice (some ⟨g, off, none⟩) n cap)).run P w.drew = .ok xs.toArray w.drew := by
          refine run_firstCells_some w.drew i.size n _ _ _ xs (by rw [hi4]; exact hp.1) (fun j u hj => ?_)
          rw [Addr.add_lit]
          rw [← htk, List.getElem?_take] at hj
          split at hj
          · rw [List.getElem?_drop, Array.getElem?_toList] at hj
            simp [World.cell?, hgd, hj]
          · cases hj
        have hr := run_append_grow_src (P := P) w t tx o.type e i zv hst hi1 hi2 (some ⟨g, off, none⟩) n cap xs hold v2 m news hS (by omega) (by omega) (growslice_fits (by omega) (by rw [hi5]; exact hb.1))
        exact ⟨_, _, hr, grown cap (by omega) _ rfl⟩
  obtain ⟨u, w', h1, h2⟩ := hrun
  have hrun : (execOp a.eval o).run P w = .ok (.value u) w' := by
    unfold execOp; rw [ho]
    simp [resolve, invoke, builtin, hf.ev hx, hf.ev hy, h1]
  unfold Oper.wp; rw [hrun]
  exact hk _ _ _ rfl h2

theorem e_appendA {x y : Operand} {t tx e sz bytes : Nat} {zs : List Value} {v v2 : Value} {n m : Nat} {xs news : List Value} {H1 : List HP} (ho : o.op = .call { callee := .builtin .append, args := #[x, y], argTypes := #[t, tx] })
    (hx : ev L x = some v) (hy : ev L y = some v2) (hs : sliceE P t = some e) (hi : infoB P e = some (some zs, sz, bytes)) (hz : Nat.beq zs.length sz = true)
    (ht : Take H (own e sz v n xs) H1) (hsrc : ∀ w0 w, WS w0 H1 w → Src P sz tx v2 m news w) (hb : (n + m) * bytes ≤ 140737488355328 ∧ n + m ≤ 140737488355328) :
    EOp P L H o (fun u H' => H' = own e sz u (n + m) (xs ++ news) :: H1) := by
  simp only [own_eq] at ht ⊢
  exact e_appendG ho hx hy hs hi hz ht hsrc hb
/-- s[l:] -/
def slLo (sz : Nat) : Value → Nat → Value
  | .slice ad n c, l => .slice (if c = l then ad else ad.map (·.add (l * sz))) (n - l) (c - l)
  | v, _ => v
theorem ownG_lo {z : Bool} {T sz n l : Nat} {v : Value} {xs : List Value} {h : Hp} (hh : ownG z T sz v n xs h) (hl : l ≤ n) : ownO T sz (slLo sz v l) (n - l) (xs.drop (l * sz)) h := by
  obtain ⟨h1, ⟨rfl, rfl⟩ | ⟨g, off, cap, cur, rfl, h4, h5, h6, h7, h8, h9⟩⟩ := hh
  · obtain rfl : l = 0 := by omega
    obtain rfl : xs = [] := List.eq_nil_of_length_eq_zero (by simpa using h1)
    exact ⟨by simp, .inl ⟨by simp [slLo], rfl⟩⟩
  · have hxl : (xs.drop (l * sz)).length = (n - l) * sz := by rw [List.length_drop, h1, Nat.sub_mul]
    refine ⟨hxl, .inr ?_⟩
    by_cases hc : cap = l
    · obtain rfl : n = l := by omega
      refine ⟨g, off, 0, cur, by simp [slLo, hc], h4, by omega, by omega, by omega, ?_, fun e => by cases e⟩
      rw [List.eq_nil_of_length_eq_zero (l := xs.drop (n * sz)) (by rw [hxl]; simp)]; simp
    · refine ⟨g, off + l * sz, cap - l, cur, by simp [slLo, hc, Addr.add_lit], h4, by omega, by omega, ?_, ?_, fun e => by cases e⟩
      · have h2 : l * sz + (cap - l) * sz = cap * sz := by rw [← Nat.add_mul]; congr 1; omega
        omega
      · rw [← h8, List.drop_take, List.drop_drop, ← Nat.sub_mul]
theorem q_slO_lo {x y : Operand} {t e sz n cap l : Nat} {ad : Option Addr} {k : IntKind} (ho : o.op = .slice t x (some y) none none) (hx : ev L x = some (.slice ad n cap)) (hy : ev L y = some (.int k (l : Int))) (hs : sliceE P t = some e) (hz : sizeB P e = some sz) (h : l ≤ n) (hc : n ≤ cap) : QOp P L o (slLo sz (.slice ad n cap) l) := by
  intro N D ac w hf
  unfold execOp; rw [ho]
  have := sliced_run (ad := ad) (len := n) (lo := l) (hi := n) (cap := cap) hs hz (some (.int k l)) none w ⟨k, rfl⟩ rfl h hc h
  simp only [hf.ev hx, hf.ev hy, Option.map_none, Option.map_some, Sem.run_bind] at this ⊢
  rw [this]; rfl
/-- s[:h] is read -/
theorem ownG_hi {z : Bool} {T sz n l c : Nat} {ad : Option Addr} {xs : List Value} {h : Hp} (hh : ownG z T sz (.slice ad n c) n xs h) (hl : l ≤ n) : ownO T sz (.slice ad l c) l (xs.take (l * sz)) h := by
  obtain ⟨h1, ⟨e, rfl⟩ | ⟨g, off, cap, cur, e, h4, h5, h6, h7, h8, h9⟩⟩ := hh
  · cases e
    obtain rfl : l = 0 := by omega
    exact ⟨by simp, .inl ⟨rfl, rfl⟩⟩
  · cases e
    refine ⟨?_, .inr ⟨g, off, c, cur, rfl, h4, by omega, h6, h7, ?_, fun e => by cases e⟩⟩
    · rw [List.length_take, h1]; exact Nat.min_eq_left (Nat.mul_le_mul_right _ hl)
    · rw [← h8, List.take_take, Nat.min_eq_left (Nat.mul_le_mul_right _ hl)]
theorem src_G {z : Bool} {tx T sz n : Nat} {v : Value} {xs : List Value} (hk : sliceE P tx = some T) (hm : Mem (ownG z T sz v n xs) H) (h1 : ∀ u ∈ xs, u.oneCell' = true) : ∀ w0 w, WS w0 H w → Src P sz tx v n xs w := fun w0 w hw => by
  obtain ⟨S, h⟩ := hw.get hm; exact ownG_src (sliceE_spec hk) h h1
theorem src_own {tx T sz n : Nat} {v : Value} {xs : List Value} (hk : sliceE P tx = some T) (hm : Mem (own T sz v n xs) H) (h1 : ∀ u ∈ xs, u.oneCell' = true) : ∀ w0 w, WS w0 H w → Src P sz tx v n xs w := fun w0 w hw => by
  obtain ⟨S, h⟩ := hw.get hm; exact ownG_src (sliceE_spec hk) (own_G.1 h) h1
/-- the first l elements -/
theorem src_hi {z : Bool} {tx T sz n l c : Nat} {ad : Option Addr} {xs : List Value} (hk : sliceE P tx = some T) (hm : Mem (ownG z T sz (.slice ad n c) n xs) H) (h1 : ∀ u ∈ xs, u.oneCell' = true) (hl : l ≤ n) : ∀ w0 w, WS w0 H w → Src P sz tx (.slice ad l c) l (xs.take (l * sz)) w := fun w0 w hw => by
  obtain ⟨S, h⟩ := hw.get hm; exact ownG_src (sliceE_spec hk) (ownG_hi h hl) (fun u hu => h1 u (List.mem_of_mem_take hu))
theorem src_str {tx : Nat} {l : List UInt8} (hk : P.underlying tx = some .string) : ∀ w0 w, WS w0 H w → Src P 1 tx (str l) l.length (l.map u8v) w := fun _ _ _ => str_src hk
theorem src_one {tx e b U c : Nat} {x : Value} (hk : sliceE P tx = some e) (hm : Mem (cel b U [x]) H) (h1 : x.oneCell' = true) : ∀ w0 w, WS w0 H w → Src P 1 tx (.slice (some ⟨b, 0, none⟩) 1 c) 1 [x] w := fun _ _ hw => cel_src (sliceE_spec hk) hw hm rfl rfl (fun u hu => by rw [List.mem_singleton.1 hu]; exact h1)
theorem src_cel {tx e b U off m c sz : Nat} {ys news : List Value} (hk : sliceE P tx = some e) (hm : Mem (cel b U ys) H) (hn : sliceL ys off (m * sz) = news) (hl : news.length = m * sz) (h1 : ∀ u ∈ news, u.oneCell' = true) : ∀ w0 w, WS w0 H w → Src P sz tx (.slice (some ⟨b, off, none⟩) m c) m news w := fun _ _ hw => cel_src (sliceE_spec hk) hw hm hn hl h1

end

section
variable {P : Program} {w0 : World} {N : Nat} {Q : Exit → Act → World → Prop} {D : List Deferred} {L : List (Nat × Value)} {H H1 : List HP} {p q : HP}
/-- the store at the end of a region that draws -/
theorem G.stZ {dr : Bool} {C : World → Prop} {cl : Oper → Cls} {ol : List Oper} {o : Oper} {H' : List HP} {x y : Operand} {v : Value} {T U b off : Nat} {cs cs' : List Value}
    (hT : sizeB P T = some 1) (k : G ⟨P, dr, fun _ => True, cl, ol, Q, w0, N⟩ D [] L H') (ho : o.op = .store T x y := by exact rfl) (hx : ev L x = some (.pointer (some ⟨b, off, none⟩)) := by exact rfl) (hy : ev L y = some v := by exact rfl) (hd : o.dst = none := by exact rfl) (hg : gd ol L o = some true := by exact rfl)
    (hc : okc ⟨P, dr, C, cl, ol, Q, w0, N⟩ o .z = true := by exact rfl) (hv : v.oneCell' = true := by exact rfl) (hr : Rep H (cel b U cs) (cel b U cs') H' := by repeat (first | exact Rep.here | apply Rep.there)) (hs : SetAt cs off v cs' := by repeat (first | exact SetAt.zero | apply SetAt.succ)) :
    G ⟨P, dr, C, cl, ol, Q, w0, N⟩ D [o] L H :=
  .z0 hd hg hc (e_store ho hx hy hT hv hs hr) (fun _ _ h => by obtain ⟨_, rfl⟩ := h; exact k) rfl
theorem WS.imp {w : World} (h : WS w0 (p :: H) w) (hi : ∀ h, p h → q h) : WS w0 (q :: H) w := ⟨star_imp h.sat hi, h.os, h.tape, h.output⟩
/-- one part is said otherwise -/
theorem CG.imp {c : Code} (ht : Take H p H1) (hi : ∀ h, p h → q h) (k : CG P w0 N c Q D L (q :: H1)) : CG P w0 N c Q D L H := fun a w hf hw => k a w hf ((hw.take1 ht).imp hi)
theorem G.imp {E : Env} {l : List Oper} (ht : Take H p H1) (hi : ∀ h, p h → q h) (k : G E D l L (q :: H1)) : G E D l L H := fun a w hf hw => k a w hf ((hw.take1 ht).imp hi)
theorem EN.imp {e : Exit} (ht : Take H p H1) (hi : ∀ h, p h → q h) (k : EN w0 N Q e D L (q :: H1)) : EN w0 N Q e D L H := fun a w hf hw => k a w hf ((hw.take1 ht).imp hi)
theorem WS.fact {w : World} {α : Prop} (h : WS w0 (p :: H) w) (hi : ∀ h, p h → α) : α := by obtain ⟨S, h1, _⟩ := star_cons.1 h.sat; exact hi _ h1
/-- what a part tells -/
theorem CG.fact {c : Code} {α : Prop} (ht : Take H p H1) (hi : ∀ h, p h → α) (k : α → CG P w0 N c Q D L H) : CG P w0 N c Q D L H := fun a w hf hw => k ((hw.take1 ht).fact hi) a w hf hw
theorem G.fact {E : Env} {l : List Oper} {α : Prop} (ht : Take H p H1) (hi : ∀ h, p h → α) (k : α → G E D l L H) : G E D l L H := fun a w hf hw => k ((hw.take1 ht).fact hi) a w hf hw
theorem EN.fact {e : Exit} {α : Prop} (ht : Take H p H1) (hi : ∀ h, p h → α) (k : α → EN w0 N Q e D L H) : EN w0 N Q e D L H := fun a w hf hw => k ((hw.take1 ht).fact hi) a w hf hw
/-- a call of a closure -/
theorem e_callc {o : Oper} {f : FuncId} {y : Operand} {xs : List Operand} {ts : Array TypeId} {vs fi ca : List Value} {pre F : List HP} {post : Value → List HP → Prop}
    (ho : o.op = .call { callee := .value y, args := xs.toArray, argTypes := ts }) (hy : ev L y = some (.func (.func f) fi.toArray ca.toArray)) (hx : evs L xs = some vs) (hb : bodied P f = true) (hH : H = pre ++ F)
    (hs : Spec P f (fi ++ vs ++ ca).toArray pre (Ret post)) : EOp P L H o (fun v H' => ∃ hl, post v hl ∧ H' = hl ++ F) := by
  intro N D a w w0 K Q hf hw hk
  subst hH
  have hrun : (execOp a.eval o).run P w = .ok (.enter f (fi ++ vs ++ ca).toArray) w := by
    unfold execOp; rw [ho]
    have hm : xs.toArray.map a.eval = vs.toArray := by simp [evs_eval hf hx]
    simp only [resolve, Sem.run_bind, hm]
    rw [hf.ev hy]
    simp [Deferred.ofValue, invoke, run_callFunc hb]
  unfold Oper.wp
  rw [hrun]
  simp only [Oper.upon]
  refine (hs F w0 w hw).mono ?_
  rintro e w' ⟨hl, hp, hw'⟩
  cases e with
  | returned v => exact hk v _ w' ⟨hl, hp, rfl⟩ hw'
  | panicked c => exact hp.elim
  | outgrown => exact hp.elim
theorem G.callc {E : Env} {o : Oper} {rest : List Oper} {d : Nat} {f : FuncId} {y : Operand} {xs : List Operand} {ts : Array TypeId} {vs fi ca : List Value} {pre F : List HP} {post : Value → List HP → Prop}
    (ho : o.op = .call { callee := .value y, args := xs.toArray, argTypes := ts }) (hy : ev L y = some (.func (.func f) fi.toArray ca.toArray)) (hx : evs L xs = some vs) (hs : Spec E.P f (fi ++ vs ++ ca).toArray pre (Ret post)) (hb : bodied E.P f = true)
    (hd : o.dst = some d) (hdn : Nat.blt d E.N = true) (hg : gd E.ol L o = some true) (hc : okc E o .e = true) (ht : Takes H pre F)
    (hC : E.dr = true → ∀ v hl w', post v hl → WS E.w0 (hl ++ F) w' → E.C w')
    (k : ∀ v hl, post v hl → G E D rest ((d, v) :: L) (hl ++ F)) : G E D (o :: rest) L H := by
  refine G.takes ht ?_
  refine G.e hd hdn hg hc (e_callc ho hy hx hb rfl hs) ?_ ?_
  · rintro hdr v H' w' ⟨hl, hp, rfl⟩ hw'; exact hC hdr v hl w' hp hw'
  · rintro v H' ⟨hl, hp, rfl⟩; exact k v hl hp
end
end Go.Eng
/-
  Plain: deltas written (delta), no program in sight.
-/
set_option linter.unusedVariables false
namespace Go.Eng
namespace Dlt
/-- groups of seven bits -/
def sized (n : Nat) : List UInt8 := if h : 128 ≤ n then UInt8.ofNat (n % 128 + 128) :: sized (n / 128) else [UInt8.ofNat n]
termination_by n
theorem sized_len (n : Nat) : ∀ k, n < 128 ^ (k + 1) → (sized n).length ≤ k + 1 := by
  induction n using Nat.strongRecOn with
  | _ n ih =>
    intro k hk
    unfold sized
    split
    · cases k with
      | zero => rw [Nat.pow_succ, Nat.pow_zero] at hk; omega
      | succ k =>
        rw [Nat.pow_succ] at hk
        have := ih (n / 128) (by omega) k (by rw [Nat.div_lt_iff_lt_mul (by omega)]; exact hk)
        simp only [List.length_cons]; omega
    · simp
theorem or128_fin : ∀ a : _root_.Fin 256, (a.val ||| 128) = a.val % 128 + 128 := by decide +kernel
theorem or128 (n : Nat) : bits .or .u8 ((u8i (n : Int)).toNat : Int) 128 = ((UInt8.ofNat (n % 128 + 128)).toNat : Int) := by
  have e : (u8i (n : Int)).toNat = n % 256 := by unfold u8i; simp; omega
  have h := bits_or_lim (k := .u8) (a := n % 256) (b := 128) (by simp [lim, IntKind.signed, IntKind.bits]; omega) (by simp [lim, IntKind.signed, IntKind.bits])
  rw [show ((128 : Nat) : Int) = 128 from rfl] at h
  rw [e, h, or128_fin ⟨n % 256, by omega⟩]
  simp; omega
/-- a byte of a copy -/
def cx (o n i : Nat) : Nat := if 4 ≤ i then n / 2 ^ (8 * (i - 4)) % 256 else o / 2 ^ (8 * i) % 256
def takes (o n i : Nat) : Bool := decide (cx o n i ≠ 0) && !(decide (i = 6) && decide (n = 65536))
def flags (o n : Nat) : Nat → Nat
  | 0 => 0
  | k + 1 => flags o n k + if takes o n k then 2 ^ k else 0
def copyL (o n : Nat) : Nat → List UInt8
  | 0 => []
  | k + 1 => copyL o n k ++ if takes o n k then [UInt8.ofNat (cx o n k)] else []
def copyOf (o n : Nat) : List UInt8 := UInt8.ofNat (128 + flags o n 7) :: copyL o n 7
theorem flags_lt (o n k : Nat) : flags o n k < 2 ^ k := by
  induction k with
  | zero => simp [flags]
  | succ k ih => unfold flags; rw [Nat.pow_succ]; split <;> omega
theorem copyL_len (o n k : Nat) : (copyL o n k).length ≤ k := by
  induction k with
  | zero => simp [copyL]
  | succ k ih => unfold copyL; rw [List.length_append]; split <;> simp <;> omega
theorem copyOf_len (o n : Nat) : (copyOf o n).length ≤ 8 := by have := copyL_len o n 7; simp [copyOf]; omega
theorem flag_fin : ∀ i : _root_.Fin 7, ∀ f : _root_.Fin 64, f.val < 2 ^ i.val → ((128 + f.val) ||| 2 ^ i.val) = 128 + f.val + 2 ^ i.val := by decide +kernel
theorem flag_or {i f : Nat} (hi : i < 7) (hf : f < 2 ^ i) : bits .or .u8 ((128 + f : Nat) : Int) ((2 ^ i : Nat) : Int) = ((128 + f + 2 ^ i : Nat) : Int) := by
  have h6 : 2 ^ i ≤ 2 ^ 6 := Nat.pow_le_pow_right (by omega) (by omega)
  have h := bits_or_lim (k := .u8) (a := 128 + f) (b := 2 ^ i) (by simp [lim, IntKind.signed, IntKind.bits]; omega) (by simp only [lim, IntKind.signed, IntKind.bits]; omega)
  rw [h, flag_fin ⟨i, hi⟩ ⟨f, by omega⟩ hf]
theorem shr8 (o k : Nat) (hk : k ≤ 7) : (o : Int) / 2 ^ min (8 * (k : Int)).toNat IntKind.i64.bits = ((o / 2 ^ (8 * k) : Nat) : Int) := by
  have h := shr_nat (k := .i64) (a := o) (c := 8 * k) (by simp [IntKind.bits]; omega)
  rw [show (((8 * k : Nat) : Int)).toNat = (8 * (k : Int)).toNat by omega, Nat.shiftRight_eq_div_pow] at h
  exact h
theorem shl1 {k : Nat} (hk : k < 7) : IntKind.u8.wrap (1 * 2 ^ min (k : Int).toNat IntKind.u8.bits) = ((2 ^ k : Nat) : Int) := by
  have h6 : 2 ^ k ≤ 2 ^ 6 := Nat.pow_le_pow_right (by omega) (by omega)
  have h := shl_nat (k := .u8) (n := 8) rfl rfl (a := 1) (c := k) (by omega) (by omega)
  rw [Nat.shiftLeft_eq, Nat.one_mul] at h
  exact h
theorem head_val (o n : Nat) {k : Nat} (hk : k ≤ 7) : (UInt8.ofNat (128 + flags o n k)).toNat = 128 + flags o n k := by
  have h1 := flags_lt o n k
  have h2 : 2 ^ k ≤ 2 ^ 7 := Nat.pow_le_pow_right (by omega) hk
  simp; omega
theorem head2 {f k : Nat} (hf : f < 2 ^ k) (hk : k < 7) : ((128 + f + 2 ^ k : Nat) : Int) = ((UInt8.ofNat (128 + f + 2 ^ k)).toNat : Int) := by
  have h2 : 2 ^ k ≤ 2 ^ 6 := Nat.pow_le_pow_right (by omega) (by omega)
  generalize 2 ^ k = p at *
  rw [UInt8.toNat_ofNat']; omega
def cpL (o n k : Nat) : List UInt8 := UInt8.ofNat (128 + flags o n k) :: copyL o n k
theorem cpL_no {o n k : Nat} (h : takes o n k = false) : cpL o n k = cpL o n (k + 1) := by
  show UInt8.ofNat (128 + flags o n k) :: copyL o n k = UInt8.ofNat (128 + (flags o n k + if takes o n k then 2 ^ k else 0)) :: (copyL o n k ++ if takes o n k then [UInt8.ofNat (cx o n k)] else [])
  rw [h]; simp
theorem cpL_yes {o n k : Nat} (h : takes o n k = true) : (UInt8.ofNat (128 + flags o n k + 2 ^ k) :: copyL o n k) ++ [UInt8.ofNat (cx o n k)] = cpL o n (k + 1) := by
  unfold cpL; rw [flags, copyL, h, if_pos rfl, if_pos rfl, Nat.add_assoc]; rfl
theorem cpL_len (o n k : Nat) : (cpL o n k).length ≤ k + 1 ∧ 0 < (cpL o n k).length := by have := copyL_len o n k; simp [cpL]; omega
theorem cpL_set {o n k : Nat} {cur : List Value} {x : Value} (h : cur.take ((cpL o n k).length * 1) = (cpL o n k).map u8v) (hx : x = u8v (UInt8.ofNat (128 + flags o n k + 2 ^ k))) : (cur.set 0 x).take ((UInt8.ofNat (128 + flags o n k + 2 ^ k) :: copyL o n k).length * 1) = (UInt8.ofNat (128 + flags o n k + 2 ^ k) :: copyL o n k).map u8v := by
  subst hx
  cases cur with
  | nil => simp [cpL] at h
  | cons c cur => simp [cpL] at h ⊢; exact h.2
theorem takes_yes {o n k : Nat} (h1 : cx o n k ≠ 0) (h2 : ¬ (k = 6 ∧ n = 65536)) : takes o n k = true := by
  unfold takes; rw [decide_eq_true h1]
  by_cases h : k = 6
  · rw [decide_eq_false (p := n = 65536) (fun e => h2 ⟨h, e⟩)]; simp
  · rw [decide_eq_false h]; simp
theorem takes_no {o n k : Nat} (h : cx o n k = 0 ∨ (k = 6 ∧ n = 65536)) : takes o n k = false := by
  unfold takes
  rcases h with h | ⟨h1, h2⟩
  · rw [h]; simp
  · rw [decide_eq_true h1, decide_eq_true h2]; simp
/-- plain bytes, in pieces -/
def plain (p : List UInt8) : List UInt8 := if h : p = [] then [] else UInt8.ofNat (min p.length 127) :: (p.take (min p.length 127) ++ plain (p.drop (min p.length 127)))
termination_by p.length
decreasing_by have := List.length_pos_iff.2 h; simp; omega
theorem plain_len (p : List UInt8) : (plain p).length ≤ 2 * p.length := by
  induction p using plain.induct with
  | case1 => simp [plain]
  | case2 p h ih =>
    have := List.length_pos_iff.2 h
    rw [plain, dif_neg h]; simp only [List.length_cons, List.length_append, List.length_take, List.length_drop] at ih ⊢; omega
def key (s : List UInt8) (i : Nat) : List UInt8 := (s.take (i + 4)).drop i
abbrev Seen := List UInt8 → Option Nat
def note (s : List UInt8) (i : Nat) (seen : Seen) : Seen := if seen (key s i) = none then fun k => if k = key s i then some i else seen k else seen
/-- where four bytes stand first -/
def firsts (s : List UInt8) : Nat → Seen
  | 0 => fun _ => none
  | k + 1 => note s k (firsts s k)
def ml (s t : List UInt8) (o i : Nat) : Nat → Nat → Nat
  | 0, n => n
  | f + 1, n => if o + n < s.length ∧ i + n < t.length ∧ s.getD (o + n) 0 = t.getD (i + n) 0 then ml s t o i f (n + 1) else n
def find (s t : List UInt8) (i : Nat) (seen : Seen) : Nat × Nat := if i + 4 ≤ t.length then match seen (key t i) with | some o => (o, ml s t o i 65536 0) | none => (0, 0) else (0, 0)
def go (s t : List UInt8) (seen : Seen) : Nat → Nat → List UInt8 → List UInt8 → List UInt8
  | 0, _, p, out => out ++ plain p
  | f + 1, i, p, out => if t.length ≤ i then out ++ plain p else
    if (find s t i seen).2 < 4 then go s t seen f (i + 1) (p ++ [t.getD i 0]) out
    else go s t seen f (i + (find s t i seen).2) [] (out ++ plain p ++ copyOf (find s t i seen).1 (find s t i seen).2)
def head (s t : List UInt8) : List UInt8 := sized s.length ++ sized t.length
def long (s t : List UInt8) : List UInt8 := go s t (firsts s (s.length - 3)) t.length 0 [] (head s t)
def make (s t : List UInt8) : List UInt8 := if (head s t ++ plain t).length < (long s t).length then head s t ++ plain t else long s t
theorem ml_le (s t : List UInt8) (o i : Nat) : ∀ (f n : Nat), n ≤ ml s t o i f n ∧ ml s t o i f n ≤ n + f ∧ (ml s t o i f n ≤ n ∨ (o + ml s t o i f n ≤ s.length ∧ i + ml s t o i f n ≤ t.length))
  | 0, n => by simp [ml]
  | f + 1, n => by
    unfold ml
    split
    · have := ml_le s t o i f (n + 1); omega
    · omega
def SeenOk (s : List UInt8) (seen : Seen) : Prop := ∀ k a, seen k = some a → a + 4 ≤ s.length
theorem note_ok {s : List UInt8} {i : Nat} {seen : Seen} (h : SeenOk s seen) (hi : i + 4 ≤ s.length) : SeenOk s (note s i seen) := by
  intro k a hk
  unfold note at hk
  split at hk
  · simp only at hk
    split at hk
    · simp only [Option.some.injEq] at hk; omega
    · exact h k a hk
  · exact h k a hk
theorem firsts_ok (s : List UInt8) (k : Nat) (h : k ≤ s.length - 3) : SeenOk s (firsts s k) := by
  induction k with
  | zero => intro k a h; cases h
  | succ k ih => exact note_ok (ih (by omega)) (by omega)
theorem find_le {s t : List UInt8} {i : Nat} {seen : Seen} (h : SeenOk s seen) : 4 ≤ (find s t i seen).2 → i + (find s t i seen).2 ≤ t.length ∧ (find s t i seen).1 + (find s t i seen).2 ≤ s.length := by
  unfold find
  split
  · split
    · rename_i o ho
      have := ml_le s t o i 65536 0
      have := h _ _ ho
      simp only; omega
    · simp
  · simp
theorem find_no {s t : List UInt8} {i : Nat} {seen : Seen} (h : t.length < i + 4) : find s t i seen = (0, 0) := if_neg (by omega)
theorem find_none {s t : List UInt8} {i : Nat} {seen : Seen} (h : i + 4 ≤ t.length) (hs : seen ((t.take (i + 4)).drop i) = none) : find s t i seen = (0, 0) := by unfold find key; rw [if_pos h, hs]
theorem find_some {s t : List UInt8} {i o : Nat} {seen : Seen} (h : i + 4 ≤ t.length) (hs : seen ((t.take (i + 4)).drop i) = some o) : find s t i seen = (o, ml s t o i 65536 0) := by unfold find key; rw [if_pos h, hs]
theorem note_upd {s : List UInt8} {i : Nat} {seen : Seen} (h : seen ((s.take (i + 4)).drop i) = none) : upd (fun k => (seen k).map iv) ((s.take (i + 4)).drop i) (.int .i64 (i : Int)) = fun k => (note s i seen k).map iv := by
  funext k
  unfold upd note key
  rw [if_pos h]
  split <;> rfl
theorem note_same {s : List UInt8} {i a : Nat} {seen : Seen} (h : seen ((s.take (i + 4)).drop i) = some a) : note s i seen = seen := by unfold note key; rw [h]; rfl
theorem go_len (s t : List UInt8) (seen : Seen) (hs : SeenOk s seen) : ∀ (f i : Nat) (p out : List UInt8), i ≤ t.length → out.length + 2 * p.length ≤ 20 + 9 * i → (go s t seen f i p out).length ≤ 20 + 9 * t.length
  | 0, i, p, out, hi, h => by have := plain_len p; unfold go; rw [List.length_append]; omega
  | f + 1, i, p, out, hi, h => by
    have hp := plain_len p
    have hf := find_le (t := t) (i := i) hs
    have hc := copyOf_len (find s t i seen).1 (find s t i seen).2
    unfold go
    split
    · rw [List.length_append]; omega
    · split
      · exact go_len s t seen hs f _ _ _ (by omega) (by simp; omega)
      · exact go_len s t seen hs f _ _ _ (by omega) (by simp; omega)
theorem sized_le (n : Nat) (h : n ≤ 1000000) : (sized n).length ≤ 3 := sized_len n 2 (by omega)
theorem long_len (s t : List UInt8) (hs : s.length ≤ 1000000) (ht : t.length ≤ 1000000) : (long s t).length ≤ 20 + 9 * t.length := by
  have h1 := sized_le s.length hs
  have h2 := sized_le t.length ht
  exact go_len s t _ (firsts_ok s _ (Nat.le_refl _)) _ _ _ _ (by omega) (by simp [head]; omega)
end Dlt
end Go.Eng
/-
  Deferred calls, recover, results in cells. Speaks of no program.
-/
set_option linter.unusedVariables false
set_option linter.unusedSimpArgs false
namespace Go.Eng
section
variable {P : Program} {w0 : World} {N : Nat} {Q : Exit → Act → World → Prop} {D : List Deferred} {L : List (Nat × Value)} {H : List HP}
theorem q_tassert {o : Oper} {x : Operand} {xT T : TypeId} {v : Value} (ho : o.op = .typeAssert x xT T true) (hx : ev L x = some (.iface T v)) (hT : match P.underlying T with | some (.interface _) => False | some _ => True | none => False) : QOp P L o (.tuple #[v, .bool true]) := by
  intro N D a w hf
  unfold execOp; rw [ho]
  cases hu : P.underlying T with
  | none => rw [hu] at hT; exact hT.elim
  | some d =>
    rw [hu] at hT
    cases d <;> simp only at hT <;> simp [hf.ev hx, Instr.typeAssert, run_underlying hu]
theorem q_tassert_n {o : Oper} {x : Operand} {xT T : TypeId} {z : Value} (ho : o.op = .typeAssert x xT T true) (hx : ev L x = some .nilIface) (hz : zeroB P T = some z) (hT : (P.underlying T).isSome = true) : QOp P L o (.tuple #[z, .bool false]) := by
  intro N D a w hf
  unfold execOp; rw [ho]
  obtain ⟨d, hu⟩ := Option.isSome_iff_exists.1 hT
  cases d <;> simp [hf.ev hx, Instr.typeAssert, run_underlying hu, run_zero hz]
/-- a type that is no interface -/
def niB (P : Program) (T : TypeId) : Bool := match P.underlying T with | some (.interface _) => false | some _ => true | none => false
theorem niB_spec {T : TypeId} (h : niB P T = true) : match P.underlying T with | some (.interface _) => False | some _ => True | none => False := by
  unfold niB at h
  cases hu : P.underlying T with
  | none => rw [hu] at h; cases h
  | some d => rw [hu] at h; cases d <;> first | trivial | cases h
theorem q_ifaceB {o : Oper} {x : Operand} {T : TypeId} {v : Value} (ho : o.op = .makeInterface T x) (hx : ev L x = some v) (hT : niB P T = true) : QOp P L o (.iface T v) := q_iface ho hx (niB_spec hT)
theorem q_tassertB {o : Oper} {x : Operand} {xT T : TypeId} {v : Value} (ho : o.op = .typeAssert x xT T true) (hx : ev L x = some (.iface T v)) (hT : niB P T = true) : QOp P L o (.tuple #[v, .bool true]) := q_tassert ho hx (niB_spec hT)
/-- defer -/
theorem G.defer {cl : Oper → Cls} {ol rest : List Oper} {o : Oper} {y : Operand} {xs : List Operand} {ts : Array TypeId} {vs fi ca : List Value} {fn : Fn} (ho : o.op = .defer { callee := .value y, args := xs.toArray, argTypes := ts }) (hy : ev L y = some (.func fn fi.toArray ca.toArray)) (hx : evs L xs = some vs) (hd : o.dst = none) (hg : gd ol L o = some true)
    (k : G ⟨P, false, fun _ => True, cl, ol, Q, w0, N⟩ ({ target := .fn fn ca.toArray, args := (fi ++ vs).toArray } :: D) rest L H) : G ⟨P, false, fun _ => True, cl, ol, Q, w0, N⟩ D (o :: rest) L H := by
  intro a w hf hw
  simp only
  unfold wpList
  rw [if_pos (gd_spec hf hg)]
  refine .inl ?_
  have hrun : (execOp a.eval o).run P w = .ok (.defer { target := .fn fn ca.toArray, args := (fi ++ vs).toArray }) w := by
    unfold execOp; rw [ho]
    have hm : xs.toArray.map a.eval = vs.toArray := by simp [evs_eval hf hx]
    simp only [resolve, Sem.run_bind, hm, hf.ev hy]
    simp [Deferred.ofValue]
  unfold Oper.wp
  rw [hrun]
  simp only [Oper.upon]
  refine k _ w ?_ hw
  rw [hd]
  refine ⟨hf.size, ?_, hf.val⟩
  show _ :: a.defers = _
  rw [hf.defs]

/-- a contract of a deferred call -/
def SpecD (P : Program) (f : FuncId) (args : Array Value) (u : FrameMode) (pre : List HP) (post : Ending → FrameMode → List HP → Prop) : Prop :=
  ∀ (F : List HP) (w0 w : World), WS w0 (pre ++ F) w → CallsD P f args u w fun e u' w' => ∃ hl, post e u' hl ∧ WS w0 (hl ++ F) w'
/-- what recover yields, and what the caller does from then on -/
def recM : FrameMode → Value × FrameMode
  | .panicking ({ v, recovered := false, goexit := false } :: older) => (v, .panicking ({ v, recovered := true } :: older))
  | m => (.nilIface, m)

theorem wpOpsS_of {ops : Array Oper} {Q : Exit → Act → World → Prop} {Q' : Exit → Act → List Frame → World → Prop} (hno : ¬ LetsOut Q) {cs : List Frame} (hQ : ∀ e a w, Q e a w → Q' e a cs w) : ∀ (l : List Nat) (a : Act) (w : World), wpOps P ops Q l a w → wpOpsS P ops Q' l a cs w
  | [], a, w, h => by unfold wpOps at h; unfold wpOpsS; exact hQ _ _ _ h
  | i :: l, a, w, h => by
    rw [wpOps_cons] at h
    unfold wpOp at h
    unfold wpOpsS
    cases ho : ops[i]? with
    | none => simp only [ho] at h ⊢; exact wpOpsS_of hno hQ l a w h
    | some o =>
      simp only [ho] at h ⊢
      split
      · rename_i hw
        simp only [hw, if_true] at h
        rcases h with h | h
        · unfold Oper.wp at h
          generalize (execOp a.eval o).run P w = r at h ⊢
          cases r with
          | ok n w' =>
            cases n <;> simp only [Oper.upon] at h ⊢
            case value u => exact wpOpsS_of hno hQ l _ _ h
            case skip => exact wpOpsS_of hno hQ l _ _ h
            case defer d => exact wpOpsS_of hno hQ l _ _ h
            case enter f args =>
              refine Calls.mono h fun e w'' he => ?_
              cases e with
              | returned u => exact wpOpsS_of hno hQ l _ _ he
              | panicked c => exact hQ _ _ _ he
              | outgrown => exact absurd he hno
            case row row args => exact Rows.mono h fun u w'' he => wpOpsS_of hno hQ l _ _ he
          | halt x w' =>
            cases x <;> simp only [Oper.upon] at h ⊢
            case panic u => exact hQ _ _ _ h
        · exact absurd h.2 hno
      · rename_i hw
        simp only [hw] at h
        exact wpOpsS_of hno hQ l _ _ h

/-- a function's end, with deferred calls -/
def FinD (P : Program) (w0 : World) (fn : Func) (F : List HP) (post : Ending → List HP → Prop) : Exit → Act → World → Prop := bodyPostD P fn fun e w' => ∃ hl, post e hl ∧ WS w0 (hl ++ F) w'
theorem Spec.enterD {f : FuncId} {fn : Func} {c : Code} {vs : List Value} {pre : List HP} {post : Ending → List HP → Prop} (hf : P.funcs[f]? = some fn) (hb : fn.body = some c) (hN : fn.ntmps = N) (hle : Nat.ble vs.length N = true)
    (h : ∀ (F : List HP) (w0 : World), CG P w0 N c (FinD P w0 fn F post) [] (argL 0 vs) (pre ++ F)) : Spec P f vs.toArray pre post := by
  intro F w0 w hw
  refine calls_of_wp_defers hf hb ?_
  refine h F w0 _ w ⟨?_, rfl, ?_⟩ hw
  · have := Nat.le_of_ble_eq_true hle
    simp [hN]; omega
  · intro t v hv
    obtain ⟨j, rfl, hj⟩ := argL_get vs 0 t v hv
    have hlt := (List.getElem?_eq_some_iff.1 hj).1
    rw [Array.getD_eq_getD_getElem?]
    simp [Array.getElem?_append, hlt]
    exact (List.getElem?_eq_some_iff.1 hj).2
/-- a deferred closure whose body begins with recover -/
theorem SpecD.enter {f : FuncId} {fn : Func} {id : Nat} {o : Oper} {rest : List Oper} {c2 : Code} {vs : List Value} {u u' : FrameMode} {v : Value} {d : Nat} {pre : List HP} {post : Ending → List HP → Prop}
    (hf : P.funcs[f]? = some fn) (hb : fn.body = some (.seq (.region id (o :: rest).toArray false) c2)) (hN : fn.ntmps = N) (hle : Nat.ble vs.length N = true) (ho : o.op = .call { callee := .builtin .recover, args := #[], argTypes := #[] }) (hd : o.dst = some d) (hdn : Nat.blt d N = true) (hg : o.guard = none)
    (hr : recM u = (v, u')) (hno : ∀ hl, ¬ post .outgrown hl)
    (h : ∀ (F : List HP) (w0 : World), G ⟨P, false, fun _ => True, cls, o :: rest, Exit.then (c2.wp P (Fin P w0 fn F post)) (Fin P w0 fn F post), w0, N⟩ [] rest ((d, v) :: argL 0 vs) (pre ++ F)) : SpecD P f vs.toArray u pre (fun e u2 hl => u2 = u' ∧ post e hl) := by
  intro F w0 w hw
  refine callsD_of_wpS hf hb ?_
  intro c₀ cs hc
  have hfr : Fr N [] (argL 0 vs) { tmps := vs.toArray ++ Array.replicate (fn.ntmps - vs.toArray.size) undef, defers := [] } := by
    refine ⟨?_, rfl, ?_⟩
    · have := Nat.le_of_ble_eq_true hle
      simp [hN]; omega
    · intro t v hv
      obtain ⟨j, rfl, hj⟩ := argL_get vs 0 t v hv
      have hlt := (List.getElem?_eq_some_iff.1 hj).1
      rw [Array.getD_eq_getD_getElem?]
      simp [Array.getElem?_append, hlt]
      exact (List.getElem?_eq_some_iff.1 hj).2
  generalize ({ tmps := vs.toArray ++ Array.replicate (fn.ntmps - vs.toArray.size) undef, defers := [] } : Act) = a at hfr ⊢
  have hfr2 : Fr N [] ((d, v) :: argL 0 vs) (a.put o.dst v) := by rw [hd]; exact hfr.put d (by simp [Nat.blt] at hdn; omega) v
  have hG := h F w0 _ w hfr2 hw
  simp only at hG
  have hlet : ¬ LetsOut (Exit.then (c2.wp P (Fin P w0 fn F post)) (Fin P w0 fn F post)) := by
    rintro ⟨a0, w1, hl, hp, _⟩; exact hno hl hp
  have key : ∀ (K : Act → List Frame → World → Prop), K (a.put o.dst v) ({ c₀ with mode := u' } :: cs) w → (match recoverD (c₀ :: cs) with | some (v, cs') => K (a.put o.dst v) cs' w | none => K (a.put o.dst .nilIface) (c₀ :: cs) w) := by
    intro K hK
    subst hc
    unfold recM at hr
    split at hr
    · rename_i x older hm
      simp only [Prod.mk.injEq] at hr
      obtain ⟨rfl, rfl⟩ := hr
      have hrd : recoverD (c₀ :: cs) = some (x, { c₀ with mode := .panicking ({ v := x, recovered := true } :: older) } :: cs) := by simp [recoverD, hm]
      rw [hrd]; exact hK
    · rename_i hm
      simp only [Prod.mk.injEq] at hr
      obtain ⟨rfl, rfl⟩ := hr
      have hrd : recoverD (c₀ :: cs) = none := by
        cases hmode : c₀.mode with
        | run => simp [recoverD, hmode]
        | returning => simp [recoverD, hmode]
        | panicking l =>
          cases l with
          | nil => simp [recoverD, hmode]
          | cons p older =>
            obtain ⟨v, rc, gx⟩ := p
            cases rc <;> cases gx <;> first | exact absurd hmode (hm _ _) | simp [recoverD, hmode]
      rw [hrd]; exact hK
  refine wpS_seq (wpS_region ?_)
  have hsz : (o :: rest).toArray.size = rest.length + 1 := by simp
  rw [hsz, List.range_eq_range', List.range'_succ]
  unfold wpOpsS
  have h0 : (o :: rest).toArray[0]? = some o := rfl
  have hw0 : Region.wanted o (yielded (o :: rest).toArray a.tmps) = true := by unfold Region.wanted; rw [hg]
  have hrun : (execOp a.eval o).run P w = .ok .recover w := by
    unfold execOp; rw [ho]
    simp [resolve, invoke, builtin]
  simp only [h0, hw0, if_true, hrun]
  refine key (fun a cs w => wpOpsS P (o :: rest).toArray _ (List.range' (0 + 1) rest.length) a cs w) ?_
  refine wpOpsS_of hlet ?_ _ _ _ ?_ (Q := Exit.then (c2.wp P (Fin P w0 fn F post)) (Fin P w0 fn F post))
  · intro e a1 w1 hq
    have fin : ∀ e a w, Fin P w0 fn F post e a w → bodyPostS P fn c₀ cs (fun e u2 w' => ∃ hl, (u2 = u' ∧ post e hl) ∧ WS w0 (hl ++ F) w') e a ({ c₀ with mode := u' } :: cs) w := by
      intro e a w hq
      cases e with
      | normal => obtain ⟨h1, x, h2, hl, hp, hw'⟩ := hq; exact ⟨h1, u', rfl, x, h2, hl, ⟨rfl, hp⟩, hw'⟩
      | ret => obtain ⟨h1, x, h2, hl, hp, hw'⟩ := hq; exact ⟨h1, u', rfl, x, h2, hl, ⟨rfl, hp⟩, hw'⟩
      | panic c => obtain ⟨h1, hl, hp, hw'⟩ := hq; exact ⟨h1, u', rfl, hl, ⟨rfl, hp⟩, hw'⟩
      | exit i => exact hq
      | goto i => exact hq
      | outgrown => obtain ⟨hl, hp, hw'⟩ := hq; exact absurd hp (hno hl)
    cases e with
    | normal => exact wpS_of_wp (wp_mono hq fun e a w hq => fin e a w hq)
    | _ => exact fin _ _ _ hq
  · have := wpOps_eq_wpList (P := P) (ops := (o :: rest).toArray) (Q := Exit.then (c2.wp P (Fin P w0 fn F post)) (Fin P w0 fn F post)) rest (0 + 1) (fun j => by simp [Nat.add_comm 1 j])
    rw [this]; exact hG

/-- what a function's results are -/
def RVal (P : Program) (fn : Func) (L : List (Nat × Value)) (H : List HP) (v : Value) : Prop := ∀ N D a w w0, Fr N D L a → WS w0 H w → (results fn a.tmps).run P w = .ok v w
/-- a variable's value, as a result -/
def LV (P : Program) (H : List HP) (T b : Nat) (v : Value) : Prop := ∀ w w0, WS w0 H w → (loadVar T ⟨b, 0, none⟩).run P w = .ok v w
theorem LV.agg {T U b n : Nat} {cs : List Value} (hT : aggB P T = some true) (hz : sizeB P T = some n) (hm : Mem (cel b U cs) H) (hn : Nat.beq cs.length n = true) : LV P H T b (.agg cs.toArray) := fun w w0 hw => run_loadVar_agg hw hT (by rw [Nat.eq_of_beq_eq_true hn]; exact hz) hm
theorem LV.one {T U b : Nat} {v : Value} (hT : aggB P T = some false) (hm : Mem (cel b U [v]) H) : LV P H T b v := fun w w0 hw => run_loadVar_one hw hT hm
theorem RVal.two {fn : Func} {t u T U b c : Nat} {x y : Value} (hr : fn.results = #[.cell t T, .cell u U]) (ht : get? L t = some (.pointer (some ⟨b, 0, none⟩))) (hu : get? L u = some (.pointer (some ⟨c, 0, none⟩))) (h1 : LV P H T b x) (h2 : LV P H U c y) : RVal P fn L H (.tuple #[x, y]) := by
  intro N D a w w0 hf hw
  have e1 := hf.val t _ ht
  have e2 := hf.val u _ hu
  rw [Array.getD_eq_getD_getElem?] at e1 e2
  simp [results, hr, e1, e2, asAddr, h1 w w0 hw, h2 w w0 hw]
theorem RVal.four {fn : Func} {t u s r T U S R b c d e : Nat} {x y z q : Value} (hr : fn.results = #[.cell t T, .cell u U, .cell s S, .cell r R]) (ht : get? L t = some (.pointer (some ⟨b, 0, none⟩))) (hu : get? L u = some (.pointer (some ⟨c, 0, none⟩))) (hs : get? L s = some (.pointer (some ⟨d, 0, none⟩))) (hq : get? L r = some (.pointer (some ⟨e, 0, none⟩)))
    (h1 : LV P H T b x) (h2 : LV P H U c y) (h3 : LV P H S d z) (h4 : LV P H R e q) : RVal P fn L H (.tuple #[x, y, z, q]) := by
  intro N D a w w0 hf hw
  have e1 := hf.val t _ ht
  have e2 := hf.val u _ hu
  have e3 := hf.val s _ hs
  have e4 := hf.val r _ hq
  rw [Array.getD_eq_getD_getElem?] at e1 e2 e3 e4
  simp [results, hr, e1, e2, e3, e4, asAddr, h1 w w0 hw, h2 w w0 hw, h3 w w0 hw, h4 w w0 hw]
/-- the end of a function that defers, nothing deferred yet -/
theorem finD_0 {fn : Func} {F : List HP} {post : Ending → List HP → Prop} {v : Value} {hl R : List HP} (hv : RVal P fn L H v) (ht : Takes H hl R) (hsu : Suf R F) (hp : post (.returned v) hl) (e : Exit) (he : e = .ret ∨ e = .normal) : EN w0 N (FinD P w0 fn F post) e [] L H := by
  intro a w hf hw
  have hw' : WS w0 (hl ++ F) w := hw.sel ht hsu
  rcases he with rfl | rfl
  all_goals
    show Leaves P fn a.tmps _ a.defers .returning w
    rw [hf.defs]
    exact ⟨v, hv _ _ _ _ _ hf hw, hl, hp, hw'⟩
/-- .. with one deferred call, at a return -/
theorem finD_r {fn : Func} {F F1 : List HP} {post : Ending → List HP → Prop} {v : Value} {pre hl1 hl R : List HP} {f : FuncId} {xs ca : List Value} (hs : SpecD P f (xs ++ ca).toArray .returning pre (fun e u' hl => u' = .returning ∧ (∃ r, e = .returned r) ∧ hl = hl1)) (hb : bodied P f = true) (ht : Takes H pre F1) (hv : RVal P fn L (hl1 ++ F1) v)
    (ht2 : Takes (hl1 ++ F1) hl R) (hsu : Suf R F) (hp : post (.returned v) hl) (e : Exit) (he : e = .ret ∨ e = .normal) : EN w0 N (FinD P w0 fn F post) e [{ target := .fn (.func f) ca.toArray, args := xs.toArray }] L H := by
  intro a w hf hw
  have hin : (invoke (.fn (.func f) ca.toArray) xs.toArray).run P w = .ok (.enter f (xs ++ ca).toArray) w := by simp [invoke, run_callFunc hb]
  have main : Leaves P fn a.tmps (fun e w' => ∃ hl, post e hl ∧ WS w0 (hl ++ F) w') [{ target := .fn (.func f) ca.toArray, args := xs.toArray }] .returning w := by
    refine leaves_cons (by simp) hin (CallsD.mono (hs F1 w0 w (hw.takes ht)) ?_)
    rintro e u' w' ⟨hl', ⟨rfl, ⟨r, rfl⟩, rfl⟩, hw'⟩
    show Leaves P fn a.tmps _ [] .returning w'
    exact ⟨v, hv _ _ _ _ _ hf hw', hl, hp, hw'.sel ht2 hsu⟩
  rcases he with rfl | rfl
  all_goals
    show Leaves P fn a.tmps _ a.defers .returning w
    rw [hf.defs]; exact main
/-- .. at a panic that is recovered -/
theorem finD_p {fn : Func} {F F1 : List HP} {post : Ending → List HP → Prop} {v x : Value} {pre hl1 hl R : List HP} {f : FuncId} {xs ca : List Value} (hs : SpecD P f (xs ++ ca).toArray (.panicking [{ v := x, recovered := false }]) pre (fun e u' hl => u' = .panicking [{ v := x, recovered := true }] ∧ (∃ r, e = .returned r) ∧ hl = hl1)) (hb : bodied P f = true) (ht : Takes H pre F1) (hv : RVal P fn L (hl1 ++ F1) v)
    (ht2 : Takes (hl1 ++ F1) hl R) (hsu : Suf R F) (hp : post (.returned v) hl) : EN w0 N (FinD P w0 fn F post) (.panic [{ v := x, recovered := false }]) [{ target := .fn (.func f) ca.toArray, args := xs.toArray }] L H := by
  intro a w hf hw
  have hin : (invoke (.fn (.func f) ca.toArray) xs.toArray).run P w = .ok (.enter f (xs ++ ca).toArray) w := by simp [invoke, run_callFunc hb]
  show Leaves P fn a.tmps _ a.defers (.panicking [{ v := x, recovered := false }]) w
  rw [hf.defs]
  refine leaves_cons (by simp) hin (CallsD.mono (hs F1 w0 w (hw.takes ht)) ?_)
  rintro e u' w' ⟨hl', ⟨rfl, ⟨r, rfl⟩, rfl⟩, hw'⟩
  show Leaves P fn a.tmps _ [] (settle (.panicking [{ v := x, recovered := true }])) w'
  exact ⟨v, hv _ _ _ _ _ hf hw', hl, hp, hw'.sel ht2 hsu⟩
end
end Go.Eng
/-
  Plain: packs (pack), no program in sight.
-/
set_option linter.unusedVariables false
namespace Go.Eng
namespace Pk
inductive Res (α : Type) where
  | err (e : Nat)
  | ok (a : α)
theorem or_shl {n m sh : Nat} (hn : n < 2 ^ sh) (hm : m < 128) (hs : sh ≤ 25) : bits .or .i64 (n : Int) (IntKind.i64.wrap ((m : Int) * 2 ^ min (sh : Int).toNat IntKind.i64.bits)) = ((n + m * 2 ^ sh : Nat) : Int) := by
  have h1 : 2 ^ sh ≤ 2 ^ 25 := Nat.pow_le_pow_right (by omega) hs
  have h2 : m * 2 ^ sh ≤ 127 * 2 ^ 25 := Nat.mul_le_mul (by omega) h1
  rw [shl_lim (k := .i64) (by simp [IntKind.bits]; omega) (by simp only [lim, IntKind.signed, IntKind.bits]; omega)]
  rw [bits_or_lim (by simp only [lim, IntKind.signed, IntKind.bits]; omega) (by simp only [lim, IntKind.signed, IntKind.bits]; omega)]
  rw [Nat.or_comm, Nat.mul_comm m, ← Nat.two_pow_add_eq_or_of_lt hn, Nat.add_comm]
def headGo (s : List UInt8) : Nat → Nat → Nat → Nat → Nat → Res (Nat × Nat)
  | 0, _, _, _, _ => .err 99
  | f + 1, c, n, sh, a => if c < 128 then .ok (n, a) else match s[a]? with
    | none => .err 6
    | some d => if 25 < sh then .err 3 else headGo s f d.toNat (n + d.toNat % 128 * 2 ^ sh) (sh + 7) (a + 1)
/-- kind, size, the next place -/
def head (s : List UInt8) (a : Nat) : Res (Nat × Nat × Nat) := match s[a]? with
  | none => .err 6
  | some c => match headGo s (s.length + 1) c.toNat (c.toNat % 16) 4 (a + 1) with
    | .err e => .err e
    | .ok p => .ok (c.toNat / 16 % 8, p.1, p.2)
def backGo (s : List UInt8) : Nat → Nat → Nat → Nat → Res (Nat × Nat)
  | 0, _, _, _ => .err 99
  | f + 1, c, n, a => if c < 128 then .ok (n, a) else if 16777216 < n then .err 3 else match s[a]? with
    | none => .err 6
    | some d => backGo s f d.toNat ((n + 1) * 128 + d.toNat % 128) (a + 1)
def back (s : List UInt8) (a : Nat) : Res (Nat × Nat) := match s[a]? with
  | none => .err 6
  | some c => backGo s (s.length + 1) c.toNat (c.toNat % 128) (a + 1)
structure Ent where
  at_ : Int
  nx : Int
  kind : Int
  data : List UInt8
  base : Int
  id : List UInt8
  crc : Int
def Ent.cells (x : Ent) : List Value := [.int .i64 x.at_, .int .i64 x.nx, .int .i64 x.kind, str x.data, .int .i64 x.base, str x.id, .int .u32 x.crc]
def Ent.zero : Ent := ⟨0, 0, 0, [], 0, [], 0⟩
/-- what stands between head and data: base, name, the next place -/
def refs (b : List UInt8) (a k a1 : Nat) : Res (Nat × List UInt8 × Nat) :=
  if k = 1 ∨ k = 2 ∨ k = 3 ∨ k = 4 then .ok (0, [], a1)
  else if k = 6 then match back b a1 with
    | .err e => .err e
    | .ok p => if p.1 < 1 ∨ a - 12 < p.1 then .err 3 else .ok (a - p.1, [], p.2)
  else if k = 7 then (if b.length < a1 + 20 then .err 6 else .ok (0, Sums.hex ((b.take (a1 + 20)).drop a1), a1 + 20))
  else .err 10
theorem headGo_at (s : List UInt8) : ∀ (f c n sh a : Nat) (p : Nat × Nat), a ≤ s.length → headGo s f c n sh a = .ok p → a ≤ p.2 ∧ p.2 ≤ s.length
  | 0, _, _, _, _, _, _, h => by cases h
  | f + 1, c, n, sh, a, p, ha, h => by
    unfold headGo at h
    split at h
    · cases h; exact ⟨Nat.le_refl _, ha⟩
    · split at h
      · cases h
      · rename_i d hd
        have hlt := (List.getElem?_eq_some_iff.1 hd).1
        split at h
        · cases h
        · have := headGo_at s f _ _ _ _ _ (by omega) h; omega
theorem head_at {s : List UInt8} {a : Nat} {p : Nat × Nat × Nat} (h : head s a = .ok p) : a < p.2.2 ∧ p.2.2 ≤ s.length := by
  unfold head at h
  split at h
  · cases h
  · rename_i c hc
    have hlt := (List.getElem?_eq_some_iff.1 hc).1
    split at h
    · cases h
    · rename_i q hq
      cases h
      have := headGo_at s _ _ _ _ _ _ (by omega) hq
      simp only; omega
theorem backGo_at (s : List UInt8) : ∀ (f c n a : Nat) (p : Nat × Nat), a ≤ s.length → backGo s f c n a = .ok p → a ≤ p.2 ∧ p.2 ≤ s.length
  | 0, _, _, _, _, _, h => by cases h
  | f + 1, c, n, a, p, ha, h => by
    unfold backGo at h
    split at h
    · cases h; exact ⟨Nat.le_refl _, ha⟩
    · split at h
      · cases h
      · split at h
        · cases h
        · rename_i d hd
          have hlt := (List.getElem?_eq_some_iff.1 hd).1
          have := backGo_at s f _ _ _ _ (by omega) h; omega
theorem back_at {s : List UInt8} {a : Nat} {p : Nat × Nat} (h : back s a = .ok p) : a < p.2 ∧ p.2 ≤ s.length := by
  unfold back at h
  split at h
  · cases h
  · rename_i c hc
    have hlt := (List.getElem?_eq_some_iff.1 hc).1
    have := backGo_at s _ _ _ _ _ (by omega) h
    omega
theorem refs_at {b : List UInt8} {a k a1 : Nat} {p : Nat × List UInt8 × Nat} (ha : a1 ≤ b.length) (h : refs b a k a1 = .ok p) : a1 ≤ p.2.2 ∧ p.2.2 ≤ b.length := by
  unfold refs at h
  split at h
  · cases h; exact ⟨Nat.le_refl _, ha⟩
  · split at h
    · split at h
      · cases h
      · rename_i q hq
        have := back_at hq
        split at h
        · cases h
        · cases h; simp only; omega
    · split at h
      · split at h
        · cases h
        · cases h; simp only; omega
      · cases h
end Pk
end Go.Eng
/-
  Rows of structs, read where they lie; equality of structs and truth values. Speaks of no program.
-/
set_option linter.unusedVariables false
set_option linter.unusedSimpArgs false
namespace Go.Eng
section
variable {P : Program} {L : List (Nat × Value)} {H : List HP} {o : Oper}
theorem q_eql_b {x y : Operand} {T U : TypeId} {a b : Bool} (ho : o.op = .binOp .eql T x y U) (hx : ev L x = some (.bool a)) (hy : ev L y = some (.bool b)) (hT : P.underlying T = some .bool) : QOp P L o (.bool (a == b)) := q_bin ho hx hy fun w => by
  have h : (Op.equal T (.bool a) (.bool b)).run P w = .ok (a == b) w := by
    unfold Op.equal Op.maxDepth
    exact run_equalIn_bool' w 9999 T a b hT
  simp [eqGuard, binOp, h]
/-- a struct held against itself -/
theorem q_neq_same {x y : Operand} {T U : TypeId} {v : Value} (ho : o.op = .binOp .neq T x y U) (hx : ev L x = some v) (hy : ev L y = some v) (hT : ∀ w : World, ((do eqGuard .neq T x y v v; binOp .neq T v v) : Sem Value).run P w = .ok (.bool false) w) : QOp P L o (.bool false) := q_bin ho hx hy hT
theorem q_eql_same {x y : Operand} {T U : TypeId} {v : Value} (ho : o.op = .binOp .eql T x y U) (hx : ev L x = some v) (hy : ev L y = some v) (hT : ∀ w : World, ((do eqGuard .eql T x y v v; binOp .eql T v v) : Sem Value).run P w = .ok (.bool true) w) : QOp P L o (.bool true) := q_bin ho hx hy hT

theorem flat_len {α : Type} {f : α → List Value} {sz : Nat} (hf : ∀ x, (f x).length = sz) (l : List α) : (l.flatMap f).length = l.length * sz := by
  induction l with
  | nil => simp
  | cons x l ih => rw [List.flatMap_cons, List.length_append, hf, ih, List.length_cons, Nat.succ_mul]; omega
theorem flat_drop {α : Type} {f : α → List Value} {sz : Nat} (hf : ∀ x, (f x).length = sz) : ∀ (l : List α) (i : Nat), i ≤ l.length → (l.flatMap f).drop (i * sz) = (l.drop i).flatMap f
  | l, 0, _ => by simp
  | [], i + 1, h => by simp
  | x :: l, i + 1, h => by
    rw [List.flatMap_cons, Nat.succ_mul, List.drop_succ_cons, ← flat_drop hf l i (by simpa using h), ← hf x, Nat.add_comm, List.drop_append, hf x]
    simp [hf]
theorem flat_sl {α : Type} {f : α → List Value} {sz : Nat} (hf : ∀ x, (f x).length = sz) {l : List α} {i : Nat} {x : α} (hx : l[i]? = some x) : sliceL (l.flatMap f) (i * sz) sz = f x := by
  have hi := (List.getElem?_eq_some_iff.1 hx).1
  unfold sliceL
  rw [flat_drop hf l i (by omega)]
  have : l.drop i = x :: l.drop (i + 1) := by
    rw [List.drop_eq_getElem_cons hi]; congr 1; exact (List.getElem?_eq_some_iff.1 hx).2
  rw [this, List.flatMap_cons, List.take_append_of_le_length (by rw [hf]; exact Nat.le_refl _), List.take_of_length_le (by rw [hf]; exact Nat.le_refl _)]
theorem flat_nth {α : Type} {f : α → List Value} {sz : Nat} (hf : ∀ x, (f x).length = sz) {l : List α} {i k : Nat} {x : α} {v : Value} (hx : l[i]? = some x) (hk : nth (f x) k = some v) : nth (l.flatMap f) (i * sz + k) = some v := by
  have h := flat_sl hf hx
  rw [nth_eq] at hk ⊢
  have hlt := (List.getElem?_eq_some_iff.1 hk).1
  rw [hf] at hlt
  rw [← h] at hk
  unfold sliceL at hk
  rw [List.getElem?_take, if_pos hlt, List.getElem?_drop] at hk
  exact hk
theorem own_flat {α : Type} {f : α → List Value} {e sz : Nat} {u : Value} {l : List α} {x : α} : own e sz u (l.length + 1) (l.flatMap f ++ f x) = own e sz u (l ++ [x]).length ((l ++ [x]).flatMap f) := by simp

theorem ownG_cell {z : Bool} {T sz n g off c i : Nat} {xs : List Value} {v : Value} {S : Nat → Prop} {w : World} (hh : ownG z T sz (.slice (some ⟨g, off, none⟩) n c) n xs (res S w)) (hi : nth xs i = some v) : w.cell? ⟨g, off + i, none⟩ = some v := by
  obtain ⟨hl, ⟨e, _⟩ | ⟨g', off', cap, cur, e, hg, h5, h6, h7, h8, h9⟩⟩ := hh
  · cases e
  · cases e
    have hg := (res_pt hg).2
    rw [nth_eq, ← h8, List.getElem?_take] at hi
    split at hi
    · rw [List.getElem?_drop, Array.getElem?_toList] at hi
      simp [World.cell?, hg, hi]
    · cases hi
/-- a field of an element of an owned row -/
theorem r_loadO {z : Bool} {x : Operand} {T U sz n c g off i : Nat} {xs : List Value} {v : Value} (ho : o.op = .load T x) (hx : ev L x = some (.pointer (some ⟨g, off + i, none⟩))) (hT : aggB P T = some false) (hm : Mem (ownG z U sz (.slice (some ⟨g, off, none⟩) n c) n xs) H) (hv : nth xs i = some v) : ROp P L H o v := by
  intro N D a w w0 hf hw
  obtain ⟨S, hh⟩ := hw.get hm
  unfold execOp; rw [ho]
  simp [hf.ev hx, Instr.loadAt, Instr.sureAddr, loadVar, run_isAgg hT, ownG_cell hh hv]
/-- a whole element (or a part of it) of an owned row -/
theorem r_loadOA {z : Bool} {x : Operand} {T U sz n c g off i k : Nat} {xs cs : List Value} (ho : o.op = .load T x) (hx : ev L x = some (.pointer (some ⟨g, off + i, none⟩))) (hT : aggB P T = some true) (hz : sizeB P T = some k) (hm : Mem (ownG z U sz (.slice (some ⟨g, off, none⟩) n c) n xs) H) (hl : cs.length = k) (hv : ∀ (j : Nat) (v : Value), cs[j]? = some v → nth xs (i + j) = some v) : ROp P L H o (.agg cs.toArray) := by
  intro N D a w w0 hf hw
  obtain ⟨S, hh⟩ := hw.get hm
  have hrun : (loadCells ⟨g, off + i, none⟩ k).run P w = .ok cs.toArray w := by
    have := run_loadCells_list (P := P) w ⟨g, off + i, none⟩ cs (fun j v hj => by
      rw [Addr.add_lit, Nat.add_assoc]; exact ownG_cell hh (hv j v hj))
    rw [hl] at this; exact this
  unfold execOp; rw [ho]
  simp [hf.ev hx, Instr.loadAt, Instr.sureAddr, loadVar, run_isAgg hT, run_sizeOf hz, hrun]
theorem flat_part {α : Type} {f : α → List Value} {sz : Nat} (hf : ∀ x, (f x).length = sz) {l : List α} {i k n : Nat} {x : α} (hx : l[i]? = some x) : ∀ (j : Nat) (v : Value), (sliceL (f x) k n)[j]? = some v → nth (l.flatMap f) (i * sz + k + j) = some v := by
  intro j v hj
  rw [Nat.add_assoc]
  refine flat_nth hf hx ?_
  rw [nth_eq]
  simp only [sliceL, List.getElem?_take, List.getElem?_drop] at hj
  split at hj
  · exact hj
  · cases hj
theorem flat_whole {α : Type} {f : α → List Value} {sz : Nat} (hf : ∀ x, (f x).length = sz) {l : List α} {i : Nat} {x : α} (hx : l[i]? = some x) : ∀ (j : Nat) (v : Value), (f x)[j]? = some v → nth (l.flatMap f) (i * sz + j) = some v := fun j v hj => flat_nth hf hx (by rw [nth_eq]; exact hj)
theorem G.splitB {E : Env} {D : List Deferred} {l : List Oper} {t : Nat} {b : Bool} (ht : get? L t = some (.bool b)) (h1 : b = true → G E D l ((t, .bool true) :: L) H) (h2 : b = false → G E D l ((t, .bool false) :: L) H) : G E D l L H := by
  refine G.split (p := b = true) (t := t) ?_ h1 (fun h => h2 (by simpa using h))
  rw [ht]; cases b <;> rfl
end
section
variable {P : Program} {w0 : World} {N : Nat} {Q : Exit → Act → World → Prop} {D : List Deferred} {L : List (Nat × Value)} {H H1 : List HP}
/-- a row with elements has a place -/
theorem CG.someO {c : Code} {z : Bool} {T sz n cap : Nat} {ad : Option Addr} {xs : List Value} (ht : Take H (ownG z T sz (.slice ad n cap) n xs) H1) (hn : 0 < n) (k : ∀ g off, ad = some ⟨g, off, none⟩ → CG P w0 N c Q D L H) : CG P w0 N c Q D L H := by
  refine CG.fact (α := ∃ g off, ad = some ⟨g, off, none⟩) ht (fun h hh => ?_) (fun ⟨g, off, e⟩ => k g off e)
  obtain ⟨_, ⟨_, h0⟩ | ⟨g, off, cap, cur, e, _⟩⟩ := hh
  · omega
  · cases e; exact ⟨g, off, rfl⟩
end
end Go.Eng
/-
  Plain: what is written in bits is read in bits (bitin), no program in sight.
-/
set_option linter.unusedVariables false
set_option linter.unusedSimpArgs false
namespace Go.Eng
/-- the n low bits, the lowest first -/
def wb (x n : Nat) : List Bool := (List.range n).map fun i => x.testBit i
/-- the n low bits, the highest first -/
def cb (x : Nat) : Nat → List Bool
  | 0 => []
  | n + 1 => x.testBit n :: cb x n
def bb (s : List UInt8) : List Bool := s.flatMap fun c => wb c.toNat 8
@[simp] theorem wb_len (x n : Nat) : (wb x n).length = n := by simp [wb]
theorem wb_get (x n i : Nat) : (wb x n)[i]? = if i < n then some (x.testBit i) else none := by
  unfold wb; rw [List.getElem?_map]
  by_cases h : i < n
  · rw [List.getElem?_range h, if_pos h]; rfl
  · rw [List.getElem?_eq_none (by simpa using h), if_neg h]; rfl
theorem wb_zero (x : Nat) : wb x 0 = [] := rfl
theorem wb_split (x m n : Nat) : wb x (m + n) = wb x m ++ wb (x >>> m) n := by
  apply List.ext_getElem?
  intro i
  rw [List.getElem?_append, wb_get, wb_get, wb_get, wb_len]
  by_cases h1 : i < m
  · rw [if_pos h1, if_pos h1, if_pos (by omega)]
  · rw [if_neg h1, Nat.testBit_shiftRight, show m + (i - m) = i by omega]
    by_cases h2 : i < m + n
    · rw [if_pos h2, if_pos (by omega)]
    · rw [if_neg h2, if_neg (by omega)]
theorem wb_congr {x y n : Nat} (h : ∀ i, i < n → x.testBit i = y.testBit i) : wb x n = wb y n := by
  apply List.ext_getElem?
  intro i
  rw [wb_get, wb_get]
  split
  · rw [h i (by assumption)]
  · rfl
theorem wb_or {a x m n : Nat} (h : a < 2 ^ m) : wb (a ||| (x % 2 ^ n) <<< m) (m + n) = wb a m ++ wb x n := by
  rw [wb_split]
  have e1 : wb (a ||| (x % 2 ^ n) <<< m) m = wb a m := wb_congr fun i hi => by
    rw [Nat.testBit_or, Nat.testBit_shiftLeft, show decide (i ≥ m) = false from decide_eq_false (by omega)]; simp
  have e2 : wb ((a ||| (x % 2 ^ n) <<< m) >>> m) n = wb x n := wb_congr fun i hi => by
    rw [Nat.testBit_shiftRight, Nat.testBit_or, Nat.testBit_shiftLeft, Nat.testBit_lt_two_pow (Nat.lt_of_lt_of_le h (Nat.pow_le_pow_right (by omega) (by omega))), show decide (m + i ≥ m) = true from decide_eq_true (by omega), Nat.testBit_mod_two_pow, show m + i - m = i by omega]
    simp [hi]
  rw [e1, e2]
theorem wb_ofNat (x : Nat) : wb (UInt8.ofNat x).toNat 8 = wb x 8 := wb_congr fun i hi => by
  rw [show (UInt8.ofNat x).toNat = x % 2 ^ 8 by simp, Nat.testBit_mod_two_pow]; simp [hi]
theorem bb_cons (c : UInt8) (s : List UInt8) : bb (c :: s) = wb c.toNat 8 ++ bb s := rfl
theorem bb_app (s t : List UInt8) : bb (s ++ t) = bb s ++ bb t := by simp [bb]
theorem bb_len (s : List UInt8) : (bb s).length = 8 * s.length := by
  induction s with
  | nil => rfl
  | cons c s ih => rw [bb_cons, List.length_append, ih, wb_len, List.length_cons]; omega
theorem wb_inj {x y n : Nat} (hx : x < 2 ^ n) (hy : y < 2 ^ n) (h : wb x n = wb y n) : x = y := by
  apply Nat.eq_of_testBit_eq
  intro i
  have := congrArg (fun l => l[i]?) h
  simp only [wb_get] at this
  by_cases hi : i < n
  · rw [if_pos hi, if_pos hi] at this; simpa using this
  · have h2 : 2 ^ n ≤ 2 ^ i := Nat.pow_le_pow_right (by omega) (by omega)
    rw [Nat.testBit_lt_two_pow (Nat.lt_of_lt_of_le hx h2), Nat.testBit_lt_two_pow (Nat.lt_of_lt_of_le hy h2)]
namespace WR
def den (w : WR) : List Bool := bb w.out ++ wb w.hold w.hav
theorem flush_den (w : WR) : w.flush.den = w.den := by
  induction w using WR.flush.induct with
  | case1 w hh ih =>
    rw [flush, dif_pos hh, ih]
    unfold den
    simp only
    rw [bb_app, bb_cons, wb_ofNat, List.append_assoc]
    congr 1
    conv => rhs; rw [show w.hav = 8 + (w.hav - 8) by omega, wb_split]
    simp [bb]
  | case2 w hh => rw [flush, dif_neg hh]
theorem put_den {w : WR} (h : w.Ok) (x n : Nat) : (w.put x n).den = w.den ++ wb x n := by
  unfold put; rw [flush_den]; unfold den
  simp only
  rw [wb_or h.hold, List.append_assoc]
theorem wb_one (x : Nat) : wb x 1 = [x.testBit 0] := rfl
theorem code_den {w : WR} (h : w.Ok) (x n : Nat) : (w.code x n).den = w.den ++ cb x n := by
  induction n generalizing w with
  | zero => simp [code, cb]
  | succ n ih =>
    rw [code, ih (put_ok h _ _), put_den h, wb_one, Nat.testBit_shiftRight, Nat.add_zero, cb, List.append_assoc]; rfl
theorem text_den (w : WR) (h : w.Ok) : ∃ z, bb w.text = w.den ++ z ∧ z.length < 8 := by
  unfold text den
  have := h.hav
  split
  · refine ⟨wb (w.hold >>> w.hav) (8 - w.hav), ?_, by simp; omega⟩
    rw [bb_app, bb_cons, wb_ofNat, List.append_assoc, ← wb_split, show w.hav + (8 - w.hav) = 8 by omega]; simp [bb]
  · rw [show w.hav = 0 by omega, wb_zero]
    exact ⟨[], by simp, by simp⟩
end WR
namespace RD
def den (r : RD) : List Bool := wb r.hold r.hav ++ bb (r.s.drop r.pos)
theorem den_len (r : RD) : r.den.length = r.left := by unfold den left; rw [List.length_append, wb_len, bb_len, List.length_drop]; omega
theorem fill_den (n : Nat) (hn : n ≤ 32) (r : RD) : r.Ok → (r.fill n).den = r.den ∧ (r.fill n).s = r.s ∧ (r.fill n).frm = r.frm := by
  induction r using RD.fill.induct n with
  | case1 r h ih =>
    intro ho
    rw [fill, dif_pos h]
    have hd : r.step.den = r.den ∧ r.step.s = r.s ∧ r.step.frm = r.frm := by
      unfold RD.step
      rw [List.getElem?_eq_getElem h.2]
      refine ⟨?_, rfl, rfl⟩
      unfold den
      simp only
      have hc : (r.s[r.pos]).toNat < 2 ^ 8 := (r.s[r.pos]).toNat_lt
      have := wb_or (a := r.hold) (x := (r.s[r.pos]).toNat) (m := r.hav) (n := 8) ho.hold
      rw [Nat.mod_eq_of_lt hc] at this
      rw [this, List.append_assoc, ← bb_cons, List.getElem_cons_drop]
    have := ih (ho.step (by omega) h.2)
    exact ⟨this.1.trans hd.1, this.2.1.trans hd.2.1, this.2.2.trans hd.2.2⟩
  | case2 r h => intro ho; rw [fill, dif_neg h]; exact ⟨rfl, rfl, rfl⟩
/-- a reader r' of the same text stands behind: rest -/
structure At (r r' : RD) (rest : List Bool) : Prop where
  ok : r'.Ok
  den : r'.den = rest
  s : r'.s = r.s
  frm : r'.frm = r.frm
theorem At.trans {r r' r'' : RD} {x y : List Bool} (h1 : At r r' x) (h2 : At r' r'' y) : At r r'' y := ⟨h2.ok, h2.den, h2.s.trans h1.s, h2.frm.trans h1.frm⟩
theorem bits_den {r : RD} (hr : r.Ok) {n x : Nat} {rest : List Bool} (hn : n ≤ 32) (hx : x < 2 ^ n) (hd : r.den = wb x n ++ rest) : ∃ r', r.bits n = (r', x, true) ∧ At r r' rest := by
  obtain ⟨f1, f2, f3⟩ := fill_den n hn r hr
  have fo := fill_ok n hn r hr
  have fe := fill_end n r
  obtain ⟨q, hfq⟩ : ∃ q, r.fill n = q := ⟨_, rfl⟩
  rw [hfq] at f1 f2 f3 fo fe
  have hq : q.den = wb x n ++ rest := f1.trans hd
  have hl := den_len q
  rw [hq, List.length_append, wb_len] at hl
  have hv : ¬ q.hav < n := fun h => by
    have : ¬ q.pos < q.s.length := fun h2 => fe ⟨h, h2⟩
    unfold left at hl; omega
  have hden : q.den = wb q.hold n ++ (wb (q.hold >>> n) (q.hav - n) ++ bb (q.s.drop q.pos)) := by
    unfold den; rw [← List.append_assoc, ← wb_split, show n + (q.hav - n) = q.hav by omega]
  have he := hden.symm.trans hq
  have h1 := List.append_inj he (by simp)
  refine ⟨q.took n, ?_, fo.took (by omega), ?_, f2, f3⟩
  · unfold bits
    rw [hfq, if_neg hv]
    have e : wb (q.hold % 2 ^ n) n = wb x n := by
      rw [← h1.1]; exact wb_congr fun i hi => by rw [Nat.testBit_mod_two_pow]; simp [hi]
    rw [wb_inj (Nat.mod_lt _ (Nat.pow_pos (by omega))) hx e]
  · unfold den took; simp only; exact h1.2
end RD
end Go.Eng
/-
  Plain: inflate of what deflate wrote, no program in sight.
-/
set_option linter.unusedVariables false
set_option linter.unusedSimpArgs false
namespace Go.Eng
namespace Huff
/-- a symbol off a list of bits -/
def readL (ls S : List Nat) : Nat → Nat → Nat → Nat → Nat → List Bool → Option (Nat × List Bool)
  | 0, _, _, _, _, _ => none
  | _ + 1, _, _, _, _, [] => none
  | f + 1, n, code, first, at_, b :: t =>
    if code * 2 + b.toNat < first + ls.count n then some (S.getD (at_ + (code * 2 + b.toNat - first)) 0, t)
    else if at_ + ls.count n = S.length then none
    else readL ls S f (n + 1) (code * 2 + b.toNat) ((first + ls.count n) * 2) (at_ + ls.count n) t
theorem readL_app {ls S : List Nat} {s : Nat} {u : List Bool} : ∀ (f n code first at_ : Nat) (t : List Bool) (v : List Bool), readL ls S f n code first at_ t = some (s, u) → readL ls S f n code first at_ (t ++ v) = some (s, u ++ v)
  | 0, _, _, _, _, _, _, h => by cases h
  | f + 1, _, _, _, _, [], _, h => by cases h
  | f + 1, n, code, first, at_, b :: t, v, h => by
    rw [List.cons_append]
    unfold readL at h ⊢
    split at h
    · rename_i h1; rw [if_pos h1]; cases h; rfl
    · rename_i h1; rw [if_neg h1]
      split at h
      · cases h
      · rename_i h2; rw [if_neg h2]; exact readL_app f _ _ _ _ t v h
theorem readGo_den {ls S : List Nat} {s : Nat} {u : List Bool} : ∀ (f n code first at_ : Nat) (r : RD), r.Ok → readL ls S f n code first at_ r.den = some (s, u) → ∃ r', readGo ls S f n code first at_ r = (r', s, 0) ∧ RD.At r r' u
  | 0, _, _, _, _, _, _, h => by cases h
  | f + 1, n, code, first, at_, r, hr, h => by
    cases hd : r.den with
    | nil => rw [hd] at h; cases h
    | cons b t =>
      rw [hd] at h
      have hx : wb b.toNat 1 = [b] := by cases b <;> rfl
      obtain ⟨r1, h1, h2⟩ := RD.bits_den hr (n := 1) (x := b.toNat) (rest := t) (by omega) (by cases b <;> decide) (by rw [hd, hx]; rfl)
      unfold readL at h
      unfold readGo
      rw [h1]
      simp only [Bool.true_eq_false, if_false]
      split at h
      · rename_i c1; rw [if_pos c1]; cases h; exact ⟨r1, rfl, h2⟩
      · rename_i c1; rw [if_neg c1]
        split at h
        · cases h
        · rename_i c2; rw [if_neg c2]
          obtain ⟨r2, h3, h4⟩ := readGo_den f _ _ _ _ r1 h2.ok (by rw [h2.den]; exact h)
          exact ⟨r2, h3, h2.trans h4⟩
end Huff
namespace Defl
theorem lit_read0 : (List.range 288).all (fun c => decide (Huff.readL Infl.fixedLit litS 15 1 0 0 0 (cb (litC c).1 (litC c).2) = some (c, []))) = true := by kernel_rfl
theorem dst_read0 : (List.range 32).all (fun c => decide (Huff.readL Infl.fixedDist (Huff.sorted Infl.fixedDist) 15 1 0 0 0 (cb c 5) = some (c, []))) = true := by kernel_rfl
theorem lit_read {r : RD} (hr : r.Ok) {c : Nat} (hc : c < 288) {rest : List Bool} (hd : r.den = cb (litC c).1 (litC c).2 ++ rest) : ∃ r', Huff.read Infl.fixedLit r = (r', c, 0) ∧ RD.At r r' rest := by
  have h1 := List.all_eq_true.1 lit_read0 c (by simpa using hc)
  have h2 := Huff.readL_app _ _ _ _ _ _ rest (of_decide_eq_true h1)
  rw [← hd] at h2
  unfold Huff.read
  rw [if_neg (by rw [Infl.lit_sorted]; decide), litS_eq]
  exact Huff.readGo_den _ _ _ _ _ r hr h2
theorem dst_read {r : RD} (hr : r.Ok) {c : Nat} (hc : c < 32) {rest : List Bool} (hd : r.den = cb c 5 ++ rest) : ∃ r', Huff.read Infl.fixedDist r = (r', c, 0) ∧ RD.At r r' rest := by
  have h1 := List.all_eq_true.1 dst_read0 c (by simpa using hc)
  have h2 := Huff.readL_app _ _ _ _ _ _ rest (of_decide_eq_true h1)
  rw [← hd] at h2
  unfold Huff.read
  rw [if_neg (by rw [Infl.dist_sorted]; decide)]
  exact Huff.readGo_den _ _ _ _ _ r hr h2
def litB (c : Nat) : List Bool := cb (litC c).1 (litC c).2
theorem lit_den {W : WR} (h : W.Ok) {c : Nat} (hc : c < 288) : (lit W c).den = W.den ++ litB c := by
  unfold lit litB; rw [WR.code_den h, code_lit hc]
theorem dst_den {W : WR} (h : W.Ok) {c : Nat} (hc : c < 32) : (dst W c).den = W.den ++ cb c 5 := by
  unfold dst; rw [WR.code_den h, code_dst hc]
def repB (n back : Nat) : List Bool :=
  litB (257 + (symOf Infl.lengthBase n 28).1) ++ (wb (symOf Infl.lengthBase n 28).2.1 (symOf Infl.lengthBase n 28).2.2 ++ (cb (symOf Infl.distBase back 29).1 5 ++ wb (symOf Infl.distBase back 29).2.1 (symOf Infl.distBase back 29).2.2))
theorem rep_den {W : WR} (h : W.Ok) (n back : Nat) : (rep W n back).den = W.den ++ repB n back := by
  have h1 := symOf_le Infl.lengthBase n 28
  have h2 := symOf_le Infl.distBase back 29
  unfold rep repB
  rw [WR.put_den (dst_ok (WR.put_ok (lit_ok h _) _ _) _), dst_den (WR.put_ok (lit_ok h _) _ _) (by omega), WR.put_den (lit_ok h _), lit_den h (by omega)]
  simp only [List.append_assoc]
def goB (s : List UInt8) : Nat → Nat → Seen → List Bool
  | 0, _, _ => []
  | f + 1, i, seen => if s.length ≤ i then [] else
    if (find s i seen).1 < 3 then litB (s.getD i 0).toNat ++ goB s f (i + 1) (note s i seen)
    else repB (find s i seen).1 (find s i seen).2 ++ goB s f (i + (find s i seen).1) (note s i seen)
theorem go_den (s : List UInt8) : ∀ (f i : Nat) (seen : Seen) (W : WR), W.Ok → (go s f i seen W).den = W.den ++ goB s f i seen ∧ (go s f i seen W).Ok
  | 0, i, seen, W, h => ⟨by simp [go, goB], h⟩
  | f + 1, i, seen, W, h => by
    unfold go goB
    split
    · exact ⟨by simp, h⟩
    · split
      · have hc := (s.getD i 0).toNat_lt
        have := go_den s f (i + 1) (note s i seen) _ (lit_ok h (s.getD i 0).toNat)
        exact ⟨by rw [this.1, lit_den h (by omega), List.append_assoc], this.2⟩
      · have := go_den s f (i + (find s i seen).1) (note s i seen) _ (rep_ok h (find s i seen).1 (find s i seen).2)
        exact ⟨by rw [this.1, rep_den h, List.append_assoc], this.2⟩
theorem ml_eq (s : List UInt8) (a i : Nat) : ∀ (f n : Nat), (∀ j, j < n → i + j < s.length ∧ s.getD (a + j) 0 = s.getD (i + j) 0) → ∀ j, j < ml s a i f n → i + j < s.length ∧ s.getD (a + j) 0 = s.getD (i + j) 0
  | 0, n, h => h
  | f + 1, n, h => by
    unfold ml
    split
    · rename_i c
      refine ml_eq s a i f (n + 1) fun j hj => ?_
      rcases Nat.lt_or_ge j n with h1 | h1
      · exact h j h1
      · rw [show j = n by omega]; exact c
    · exact h
theorem find_eq {s : List UInt8} {i : Nat} {seen : Seen} (h : SeenOk s i seen) (h3 : ¬ (find s i seen).1 < 3) : ∀ j, j < (find s i seen).1 → s.getD (i - (find s i seen).2 + j) 0 = s.getD (i + j) 0 := by
  unfold find at h3 ⊢
  split
  · rename_i c1
    rw [if_pos c1] at h3
    cases hs : seen (key s i) with
    | none => rw [hs] at h3; simp at h3
    | some a =>
      rw [hs] at h3
      simp only at h3 ⊢
      by_cases c2 : (i : Int) - a ≤ 32768
      · rw [if_pos c2] at h3 ⊢
        intro j hj
        have := (ml_eq s a i 258 0 (fun j hj => by omega) j hj).2
        have ha := h _ a hs
        rw [show i - (ml s a i 258 0, i - a).2 = a by simp only; omega]
        exact this
      · rw [if_neg c2] at h3; simp at h3
  · rename_i c1; rw [if_neg c1] at h3; simp at h3
theorem copy_eq (s : List UInt8) (most back i : Nat) (hb : 1 ≤ back) (hi : back ≤ i) (hm : s.length ≤ most) : ∀ (k n : Nat), i + n + k ≤ s.length → (∀ j, j < n + k → s.getD (i - back + j) 0 = s.getD (i + j) 0) → Infl.copyGo most back k (s.take (i + n)) = (s.take (i + n + k), 0)
  | 0, n, h, he => rfl
  | k + 1, n, h, he => by
    have hl : (s.take (i + n)).length = i + n := by simp; omega
    unfold Infl.copyGo
    rw [if_neg (by rw [hl]; omega), hl]
    have e1 : (s.take (i + n)).getD (i + n - back) 0 = s.getD (i + n) 0 := by
      rw [← he n (by omega), show i - back + n = i + n - back by omega, List.getD_eq_getElem?_getD, List.getD_eq_getElem?_getD, List.getElem?_take, if_pos (by omega)]
    obtain ⟨c, hc⟩ := get_some (l := s) (k := i + n) (by omega)
    rw [e1, List.getD_eq_getElem?_getD, hc]
    have := copy_eq s most back i hb hi hm k (n + 1) (by omega) (fun j hj => he j (by omega))
    rw [show i + (n + 1) = i + n + 1 by omega, take_snoc hc] at this
    rw [show s.take (i + n + (k + 1)) = s.take (i + n + 1 + k) by rw [show i + n + (k + 1) = i + n + 1 + k by omega]]
    exact this
end Defl
end Go.Eng
/-
  Plain: inflate of what deflate wrote (joined), no program in sight.
-/
set_option linter.unusedVariables false
set_option linter.unusedSimpArgs false
namespace Go.Eng
namespace Defl
theorem cb_len (x n : Nat) : (cb x n).length = n := by
  induction n with
  | zero => rfl
  | succ n ih => rw [cb, List.length_cons, ih]
theorem litB_pos {c : Nat} (h : c < 288) : 0 < (litB c).length := by unfold litB; rw [cb_len]; have := litC_le c h; omega
theorem sym_fit (base : Nat → Nat × Nat) (n : Nat) (h0 : (base 0).1 ≤ n) : ∀ m, (∀ i, i < m → (base (i + 1)).1 ≤ (base i).1 + 2 ^ (base i).2) → n < (base m).1 + 2 ^ (base m).2 →
    (symOf base n m).2.1 < 2 ^ (symOf base n m).2.2 ∧ (base (symOf base n m).1).1 + (symOf base n m).2.1 = n ∧ (symOf base n m).2.2 = (base (symOf base n m).1).2
  | 0, _, hm => by
    have e : symOf base n 0 = (0, n - (base 0).1, (base 0).2) := rfl
    rw [e]; simp only
    refine ⟨?_, ?_, trivial⟩ <;> omega
  | m + 1, hb, hm => by
    unfold symOf
    split
    · refine ⟨?_, ?_, rfl⟩ <;> simp only <;> omega
    · exact sym_fit base n h0 m (fun i hi => hb i (by omega)) (by have := hb m (by omega); omega)
theorem len_tab : ∀ i, i < 28 → (Infl.lengthBase (i + 1)).1 ≤ (Infl.lengthBase i).1 + 2 ^ (Infl.lengthBase i).2 := by decide
theorem dst_tab : ∀ i, i < 29 → (Infl.distBase (i + 1)).1 ≤ (Infl.distBase i).1 + 2 ^ (Infl.distBase i).2 := by decide
theorem again_den {s : List UInt8} {most back i n : Nat} (hm : s.length ≤ most) (hn : 3 ≤ n) (hn2 : n ≤ 258) (hb : 1 ≤ back) (hb2 : back ≤ 32768) (hbi : back ≤ i) (hi : i + n ≤ s.length) (he : ∀ j, j < n → s.getD (i - back + j) 0 = s.getD (i + j) 0)
    {r : RD} (hr : r.Ok) {rest : List Bool} (hd : r.den = wb (symOf Infl.lengthBase n 28).2.1 (symOf Infl.lengthBase n 28).2.2 ++ (cb (symOf Infl.distBase back 29).1 5 ++ (wb (symOf Infl.distBase back 29).2.1 (symOf Infl.distBase back 29).2.2 ++ rest))) :
    ∃ r', Infl.again Infl.fixedDist most r (s.take i) (257 + (symOf Infl.lengthBase n 28).1) = (r', s.take (i + n), 0) ∧ RD.At r r' rest := by
  obtain ⟨a1, a2, a3⟩ := sym_fit Infl.lengthBase n hn 28 len_tab (show n < 258 + 2 ^ 0 by omega)
  obtain ⟨d1, d2, d3⟩ := sym_fit Infl.distBase back hb 29 dst_tab (show back < 24577 + 2 ^ 13 by omega)
  have l1 := symOf_le Infl.lengthBase n 28
  have l2 := symOf_le Infl.distBase back 29
  have m1 := sym_more Infl.lengthBase n 28 5 (fun i hi => lengthBase_lt hi)
  have m2 := sym_more Infl.distBase back 29 13 (fun i hi => (Infl.distBase_le hi).2.2)
  obtain ⟨p, hp⟩ : ∃ p, symOf Infl.lengthBase n 28 = p := ⟨_, rfl⟩
  obtain ⟨q, hq⟩ : ∃ q, symOf Infl.distBase back 29 = q := ⟨_, rfl⟩
  rw [hp] at a1 a2 a3 l1 m1 hd ⊢
  rw [hq] at d1 d2 d3 l2 m2 hd
  obtain ⟨r1, h1, t1⟩ := RD.bits_den hr (by omega) a1 hd
  obtain ⟨r2, h2, t2⟩ := dst_read t1.ok (by omega) t1.den
  obtain ⟨r3, h3, t3⟩ := RD.bits_den t2.ok (by omega) d1 t2.den
  refine ⟨r3, ?_, (t1.trans t2).trans t3⟩
  have hl : (s.take i).length = i := by simp; omega
  unfold Infl.again
  rw [a3] at h1
  rw [d3] at h3
  rw [if_neg (by omega), show 257 + p.1 - 257 = p.1 by omega]
  dsimp only
  rw [h1, h2, h3]
  dsimp only
  rw [if_neg (by simp), if_neg (by simp), if_neg (by omega), if_neg (by simp), if_neg (by omega), a2, d2]
  have := copy_eq s most back i hb hbi hm n 0 (by omega) (fun j hj => he j (by omega))
  rw [Nat.add_zero] at this
  rw [this]
theorem sym_go (s : List UInt8) (most : Nat) (hm : s.length ≤ most) : ∀ (f i : Nat) (seen : Seen) (F : Nat) (r : RD) (rest : List Bool), SeenOk s i seen → s.length - i ≤ f → i ≤ s.length → r.Ok → r.den = goB s f i seen ++ (litB 256 ++ rest) → r.den.length < F →
    ∃ r', Infl.symbols Infl.fixedLit Infl.fixedDist most F r (s.take i) = (r', s, 0) ∧ RD.At r r' rest := by
  have fin : ∀ (i F : Nat) (r : RD) (rest : List Bool), i = s.length → r.Ok → r.den = litB 256 ++ rest → r.den.length < F → ∃ r', Infl.symbols Infl.fixedLit Infl.fixedDist most F r (s.take i) = (r', s, 0) ∧ RD.At r r' rest := by
    intro i F r rest hi hr hd hF
    obtain ⟨F, rfl⟩ : ∃ k, F = k + 1 := ⟨F - 1, by omega⟩
    obtain ⟨r1, h1, t1⟩ := lit_read hr (c := 256) (by omega) hd
    refine ⟨r1, ?_, t1⟩
    unfold Infl.symbols
    rw [h1, hi, List.take_length]
    simp
  intro f
  induction f with
  | zero => intro i seen F r rest hs hf hi hr hd hF; exact fin i F r rest (by omega) hr hd hF
  | succ f ih =>
    intro i seen F r rest hs hf hi hr hd hF
    unfold goB at hd
    by_cases c1 : s.length ≤ i
    · rw [if_pos c1] at hd; exact fin i F r rest (by omega) hr hd hF
    · rw [if_neg c1] at hd
      obtain ⟨F, rfl⟩ : ∃ k, F = k + 1 := ⟨F - 1, by omega⟩
      have hl : (s.take i).length = i := by simp; omega
      by_cases c2 : (find s i seen).1 < 3
      · rw [if_pos c2, List.append_assoc] at hd
        obtain ⟨c, hc⟩ := get_some (l := s) (k := i) (by omega)
        have hcD : s.getD i 0 = c := by rw [List.getD_eq_getElem?_getD, hc]; rfl
        rw [hcD] at hd
        have hlt := c.toNat_lt
        have hp := litB_pos (c := c.toNat) (by omega)
        obtain ⟨r1, h1, t1⟩ := lit_read hr (c := c.toNat) (by omega) hd
        have hF1 : r1.den.length < F := by rw [t1.den]; rw [hd, List.length_append] at hF; omega
        obtain ⟨r2, h2, t2⟩ := ih (i + 1) (note s i seen) F r1 rest (note_ok hs (by omega)) (by omega) (by omega) t1.ok t1.den hF1
        refine ⟨r2, ?_, t1.trans t2⟩
        unfold Infl.symbols
        rw [h1]
        simp only [ne_eq, not_true_eq_false, if_false]
        rw [if_neg (by omega), if_pos (by omega), if_neg (by omega), u8i_toNat, ← take_snoc hc]
        exact h2
      · rw [if_neg c2] at hd
        have hle := find_le hs
        obtain ⟨g1, g2, g3, g4⟩ := hle.2 (by omega)
        have he := find_eq hs c2
        obtain ⟨p, hp⟩ : ∃ p, find s i seen = p := ⟨_, rfl⟩
        rw [hp] at hd hle g1 g2 g3 g4 he c2
        unfold repB at hd
        simp only [List.append_assoc] at hd
        have l1 := symOf_le Infl.lengthBase p.1 28
        have hpos := litB_pos (c := 257 + (symOf Infl.lengthBase p.1 28).1) (by omega)
        obtain ⟨r1, h1, t1⟩ := lit_read hr (c := 257 + (symOf Infl.lengthBase p.1 28).1) (by omega) hd
        obtain ⟨r2, h2, t2⟩ := again_den hm (by omega) hle.1 g2 g3 g4 g1 he t1.ok t1.den
        have hF1 : r2.den.length < F := by
          rw [t2.den]
          rw [hd] at hF; simp only [List.length_append] at hF ⊢; omega
        obtain ⟨r3, h3, t3⟩ := ih (i + p.1) (note s i seen) F r2 rest (note_ok hs (by omega)) (by omega) (by omega) t2.ok t2.den hF1
        refine ⟨r3, ?_, (t1.trans t2).trans t3⟩
        unfold Infl.symbols
        rw [h1]
        simp only [ne_eq, not_true_eq_false, if_false]
        rw [if_neg (by omega), if_neg (by omega), h2]
        simp only [not_true_eq_false, if_false]
        exact h3
theorem used_eq {S pre mid post : List UInt8} {r : RD} {z : List Bool} (hS : S = pre ++ (mid ++ post)) (ho : r.Ok) (hs : r.s = S) (hf : r.frm = pre.length) (hd : r.den = z ++ bb post) (hz : z.length < 8) : r.used = mid.length := by
  have h1 := RD.den_len r
  rw [hd, List.length_append, bb_len] at h1
  have h2 := ho.pos
  have h3 : r.s.length = pre.length + (mid.length + post.length) := by rw [hs, hS]; simp
  unfold RD.used
  unfold RD.left at h1
  omega
theorem stream_infl (s pre post : List UInt8) (most : Nat) (hm : s.length ≤ most) (hl : (pre ++ (stream s ++ post)).length ≤ 140737488351232) : Infl.inflate (pre ++ (stream s ++ post)) pre.length most = (s, (stream s).length, 0) := by
  obtain ⟨S, hS⟩ : ∃ S, pre ++ (stream s ++ post) = S := ⟨_, rfl⟩
  rw [hS] at hl ⊢
  have hW : (WR.zero.put 3 3).Ok := WR.put_ok WR.zero_ok 3 3
  have hWd : (WR.zero.put 3 3).den = wb 3 3 := by rw [WR.put_den WR.zero_ok]; rfl
  have hg := go_den s s.length 0 (fun _ => none) _ hW
  obtain ⟨z, hz, hz8⟩ := WR.text_den _ (lit_ok hg.2 256)
  rw [lit_den hg.2 (by omega), hg.1, hWd] at hz
  have hlen : pre.length ≤ S.length := by rw [← hS]; simp
  have h0 : (RD.new S pre.length).den = wb 3 3 ++ (goB s s.length 0 (fun _ => none) ++ (litB 256 ++ (z ++ bb post))) := by
    show wb 0 0 ++ bb (S.drop (min pre.length S.length)) = _
    rw [Nat.min_eq_left hlen, ← hS, List.drop_left, bb_app]
    have : bb (stream s) = _ := hz
    rw [this]; simp [wb_zero, List.append_assoc]
  have hn := RD.new_ok hl pre.length
  obtain ⟨r1, h1, t1⟩ := RD.bits_den hn (n := 3) (x := 3) (by omega) (by omega) h0
  obtain ⟨r2, h2, t2⟩ := sym_go s most hm s.length 0 (fun _ => none) (r1.left + 1) r1 _ (fun k a h => by cases h) (by omega) (by omega) t1.ok t1.den (by rw [RD.den_len]; omega)
  have ht := t1.trans t2
  have hu := used_eq (r := r2) hS.symm ht.ok (by rw [ht.s]; rfl) (by rw [ht.frm]; exact Nat.min_eq_left hlen) ht.den hz8
  rw [List.take_zero] at h2
  have hb : Infl.block most 3 r1 [] = (r2, s, 0) := by
    unfold Infl.block; rw [if_neg (by decide), if_pos (by decide)]; exact h2
  unfold Infl.inflate
  rw [Infl.run_succ, h1]
  simp only [Bool.true_eq_false, if_false]
  rw [hb]
  unfold Infl.cont
  simp [hu]
theorem put13 : WR.zero.put 1 3 = ⟨[], 1, 3⟩ := by
  unfold WR.put; rw [WR.flush, dif_neg (by decide)]; rfl
theorem stored_eq (s : List UInt8) : stored s = 1 :: (Sums.little (s.length : Int) 2 ++ (Sums.little ((65535 - s.length : Nat) : Int) 2 ++ s)) := by
  have ha : (WR.zero.put 1 3).align = ⟨[1], 0, 0⟩ := by
    rw [put13]; unfold WR.align WR.put
    rw [if_pos (by decide), WR.flush, dif_pos (by decide), WR.flush, dif_neg (by decide)]; rfl
  unfold stored WR.bytes
  rw [ha]
  unfold WR.text
  rw [if_neg (by simp only; omega)]
  simp
theorem u8i_mod (n : Nat) : ((u8i (n : Int)).toNat : Int) = ((n % 256 : Nat) : Int) := by unfold u8i; simp; omega
theorem little2 {n : Nat} (h : n < 65536) : ∃ a b : UInt8, Sums.little (n : Int) 2 = [a, b] ∧ Sums.fromLittle [a, b] = n := by
  refine ⟨u8i n, u8i ((n : Int) / 256), by simp [Sums.little, List.range_succ], ?_⟩
  have e1 : ((u8i (n : Int)).toNat : Int) = n % 256 := by rw [u8i_mod]; omega
  have e2 : ((u8i ((n : Int) / 256)).toNat : Int) = n / 256 % 256 := by
    rw [show (n : Int) / 256 = ((n / 256 : Nat) : Int) by omega, u8i_mod]; omega
  simp only [Sums.fromLittle]
  rw [e1, e2]; omega
theorem bytes_eq {r : RD} (h8 : r.hav < 8) {n : Nat} (hn : r.pos + n ≤ r.s.length) : r.bytes n = (⟨r.s, r.pos + n, 0, 0, r.frm⟩, (r.s.drop r.pos).take n, true) := by
  have hf : r.from_ = r.pos := by unfold RD.from_ RD.align RD.took; simp only; omega
  unfold RD.bytes
  rw [hf, if_neg (by omega), List.drop_take, Nat.add_sub_cancel_left]; rfl
theorem stored_infl (s pre post : List UInt8) (most : Nat) (hm : s.length ≤ most) (h16 : s.length ≤ 65535) (hl : (pre ++ (stored s ++ post)).length ≤ 140737488351232) : Infl.inflate (pre ++ (stored s ++ post)) pre.length most = (s, (stored s).length, 0) := by
  obtain ⟨S, hS⟩ : ∃ S, pre ++ (stored s ++ post) = S := ⟨_, rfl⟩
  rw [hS] at hl ⊢
  obtain ⟨a, b, hab, vab⟩ := little2 (n := s.length) (by omega)
  obtain ⟨c, d, hcd, vcd⟩ := little2 (n := 65535 - s.length) (by omega)
  have he := stored_eq s
  rw [hab, hcd] at he
  have hlen : S.length = pre.length + (s.length + 5 + post.length) := by rw [← hS, he]; simp; omega
  have hg : S[pre.length]? = some 1 := by rw [← hS, he]; simp
  have hd1 : S.drop (pre.length + 1) = a :: b :: c :: d :: (s ++ post) := by rw [← hS, he, ← List.drop_drop, List.drop_left]; simp
  have hd5 : S.drop (pre.length + 5) = s ++ post := by rw [show pre.length + 5 = pre.length + 1 + 4 by omega, ← List.drop_drop, hd1]; rfl
  have hb : (RD.new S pre.length).bits 3 = (⟨S, pre.length + 1, 0, 5, pre.length⟩, 1, true) := by
    have h0 : RD.new S pre.length = ⟨S, pre.length, 0, 0, pre.length⟩ := by unfold RD.new; rw [Nat.min_eq_left (by omega)]
    have h1 : (⟨S, pre.length, 0, 0, pre.length⟩ : RD).fill 3 = ⟨S, pre.length + 1, 1, 8, pre.length⟩ := by
      have hst : (⟨S, pre.length, 0, 0, pre.length⟩ : RD).step = ⟨S, pre.length + 1, 1, 8, pre.length⟩ := by unfold RD.step; simp only [hg]; rfl
      rw [RD.fill, dif_pos ⟨by simp only; omega, by simp only; omega⟩, hst, RD.fill, dif_neg (by simp)]
    unfold RD.bits
    rw [h0, h1, if_neg (by simp only; omega)]; simp [RD.took]
  have e1 : (⟨S, pre.length + 1, 0, 5, pre.length⟩ : RD).bytes 4 = (⟨S, pre.length + 5, 0, 0, pre.length⟩, [a, b, c, d], true) := by
    rw [bytes_eq (by simp only; omega) (by simp only; omega)]; simp only [hd1]; rfl
  have e2 : (⟨S, pre.length + 5, 0, 0, pre.length⟩ : RD).bytes s.length = (⟨S, pre.length + 5 + s.length, 0, 0, pre.length⟩, s, true) := by
    rw [bytes_eq (by simp only; omega) (by simp only; omega)]; simp only [hd5]; rw [List.take_left]
  have hst : Infl.stored ⟨S, pre.length + 1, 0, 5, pre.length⟩ [] most = (⟨S, pre.length + 5 + s.length, 0, 0, pre.length⟩, s, 0) := by
    unfold Infl.stored
    rw [e1]
    simp only [Bool.true_eq_false, if_false, List.take, List.drop]
    have hx : bits .xor .i64 (Sums.fromLittle [a, b]) 65535 = Sums.fromLittle [c, d] := by rw [vab, vcd, xor_val h16]
    refine (if_neg (fun h => h hx)).trans ?_
    rw [vab]
    unfold Infl.stored1
    rw [Int.toNat_natCast, e2]
    simp only [Bool.true_eq_false, if_false]
    unfold Infl.stored2
    rw [if_neg (by simp; omega)]; rfl
  have hbl : Infl.block most 1 ⟨S, pre.length + 1, 0, 5, pre.length⟩ [] = (⟨S, pre.length + 5 + s.length, 0, 0, pre.length⟩, s, 0) := by
    unfold Infl.block; rw [if_pos (by decide)]; exact hst
  unfold Infl.inflate
  rw [Infl.run_succ, hb]
  simp only [Bool.true_eq_false, if_false]
  rw [hbl]
  unfold Infl.cont
  have hu : (stored s).length = s.length + 5 := by rw [he]; simp
  simp [hu, RD.used]; omega
/-- inflate gives what deflate took -/
theorem deflate_infl (s pre post : List UInt8) (most : Nat) (hm : s.length ≤ most) (h16 : s.length ≤ 65535) (hl : (pre ++ (deflate s ++ post)).length ≤ 140737488351232) : Infl.inflate (pre ++ (deflate s ++ post)) pre.length most = (s, (deflate s).length, 0) := by
  unfold deflate at hl ⊢
  split
  · rename_i h; rw [if_pos h] at hl; exact stream_infl s pre post most hm hl
  · rename_i h; rw [if_neg h] at hl; exact stored_infl s pre post most hm h16 hl
end Defl
end Go.Eng
/-
  The reader and the writer of bits (bitin): each function's contract.
-/
set_option linter.unusedVariables false
set_option linter.unusedSimpArgs false
namespace Go.Eng
open Go.Proofs
theorem mixed : Tryd.prog.follows .mixedOrders = true := by kernel_rfl
theorem ag_3_F1 : aggB Tryd.prog 3 = some false := by kernel_rfl
theorem ag_51_F1 : aggB Tryd.prog 51 = some false := by kernel_rfl
theorem ag_9_F1 : aggB Tryd.prog 9 = some false := by kernel_rfl
theorem bd_85_F1 : bodied Tryd.prog 85 = true := by kernel_rfl
theorem bd_86_F1 : bodied Tryd.prog 86 = true := by kernel_rfl
theorem bd_95_F1 : bodied Tryd.prog 95 = true := by kernel_rfl
theorem bd_96_F1 : bodied Tryd.prog 96 = true := by kernel_rfl
theorem bu_127_0_1_4_F1 : ∀ (x0 : List UInt8) (x1 : Int) (x4 : Int) (w : World), (Instr.build 127 [(0, str x0), (1, .int .i64 x1), (4, .int .i64 x4)].toArray).run Tryd.prog w = .ok (.agg [str x0, .int .i64 x1, .int .u64 0, .int .i64 0, .int .i64 x4].toArray) w := fun _ _ _ _ => by kernel_rfl
theorem fo_127_0_F1 : fieldOff Tryd.prog 127 0 = some 0 := by kernel_rfl
theorem fo_127_1_F1 : fieldOff Tryd.prog 127 1 = some 1 := by kernel_rfl
theorem fo_127_2_F1 : fieldOff Tryd.prog 127 2 = some 2 := by kernel_rfl
theorem fo_127_3_F1 : fieldOff Tryd.prog 127 3 = some 3 := by kernel_rfl
theorem fo_127_4_F1 : fieldOff Tryd.prog 127 4 = some 4 := by kernel_rfl
theorem ik_32_F1 : intK Tryd.prog 32 = some .u32 := by kernel_rfl
theorem ik_51_F1 : intK Tryd.prog 51 = some .u64 := by kernel_rfl
theorem is_51_F1 : (Tryd.prog.underlying 51).isSome = true := by kernel_rfl
theorem is_5_F1 : (Tryd.prog.underlying 5).isSome = true := by kernel_rfl
theorem sz_3_F1 : sizeB Tryd.prog 3 = some 1 := by kernel_rfl
theorem sz_51_F1 : sizeB Tryd.prog 51 = some 1 := by kernel_rfl
theorem us_9_F1 : Tryd.prog.underlying 9 = some .string := by kernel_rfl

def RdAt (b : Nat) (r : RD) : HP := cel b 127 [str r.s, .int .i64 r.pos, .int .u64 r.hold, .int .i64 r.hav, .int .i64 r.frm]

set_option maxRecDepth 100000 in
set_option maxHeartbeats 1000000 in
theorem fill_spec (b : Nat) (r : RD) (n : Nat) (hr : r.Ok) (hn : n ≤ 32) : Spec Tryd.prog 95 #[.pointer (some ⟨b, 0, none⟩), .int .i64 n] [RdAt b r] (Ret fun v hl => v = .tuple #[] ∧ hl = [RdAt b (r.fill n)]) := by
 refine Spec.enter Tryd.func95 rfl rfl rfl (fun F w0 => ?_)
 dsimp only [argL, List.cons_append, List.nil_append]
 refine CG.block ?_
 refine CG.loopI (fun m L H => ∃ q : RD, q.Ok ∧ q.fill n = r.fill n ∧ m = q.s.length - q.pos ∧ L = [(0, .pointer (some ⟨b, 0, none⟩)), (1, .int .i64 n)] ∧ H = [RdAt b q] ++ F) (r.s.length - r.pos) (hl := [_]) (⟨r, hr, rfl, rfl, rfl, rfl⟩) sB rfl tK sF ?_
 rintro m L H ⟨q, hq, hfill, rfl, rfl, rfl⟩
 unfold RdAt
 dsimp only [List.cons_append, List.nil_append]
 have hq1 := hq.pos
 have hq2 := hq.hav
 have hq3 := hq.len
 refine CG.seq ?_
 refine CG.seq ?_
 refine CG.regT [] mixed (by kernel_rfl) ?_
 refine G.mv ?_
 first | refine G.np ?_ | refine G.q rfl rfl rfl rfl (q_nil_f rfl rfl) ?_
 first | refine G.q rfl rfl rfl rfl (q_field0 rfl rfl fo_127_3_F1) ?_ | refine G.q rfl rfl rfl rfl (q_field rfl rfl fo_127_3_F1) ?_
 refine G.ld ag_3_F1 ?_
 refine G.mv ?_
 refine G.q rfl rfl rfl rfl (q_lss rfl rfl rfl) ?_
 refine G.mv ?_
 refine G.split (t := 10) rfl (fun g10 => ?_) (fun g10 => ?_)
 ·
  refine G.mv ?_
  first | refine G.np ?_ | refine G.q rfl rfl rfl rfl (q_nil_f rfl rfl) ?_
  first | refine G.q rfl rfl rfl rfl (q_field0 rfl rfl fo_127_1_F1) ?_ | refine G.q rfl rfl rfl rfl (q_field rfl rfl fo_127_1_F1) ?_
  refine G.ld ag_3_F1 ?_
  refine G.mv ?_
  first | refine G.np ?_ | refine G.q rfl rfl rfl rfl (q_nil_f rfl rfl) ?_
  first | refine G.q rfl rfl rfl rfl (q_field0 rfl rfl fo_127_0_F1) ?_ | refine G.q rfl rfl rfl rfl (q_field rfl rfl fo_127_0_F1) ?_
  refine G.ld ag_9_F1 ?_
  refine G.q rfl rfl rfl rfl (q_len_str rfl rfl us_9_F1) ?_
  refine G.q rfl rfl rfl rfl (q_lss rfl rfl rfl) ?_
  refine G.q rfl rfl rfl rfl (q_pick_t rfl rfl rfl) ?_
  refine G.nil ?_
  refine EN.sub (sC 0 (sC 1 (sC 21 Sub.nil))) ?_
  refine EN.then ?_
  refine CG.cond rfl (fun h21 => ?_) (fun h21 => ?_)
  ·
   refine CG.skip ?_
   refine EN.then ?_
   refine CG.block ?_
   refine CG.seq ?_
   obtain ⟨c, hc⟩ : ∃ c, q.s[q.pos]? = some c := ⟨_, List.getElem?_eq_getElem oM⟩
   have hs : q.step = { q with hold := q.hold ||| (c.toNat <<< q.hav), pos := q.pos + 1, hav := q.hav + 8 } := by unfold RD.step; rw [hc]
   have hq' := hq.step oM oM
   rw [hs] at hq'
   have hfill' : RD.fill { q with hold := q.hold ||| (c.toNat <<< q.hav), pos := q.pos + 1, hav := q.hav + 8 } n = q.fill n := by rw [RD.fill.eq_1 q n, dif_pos oM, hs]
   have hc8 := c.toNat_lt
   have e : bits .or .u64 (q.hold : Int) (IntKind.u64.wrap ((c.toNat : Int) * 2 ^ min ((q.hav : Nat) : Int).toNat IntKind.u64.bits)) = ((q.hold ||| (c.toNat <<< q.hav) : Nat) : Int) := by
     have h1 := RD.shl_lt (c := c.toNat) (h := q.hav) oM oM
     rw [shl_nat rfl rfl (n := 64) oM h1, bits_or_nat (n := 64) rfl rfl]
     · exact Nat.lt_of_lt_of_le hq.hold (Nat.pow_le_pow_right oM oM)
     · rw [Nat.shiftLeft_eq]; exact h1
   refine CG.regT [35] mixed (by kernel_rfl) ?_
   refine G.mv ?_
   first | refine G.np ?_ | refine G.q rfl rfl rfl rfl (q_nil_f rfl rfl) ?_
   first | refine G.q rfl rfl rfl rfl (q_field0 rfl rfl fo_127_2_F1) ?_ | refine G.q rfl rfl rfl rfl (q_field rfl rfl fo_127_2_F1) ?_
   refine G.ld ag_51_F1 ?_
   refine G.mv ?_
   first | refine G.np ?_ | refine G.q rfl rfl rfl rfl (q_nil_f rfl rfl) ?_
   first | refine G.q rfl rfl rfl rfl (q_field0 rfl rfl fo_127_0_F1) ?_ | refine G.q rfl rfl rfl rfl (q_field rfl rfl fo_127_0_F1) ?_
   refine G.ld ag_9_F1 ?_
   refine G.mv ?_
   first | refine G.np ?_ | refine G.q rfl rfl rfl rfl (q_nil_f rfl rfl) ?_
   first | refine G.q rfl rfl rfl rfl (q_field0 rfl rfl fo_127_1_F1) ?_ | refine G.q rfl rfl rfl rfl (q_field rfl rfl fo_127_1_F1) ?_
   refine G.ld ag_3_F1 ?_
   refine G.q rfl rfl rfl rfl (q_index rfl rfl rfl us_9_F1 (hc)) ?_
   first | refine G.q rfl rfl rfl rfl (q_conv_in rfl rfl is_5_F1 ik_51_F1 (wrapu_in (b := 64) rfl rfl oM)) ?_ | refine G.q rfl rfl rfl rfl (q_conv rfl rfl is_5_F1 ik_51_F1) ?_
   refine G.mv ?_
   first | refine G.np ?_ | refine G.q rfl rfl rfl rfl (q_nil_f rfl rfl) ?_
   first | refine G.q rfl rfl rfl rfl (q_field0 rfl rfl fo_127_3_F1) ?_ | refine G.q rfl rfl rfl rfl (q_field rfl rfl fo_127_3_F1) ?_
   refine G.ld ag_3_F1 ?_
   refine G.q rfl rfl rfl rfl (q_shl rfl rfl rfl oM) ?_
   refine G.q rfl rfl rfl rfl (q_or rfl rfl rfl) ?_
   first | refine G.np ?_ | refine G.q rfl rfl rfl rfl (q_nil_f rfl rfl) ?_
   first | refine G.q rfl rfl rfl rfl (q_field0 rfl rfl fo_127_2_F1) ?_ | refine G.q rfl rfl rfl rfl (q_field rfl rfl fo_127_2_F1) ?_
   refine G.st0 sz_51_F1 ?_
   refine G.nil ?_
   refine EN.sub (sC 0 (sC 1 Sub.nil)) ?_
   refine EN.tsr ?_
   refine G.mv ?_
   first | refine G.np ?_ | refine G.q rfl rfl rfl rfl (q_nil_f rfl rfl) ?_
   first | refine G.q rfl rfl rfl rfl (q_field0 rfl rfl fo_127_1_F1) ?_ | refine G.q rfl rfl rfl rfl (q_field rfl rfl fo_127_1_F1) ?_
   refine G.ld ag_3_F1 ?_
   first | refine G.q rfl rfl rfl rfl (q_add_i rfl rfl rfl oM) ?_ | refine G.q rfl rfl rfl rfl (q_add rfl rfl rfl) ?_
   first | refine G.np ?_ | refine G.q rfl rfl rfl rfl (q_nil_f rfl rfl) ?_
   first | refine G.q rfl rfl rfl rfl (q_field0 rfl rfl fo_127_1_F1) ?_ | refine G.q rfl rfl rfl rfl (q_field rfl rfl fo_127_1_F1) ?_
   refine G.st0 sz_3_F1 ?_
   refine G.nil ?_
   refine EN.tr ?_
   refine G.mv ?_
   first | refine G.np ?_ | refine G.q rfl rfl rfl rfl (q_nil_f rfl rfl) ?_
   first | refine G.q rfl rfl rfl rfl (q_field0 rfl rfl fo_127_3_F1) ?_ | refine G.q rfl rfl rfl rfl (q_field rfl rfl fo_127_3_F1) ?_
   refine G.ld ag_3_F1 ?_
   first | refine G.q rfl rfl rfl rfl (q_add_i rfl rfl rfl oM) ?_ | refine G.q rfl rfl rfl rfl (q_add rfl rfl rfl) ?_
   first | refine G.np ?_ | refine G.q rfl rfl rfl rfl (q_nil_f rfl rfl) ?_
   first | refine G.q rfl rfl rfl rfl (q_field0 rfl rfl fo_127_3_F1) ?_ | refine G.q rfl rfl rfl rfl (q_field rfl rfl fo_127_3_F1) ?_
   refine G.st0 sz_3_F1 ?_
   refine G.nil ?_
   refine EN.sub (sC 0 (sC 1 Sub.nil)) ?_
   refine EN.in_normal ?_
   rw [e]
   exact EN.round (hl := [_]) (q.s.length - (q.pos + 1)) oM (⟨{ q with hold := q.hold ||| (c.toNat <<< q.hav), pos := q.pos + 1, hav := q.hav + 8 }, hq', by rw [hfill', ← hfill], rfl, rfl, rfl⟩) sB rfl tK sF
  ·
   refine CG.exit ?_
   refine EN.then_exit ?_
   refine EN.then_exit ?_
   refine EN.in_here ?_
   rw [← hfill, RD.fill, dif_neg oM]
   exact fin_ret0 rfl tK sF (⟨rfl, rfl⟩) _ (.inr rfl)
 ·
  refine G.skip rfl rfl rfl ?_
  refine G.skip rfl rfl rfl ?_
  refine G.skip rfl rfl rfl ?_
  refine G.skip rfl rfl rfl ?_
  refine G.skip rfl rfl rfl ?_
  refine G.skip rfl rfl rfl ?_
  refine G.skip rfl rfl rfl ?_
  refine G.skip rfl rfl rfl ?_
  refine G.skip rfl rfl rfl ?_
  refine G.skip rfl rfl rfl ?_
  refine G.q rfl rfl rfl rfl (q_pick_f rfl rfl rfl) ?_
  refine G.nil ?_
  refine EN.sub (sC 0 (sC 1 (sC 21 Sub.nil))) ?_
  refine EN.then ?_
  refine CG.cond_f rfl ?_
  refine CG.exit ?_
  refine EN.then_exit ?_
  refine EN.then_exit ?_
  refine EN.in_here ?_
  rw [← hfill, RD.fill, dif_neg oM]
  exact fin_ret0 rfl tK sF (⟨rfl, rfl⟩) _ (.inr rfl)

set_option maxRecDepth 100000 in
set_option maxHeartbeats 1000000 in
theorem peek_spec (b : Nat) (r : RD) (n : Nat) (hr : r.Ok) (hn : n ≤ 32) : Spec Tryd.prog 85 #[.pointer (some ⟨b, 0, none⟩), .int .i64 n] [RdAt b r] (Ret fun v hl => (∃ m, v = .tuple #[.int .u32 ((r.fill n).hold % 2 ^ n : Nat), m]) ∧ hl = [RdAt b (r.fill n)]) := by
 refine Spec.enter Tryd.func85 rfl rfl rfl (fun F w0 => ?_)
 dsimp only [argL, List.cons_append, List.nil_append]
 refine CG.sr ?_
 refine G.as ?_
 refine G.as ?_
 refine G.nil ?_
 refine EN.ts ?_
 refine CG.sr ?_
 refine G.mv ?_
 refine G.q rfl rfl rfl rfl (q_lss rfl rfl rfl) ?_
 refine G.mv ?_
 refine G.split (t := 8) rfl (fun g8 => absurd g8 oM) (fun g8 => ?_)
 refine G.mv ?_
 refine G.q rfl rfl rfl rfl (q_gtr rfl rfl rfl) ?_
 refine G.q rfl rfl rfl rfl (q_pick_f rfl rfl rfl) ?_
 refine G.nil ?_
 refine EN.then ?_
 refine CG.cond rfl (fun h11 => absurd h11 oM) (fun h11 => ?_)
 refine CG.skip ?_
 refine EN.tsr ?_
 refine G.mv ?_
 refine G.mv ?_
 refine G.call (xs := [_, _]) rfl rfl (fill_spec b r n hr hn) bd_95_F1 rfl rfl rfl rfl tK (fun _ _ _ _ _ _ => trivial) ?_
 rintro _ _ ⟨rfl, rfl⟩
 try dsimp only [List.cons_append, List.nil_append]
 refine G.nil ?_
 refine EN.sub (sC 0 (sC 1 (sC 4 (sC 5 Sub.nil)))) ?_
 refine EN.ts ?_
 have e := RD.peek_val (n := n) (hold := (r.fill n).hold) hn (Nat.lt_of_lt_of_le (RD.fill_ok n hn r hr).hold (Nat.pow_le_pow_right oM (by have := (RD.fill_ok n hn r hr).hav; omega)))
 unfold RdAt
 refine CG.regT [23] mixed (by kernel_rfl) ?_
 refine G.mv ?_
 first | refine G.np ?_ | refine G.q rfl rfl rfl rfl (q_nil_f rfl rfl) ?_
 first | refine G.q rfl rfl rfl rfl (q_field0 rfl rfl fo_127_2_F1) ?_ | refine G.q rfl rfl rfl rfl (q_field rfl rfl fo_127_2_F1) ?_
 refine G.ld ag_51_F1 ?_
 refine G.mv ?_
 refine G.q rfl rfl rfl rfl (q_shl rfl rfl rfl oM) ?_
 refine G.q rfl rfl rfl rfl (q_sub rfl rfl rfl) ?_
 refine G.q rfl rfl rfl rfl (q_and rfl rfl rfl) ?_
 first | refine G.q rfl rfl rfl rfl (q_conv_in rfl rfl is_51_F1 ik_32_F1 (wrapu_in (b := 32) rfl rfl oM)) ?_ | refine G.q rfl rfl rfl rfl (q_conv rfl rfl is_51_F1 ik_32_F1) ?_
 refine G.mv ?_
 refine G.mv ?_
 first | refine G.np ?_ | refine G.q rfl rfl rfl rfl (q_nil_f rfl rfl) ?_
 first | refine G.q rfl rfl rfl rfl (q_field0 rfl rfl fo_127_3_F1) ?_ | refine G.q rfl rfl rfl rfl (q_field rfl rfl fo_127_3_F1) ?_
 refine G.ld ag_3_F1 ?_
 refine G.q rfl rfl rfl rfl (q_min rfl rfl rfl) ?_
 refine G.as ?_
 refine G.as ?_
 refine G.nil ?_
 refine EN.sub (sC 4 (sC 5 Sub.nil)) ?_
 refine EN.then ?_
 refine CG.ret ?_
 rw [e]
 exact fin_ret2 rfl rfl rfl tK sF (⟨⟨_, rfl⟩, rfl⟩) _ (.inl rfl)

set_option maxRecDepth 100000 in
set_option maxHeartbeats 1000000 in
theorem skip_spec (b : Nat) (r : RD) (n : Nat) (hr : r.Ok) (hn : n ≤ 32) : Spec Tryd.prog 86 #[.pointer (some ⟨b, 0, none⟩), .int .i64 n] [RdAt b r] (Ret fun v hl => v = .bool (decide (n ≤ (r.fill n).hav)) ∧ hl = [RdAt b (if (r.fill n).hav < n then r.fill n else (r.fill n).took n)]) := by
 refine Spec.enter Tryd.func86 rfl rfl rfl (fun F w0 => ?_)
 dsimp only [argL, List.cons_append, List.nil_append]
 refine CG.sr ?_
 refine G.as ?_
 refine G.nil ?_
 refine EN.ts ?_
 refine CG.sr ?_
 refine G.mv ?_
 refine G.q rfl rfl rfl rfl (q_lss rfl rfl rfl) ?_
 refine G.mv ?_
 refine G.split (t := 7) rfl (fun g7 => absurd g7 oM) (fun g7 => ?_)
 refine G.mv ?_
 refine G.q rfl rfl rfl rfl (q_gtr rfl rfl rfl) ?_
 refine G.q rfl rfl rfl rfl (q_pick_f rfl rfl rfl) ?_
 refine G.nil ?_
 refine EN.then ?_
 refine CG.cond rfl (fun h10 => absurd h10 oM) (fun h10 => ?_)
 refine CG.skip ?_
 refine EN.tsr ?_
 refine G.mv ?_
 refine G.mv ?_
 refine G.call (xs := [_, _]) rfl rfl (fill_spec b r n hr hn) bd_95_F1 rfl rfl rfl rfl tK (fun _ _ _ _ _ _ => trivial) ?_
 rintro _ _ ⟨rfl, rfl⟩
 try dsimp only [List.cons_append, List.nil_append]
 refine G.nil ?_
 refine EN.sub (sC 0 (sC 1 (sC 4 Sub.nil))) ?_
 refine EN.ts ?_
 refine CG.seq ?_
 have hk := (RD.fill_ok n hn r hr).hav
 unfold RdAt
 refine CG.reg ?_
 refine G.mv ?_
 first | refine G.np ?_ | refine G.q rfl rfl rfl rfl (q_nil_f rfl rfl) ?_
 first | refine G.q rfl rfl rfl rfl (q_field0 rfl rfl fo_127_3_F1) ?_ | refine G.q rfl rfl rfl rfl (q_field rfl rfl fo_127_3_F1) ?_
 refine G.ld ag_3_F1 ?_
 refine G.mv ?_
 refine G.q rfl rfl rfl rfl (q_lss rfl rfl rfl) ?_
 refine G.nil ?_
 refine EN.then ?_
 refine CG.cond rfl (fun h19 => ?_) (fun h19 => ?_)
 ·
  rw [if_pos (by omega : (r.fill n).hav < n), decide_eq_false (by omega : ¬ n ≤ (r.fill n).hav)]
  refine CG.sr ?_
  refine G.as ?_
  refine G.nil ?_
  refine EN.then ?_
  refine CG.ret ?_
  refine EN.then_ret ?_
  exact fin_ret1 rfl rfl tK sF (⟨rfl, rfl⟩) _ (.inl rfl)
 ·
  rw [if_neg (by omega : ¬ (r.fill n).hav < n), decide_eq_true (by omega : n ≤ (r.fill n).hav)]
  have e := shr_nat (k := .u64) (a := (r.fill n).hold) (c := n) (by simp [IntKind.bits]; omega)
  have e2 : (((r.fill n).hav : Int) - n) = (((r.fill n).hav - n : Nat) : Int) := by omega
  refine CG.skip ?_
  refine EN.tsr ?_
  refine G.mv ?_
  first | refine G.np ?_ | refine G.q rfl rfl rfl rfl (q_nil_f rfl rfl) ?_
  first | refine G.q rfl rfl rfl rfl (q_field0 rfl rfl fo_127_2_F1) ?_ | refine G.q rfl rfl rfl rfl (q_field rfl rfl fo_127_2_F1) ?_
  refine G.ld ag_51_F1 ?_
  refine G.mv ?_
  refine G.q rfl rfl rfl rfl (q_shr rfl rfl rfl oM) ?_
  first | refine G.np ?_ | refine G.q rfl rfl rfl rfl (q_nil_f rfl rfl) ?_
  first | refine G.q rfl rfl rfl rfl (q_field0 rfl rfl fo_127_2_F1) ?_ | refine G.q rfl rfl rfl rfl (q_field rfl rfl fo_127_2_F1) ?_
  refine G.st0 sz_51_F1 ?_
  refine G.nil ?_
  refine EN.sub (sC 0 (sC 1 (sC 4 Sub.nil))) ?_
  refine EN.ts ?_
  rw [e]
  refine CG.reg ?_
  refine G.mv ?_
  first | refine G.np ?_ | refine G.q rfl rfl rfl rfl (q_nil_f rfl rfl) ?_
  first | refine G.q rfl rfl rfl rfl (q_field0 rfl rfl fo_127_3_F1) ?_ | refine G.q rfl rfl rfl rfl (q_field rfl rfl fo_127_3_F1) ?_
  refine G.ld ag_3_F1 ?_
  refine G.mv ?_
  first | refine G.q rfl rfl rfl rfl (q_sub_i rfl rfl rfl oM) ?_ | refine G.q rfl rfl rfl rfl (q_sub rfl rfl rfl) ?_
  first | refine G.np ?_ | refine G.q rfl rfl rfl rfl (q_nil_f rfl rfl) ?_
  first | refine G.q rfl rfl rfl rfl (q_field0 rfl rfl fo_127_3_F1) ?_ | refine G.q rfl rfl rfl rfl (q_field rfl rfl fo_127_3_F1) ?_
  refine G.st0 sz_3_F1 ?_
  refine G.nil ?_
  refine EN.sub (sC 4 Sub.nil) ?_
  refine EN.ts ?_
  rw [e2]
  refine CG.reg ?_
  refine G.as ?_
  refine G.nil ?_
  refine EN.then ?_
  refine CG.ret ?_
  exact fin_ret1 rfl rfl tK sF (⟨rfl, rfl⟩) _ (.inl rfl)

set_option maxRecDepth 100000 in
set_option maxHeartbeats 1000000 in
theorem rbits_spec (b : Nat) (r : RD) (n : Nat) (hr : r.Ok) (hn : n ≤ 32) : Spec Tryd.prog 77 #[.pointer (some ⟨b, 0, none⟩), .int .i64 n] [RdAt b r] (Ret fun v hl => v = .tuple #[.int .u32 (r.bits n).2.1, .bool (r.bits n).2.2] ∧ hl = [RdAt b (r.bits n).1]) := by
 refine Spec.enter Tryd.func77 rfl rfl rfl (fun F w0 => ?_)
 dsimp only [argL, List.cons_append, List.nil_append]
 refine CG.sr ?_
 refine G.as ?_
 refine G.as ?_
 refine G.nil ?_
 refine EN.tsr ?_
 refine G.mv ?_
 refine G.mv ?_
 refine G.call (xs := [_, _]) rfl rfl (peek_spec b r n hr hn) bd_85_F1 rfl rfl rfl rfl tK (fun _ _ _ _ _ _ => trivial) ?_
 rintro _ _ ⟨⟨m, rfl⟩, rfl⟩
 try dsimp only [List.cons_append, List.nil_append]
 refine G.mv ?_
 refine G.q rfl rfl rfl rfl (q_extract rfl rfl rfl) ?_
 refine G.q rfl rfl rfl rfl (q_extract rfl rfl rfl) ?_
 refine G.as ?_
 refine G.as ?_
 refine G.nil ?_
 refine EN.ts ?_
 refine CG.sr ?_
 refine G.mv ?_
 refine G.mv ?_
 refine G.call (xs := [_, _]) rfl rfl (skip_spec b (r.fill n) n (RD.fill_ok n hn r hr) hn) bd_86_F1 rfl rfl rfl rfl tK (fun _ _ _ _ _ _ => trivial) ?_
 rintro _ _ ⟨rfl, rfl⟩
 try dsimp only [List.cons_append, List.nil_append]
 refine G.q rfl rfl rfl rfl (q_not rfl rfl) ?_
 refine G.nil ?_
 refine EN.sub (sC 4 (sC 5 (sC 6 (sC 17 Sub.nil)))) ?_
 refine EN.then ?_
 refine CG.condB rfl (fun h17 => ?_) (fun h17 => ?_)
 ·
  have h : (r.fill n).hav < n := by rw [RD.fill_idem] at h17; simpa using h17
  rw [RD.fill_idem, if_pos h, show r.bits n = (r.fill n, 0, false) from if_pos h]
  refine CG.sr ?_
  refine G.as ?_
  refine G.as ?_
  refine G.nil ?_
  refine EN.then ?_
  refine CG.ret ?_
  refine EN.then_ret ?_
  exact fin_ret2 rfl rfl rfl tK sF (⟨rfl, rfl⟩) _ (.inl rfl)
 ·
  have h : ¬ (r.fill n).hav < n := by rw [RD.fill_idem] at h17; simpa using h17
  rw [RD.fill_idem, if_neg h, show r.bits n = ((r.fill n).took n, (r.fill n).hold % 2 ^ n, true) from if_neg h]
  refine CG.skip ?_
  refine EN.tsr ?_
  refine G.mv ?_
  refine G.as ?_
  refine G.as ?_
  refine G.nil ?_
  refine EN.then ?_
  refine CG.ret ?_
  exact fin_ret2 rfl rfl rfl tK sF (⟨rfl, rfl⟩) _ (.inl rfl)

set_option maxRecDepth 100000 in
set_option maxHeartbeats 1000000 in
theorem ralign_spec (b : Nat) (r : RD) (hr : r.Ok) : Spec Tryd.prog 96 #[.pointer (some ⟨b, 0, none⟩)] [RdAt b r] (Ret fun v hl => v = .tuple #[] ∧ hl = [RdAt b r.align]) := by
 unfold RdAt
 have hr1 := hr.hav
 refine Spec.enter Tryd.func96 rfl rfl rfl (fun F w0 => ?_)
 dsimp only [argL, List.cons_append, List.nil_append]
 refine CG.sr ?_
 refine G.mv ?_
 first | refine G.np ?_ | refine G.q rfl rfl rfl rfl (q_nil_f rfl rfl) ?_
 first | refine G.q rfl rfl rfl rfl (q_field0 rfl rfl fo_127_3_F1) ?_ | refine G.q rfl rfl rfl rfl (q_field rfl rfl fo_127_3_F1) ?_
 refine G.ld ag_3_F1 ?_
 first | refine G.q rfl rfl rfl rfl (q_rem_n rfl rfl rfl oM) ?_ | refine G.q rfl rfl rfl rfl (q_rem rfl rfl rfl oM) ?_
 refine G.as ?_
 refine G.nil ?_
 refine EN.ts ?_
 have e0 : ((r.hav : Int) % 8) = ((r.hav % 8 : Nat) : Int) := by omega
 rw [e0]
 have e := shr_nat (k := .u64) (a := r.hold) (c := r.hav % 8) (by simp [IntKind.bits]; omega)
 have e2 : ((r.hav : Int) - (r.hav % 8 : Nat)) = ((r.hav - r.hav % 8 : Nat) : Int) := by omega
 refine CG.reg ?_
 refine G.mv ?_
 first | refine G.np ?_ | refine G.q rfl rfl rfl rfl (q_nil_f rfl rfl) ?_
 first | refine G.q rfl rfl rfl rfl (q_field0 rfl rfl fo_127_2_F1) ?_ | refine G.q rfl rfl rfl rfl (q_field rfl rfl fo_127_2_F1) ?_
 refine G.ld ag_51_F1 ?_
 refine G.mv ?_
 refine G.q rfl rfl rfl rfl (q_shr rfl rfl rfl oM) ?_
 first | refine G.np ?_ | refine G.q rfl rfl rfl rfl (q_nil_f rfl rfl) ?_
 first | refine G.q rfl rfl rfl rfl (q_field0 rfl rfl fo_127_2_F1) ?_ | refine G.q rfl rfl rfl rfl (q_field rfl rfl fo_127_2_F1) ?_
 refine G.st0 sz_51_F1 ?_
 refine G.nil ?_
 refine EN.sub (sC 0 (sC 2 Sub.nil)) ?_
 refine EN.then ?_
 rw [e]
 refine CG.reg ?_
 refine G.mv ?_
 first | refine G.np ?_ | refine G.q rfl rfl rfl rfl (q_nil_f rfl rfl) ?_
 first | refine G.q rfl rfl rfl rfl (q_field0 rfl rfl fo_127_3_F1) ?_ | refine G.q rfl rfl rfl rfl (q_field rfl rfl fo_127_3_F1) ?_
 refine G.ld ag_3_F1 ?_
 refine G.mv ?_
 first | refine G.q rfl rfl rfl rfl (q_sub_i rfl rfl rfl oM) ?_ | refine G.q rfl rfl rfl rfl (q_sub rfl rfl rfl) ?_
 first | refine G.np ?_ | refine G.q rfl rfl rfl rfl (q_nil_f rfl rfl) ?_
 first | refine G.q rfl rfl rfl rfl (q_field0 rfl rfl fo_127_3_F1) ?_ | refine G.q rfl rfl rfl rfl (q_field rfl rfl fo_127_3_F1) ?_
 refine G.st0 sz_3_F1 ?_
 refine G.nil ?_
 refine EN.sub Sub.nil ?_
 rw [e2]
 exact fin_ret0 rfl tK sF (⟨rfl, rfl⟩) _ (.inr rfl)

set_option maxRecDepth 100000 in
set_option maxHeartbeats 1000000 in
theorem used_spec (b : Nat) (r : RD) (hr : r.Ok) : Spec Tryd.prog 68 #[.pointer (some ⟨b, 0, none⟩)] [RdAt b r] (Ret fun v hl => v = .int .i64 r.used ∧ hl = [RdAt b r]) := by
 unfold RdAt
 have hr1 := hr.begun
 have hr2 := hr.pos
 have hr3 := hr.len
 have e : ((r.pos : Int) - r.hav / 8 - r.frm) = (r.used : Int) := by unfold RD.used; omega
 refine Spec.enter Tryd.func68 rfl rfl rfl (fun F w0 => ?_)
 dsimp only [argL, List.cons_append, List.nil_append]
 refine CG.sr ?_
 refine G.as ?_
 refine G.nil ?_
 refine EN.ts ?_
 refine CG.regT [] mixed (by kernel_rfl) ?_
 refine G.mv ?_
 first | refine G.np ?_ | refine G.q rfl rfl rfl rfl (q_nil_f rfl rfl) ?_
 first | refine G.q rfl rfl rfl rfl (q_field0 rfl rfl fo_127_1_F1) ?_ | refine G.q rfl rfl rfl rfl (q_field rfl rfl fo_127_1_F1) ?_
 refine G.ld ag_3_F1 ?_
 refine G.mv ?_
 first | refine G.np ?_ | refine G.q rfl rfl rfl rfl (q_nil_f rfl rfl) ?_
 first | refine G.q rfl rfl rfl rfl (q_field0 rfl rfl fo_127_3_F1) ?_ | refine G.q rfl rfl rfl rfl (q_field rfl rfl fo_127_3_F1) ?_
 refine G.ld ag_3_F1 ?_
 first | refine G.q rfl rfl rfl rfl (q_quo_i rfl rfl rfl oM) ?_ | refine G.q rfl rfl rfl rfl (q_quo rfl rfl rfl oM) ?_
 first | refine G.q rfl rfl rfl rfl (q_sub_i rfl rfl rfl oM) ?_ | refine G.q rfl rfl rfl rfl (q_sub rfl rfl rfl) ?_
 refine G.mv ?_
 first | refine G.np ?_ | refine G.q rfl rfl rfl rfl (q_nil_f rfl rfl) ?_
 first | refine G.q rfl rfl rfl rfl (q_field0 rfl rfl fo_127_4_F1) ?_ | refine G.q rfl rfl rfl rfl (q_field rfl rfl fo_127_4_F1) ?_
 refine G.ld ag_3_F1 ?_
 first | refine G.q rfl rfl rfl rfl (q_sub_i rfl rfl rfl oM) ?_ | refine G.q rfl rfl rfl rfl (q_sub rfl rfl rfl) ?_
 refine G.as ?_
 refine G.nil ?_
 refine EN.sub (sC 2 Sub.nil) ?_
 refine EN.then ?_
 refine CG.ret ?_
 rw [e]
 exact fin_ret1 rfl rfl tK sF (⟨rfl, rfl⟩) _ (.inl rfl)

set_option maxRecDepth 100000 in
set_option maxHeartbeats 1000000 in
theorem left_spec (b : Nat) (r : RD) (hr : r.Ok) : Spec Tryd.prog 89 #[.pointer (some ⟨b, 0, none⟩)] [RdAt b r] (Ret fun v hl => v = .int .i64 r.left ∧ hl = [RdAt b r]) := by
 unfold RdAt
 have hr1 := hr.hav
 have hr2 := hr.pos
 have hr3 := hr.len
 have e : (8 * ((r.s.length : Int) - r.pos) + r.hav) = (r.left : Int) := by unfold RD.left; omega
 refine Spec.enter Tryd.func89 rfl rfl rfl (fun F w0 => ?_)
 dsimp only [argL, List.cons_append, List.nil_append]
 refine CG.sr ?_
 refine G.as ?_
 refine G.nil ?_
 refine EN.ts ?_
 refine CG.regT [] mixed (by kernel_rfl) ?_
 refine G.mv ?_
 first | refine G.np ?_ | refine G.q rfl rfl rfl rfl (q_nil_f rfl rfl) ?_
 first | refine G.q rfl rfl rfl rfl (q_field0 rfl rfl fo_127_0_F1) ?_ | refine G.q rfl rfl rfl rfl (q_field rfl rfl fo_127_0_F1) ?_
 refine G.ld ag_9_F1 ?_
 refine G.q rfl rfl rfl rfl (q_len_str rfl rfl us_9_F1) ?_
 refine G.mv ?_
 first | refine G.np ?_ | refine G.q rfl rfl rfl rfl (q_nil_f rfl rfl) ?_
 first | refine G.q rfl rfl rfl rfl (q_field0 rfl rfl fo_127_1_F1) ?_ | refine G.q rfl rfl rfl rfl (q_field rfl rfl fo_127_1_F1) ?_
 refine G.ld ag_3_F1 ?_
 first | refine G.q rfl rfl rfl rfl (q_sub_i rfl rfl rfl oM) ?_ | refine G.q rfl rfl rfl rfl (q_sub rfl rfl rfl) ?_
 first | refine G.q rfl rfl rfl rfl (q_mul_i rfl rfl rfl oM) ?_ | refine G.q rfl rfl rfl rfl (q_mul rfl rfl rfl) ?_
 refine G.mv ?_
 first | refine G.np ?_ | refine G.q rfl rfl rfl rfl (q_nil_f rfl rfl) ?_
 first | refine G.q rfl rfl rfl rfl (q_field0 rfl rfl fo_127_3_F1) ?_ | refine G.q rfl rfl rfl rfl (q_field rfl rfl fo_127_3_F1) ?_
 refine G.ld ag_3_F1 ?_
 first | refine G.q rfl rfl rfl rfl (q_add_i rfl rfl rfl oM) ?_ | refine G.q rfl rfl rfl rfl (q_add rfl rfl rfl) ?_
 refine G.as ?_
 refine G.nil ?_
 refine EN.sub (sC 2 Sub.nil) ?_
 refine EN.then ?_
 refine CG.ret ?_
 rw [e]
 exact fin_ret1 rfl rfl tK sF (⟨rfl, rfl⟩) _ (.inl rfl)

set_option maxRecDepth 100000 in
set_option maxHeartbeats 1000000 in
theorem rnew_spec (s : List UInt8) (k : Nat) (hs : s.length ≤ 140737488351232) : Spec Tryd.prog 66 #[str s, .int .i64 k] [] (Ret fun v hl => ∃ b, v = .pointer (some ⟨b, 0, none⟩) ∧ hl = [RdAt b (RD.new s k)]) := by
 refine Spec.enter Tryd.func66 rfl rfl rfl (fun F w0 => ?_)
 dsimp only [argL, List.cons_append, List.nil_append]
 refine CG.sr ?_
 refine G.as ?_
 refine G.nil ?_
 refine EN.tsr ?_
 refine G.mv ?_
 refine G.mv ?_
 refine G.q rfl rfl rfl rfl (q_len_str rfl rfl us_9_F1) ?_
 refine G.q rfl rfl rfl rfl (q_min rfl rfl rfl) ?_
 refine G.q rfl rfl rfl rfl (q_max rfl rfl rfl) ?_
 refine G.as ?_
 refine G.nil ?_
 refine EN.ts ?_
 have e : (if (0 : Int) < (if (s.length : Int) < k then (s.length : Int) else k) then (if (s.length : Int) < k then (s.length : Int) else k) else 0) = ((min k s.length : Nat) : Int) := by split <;> split <;> omega
 rw [e]
 refine CG.reg ?_
 refine G.mv ?_
 refine G.mv ?_
 refine G.mv ?_
 refine G.q rfl rfl rfl rfl (q_build rfl rfl (bu_127_0_1_4_F1 _ _ _)) ?_
 refine G.e rfl rfl rfl rfl (e_box rfl rfl) (fun _ _ _ _ _ _ => trivial) ?_
 rintro _ _ ⟨b14, rfl, rfl⟩
 refine G.as ?_
 refine G.nil ?_
 refine EN.sub (sC 4 Sub.nil) ?_
 refine EN.then ?_
 refine CG.ret ?_
 exact fin_ret1 rfl rfl tK sF (⟨b14, rfl, rfl⟩) _ (.inl rfl)

set_option maxRecDepth 100000 in
set_option maxHeartbeats 1000000 in
theorem rbytes_spec (b : Nat) (r : RD) (n : Nat) (hr : r.Ok) (hn : n ≤ 140737488351232) : Spec Tryd.prog 87 #[.pointer (some ⟨b, 0, none⟩), .int .i64 n] [RdAt b r] (Ret fun v hl => v = .tuple #[str (r.bytes n).2.1, .bool (r.bytes n).2.2] ∧ hl = [RdAt b (r.bytes n).1]) := by
 refine Spec.enter Tryd.func87 rfl rfl rfl (fun F w0 => ?_)
 dsimp only [argL, List.cons_append, List.nil_append]
 refine CG.sr ?_
 refine G.as ?_
 refine G.as ?_
 refine G.nil ?_
 refine EN.tsr ?_
 refine G.mv ?_
 refine G.call (xs := [_]) rfl rfl (ralign_spec b r hr) bd_96_F1 rfl rfl rfl rfl tK (fun _ _ _ _ _ _ => trivial) ?_
 rintro _ _ ⟨rfl, rfl⟩
 try dsimp only [List.cons_append, List.nil_append]
 refine G.nil ?_
 refine EN.ts ?_
 have hf := RD.from_le hr
 have hr3 := hr.len
 have ha := RD.align_ok hr
 have ha1 := ha.begun
 have ha2 := ha.hav
 have ha3 := ha.pos
 have ha4 := ha.len
 have hls : r.align.s = r.s := rfl
 unfold RdAt
 refine CG.regT [] mixed (by kernel_rfl) ?_
 refine G.mv ?_
 first | refine G.np ?_ | refine G.q rfl rfl rfl rfl (q_nil_f rfl rfl) ?_
 first | refine G.q rfl rfl rfl rfl (q_field0 rfl rfl fo_127_1_F1) ?_ | refine G.q rfl rfl rfl rfl (q_field rfl rfl fo_127_1_F1) ?_
 refine G.ld ag_3_F1 ?_
 refine G.mv ?_
 first | refine G.np ?_ | refine G.q rfl rfl rfl rfl (q_nil_f rfl rfl) ?_
 first | refine G.q rfl rfl rfl rfl (q_field0 rfl rfl fo_127_3_F1) ?_ | refine G.q rfl rfl rfl rfl (q_field rfl rfl fo_127_3_F1) ?_
 refine G.ld ag_3_F1 ?_
 first | refine G.q rfl rfl rfl rfl (q_quo_i rfl rfl rfl oM) ?_ | refine G.q rfl rfl rfl rfl (q_quo rfl rfl rfl oM) ?_
 first | refine G.q rfl rfl rfl rfl (q_sub_i rfl rfl rfl oM) ?_ | refine G.q rfl rfl rfl rfl (q_sub rfl rfl rfl) ?_
 refine G.as ?_
 refine G.nil ?_
 refine EN.sub (sC 0 (sC 1 (sC 4 (sC 5 (sC 6 Sub.nil))))) ?_
 refine EN.ts ?_
 refine CG.seq ?_
 have e : ((r.align.pos : Int) - r.align.hav / 8) = (r.from_ : Int) := by unfold RD.from_; omega
 rw [e, hls]
 refine CG.reg ?_
 refine G.mv ?_
 refine G.q rfl rfl rfl rfl (q_lss rfl rfl rfl) ?_
 refine G.mv ?_
 refine G.split (t := 21) rfl (fun g21 => absurd g21 oM) (fun g21 => ?_)
 refine G.mv ?_
 refine G.mv ?_
 first | refine G.np ?_ | refine G.q rfl rfl rfl rfl (q_nil_f rfl rfl) ?_
 first | refine G.q rfl rfl rfl rfl (q_field0 rfl rfl fo_127_0_F1) ?_ | refine G.q rfl rfl rfl rfl (q_field rfl rfl fo_127_0_F1) ?_
 refine G.ld ag_9_F1 ?_
 refine G.q rfl rfl rfl rfl (q_len_str rfl rfl us_9_F1) ?_
 refine G.mv ?_
 first | refine G.q rfl rfl rfl rfl (q_sub_i rfl rfl rfl oM) ?_ | refine G.q rfl rfl rfl rfl (q_sub rfl rfl rfl) ?_
 refine G.q rfl rfl rfl rfl (q_gtr rfl rfl rfl) ?_
 refine G.q rfl rfl rfl rfl (q_pick_f rfl rfl rfl) ?_
 refine G.nil ?_
 refine EN.sub (sC 0 (sC 1 (sC 4 (sC 5 (sC 6 (sC 31 Sub.nil)))))) ?_
 refine EN.then ?_
 refine CG.cond rfl (fun h31 => ?_) (fun h31 => ?_)
 ·
  rw [show r.bytes n = (r.align, [], false) from if_pos oM]
  refine CG.sr ?_
  refine G.as ?_
  refine G.as ?_
  refine G.nil ?_
  refine EN.then ?_
  refine CG.ret ?_
  refine EN.then_ret ?_
  exact fin_ret2 rfl rfl rfl tK sF (⟨rfl, rfl⟩) _ (.inl rfl)
 ·
  rw [show r.bytes n = ({ r.align with pos := r.from_ + n, hold := 0, hav := 0 }, (r.s.take (r.from_ + n)).drop r.from_, true) from if_neg oM]
  refine CG.skip ?_
  refine EN.tsr ?_
  refine G.mv ?_
  refine G.mv ?_
  refine G.mv ?_
  refine G.mv ?_
  refine G.mv ?_
  first | refine G.q rfl rfl rfl rfl (q_add_i rfl rfl rfl oM) ?_ | refine G.q rfl rfl rfl rfl (q_add rfl rfl rfl) ?_
  first | refine G.np ?_ | refine G.q rfl rfl rfl rfl (q_nil_f rfl rfl) ?_
  first | refine G.q rfl rfl rfl rfl (q_field0 rfl rfl fo_127_1_F1) ?_ | refine G.q rfl rfl rfl rfl (q_field rfl rfl fo_127_1_F1) ?_
  refine G.st0 sz_3_F1 ?_
  first | refine G.np ?_ | refine G.q rfl rfl rfl rfl (q_nil_f rfl rfl) ?_
  first | refine G.q rfl rfl rfl rfl (q_field0 rfl rfl fo_127_2_F1) ?_ | refine G.q rfl rfl rfl rfl (q_field rfl rfl fo_127_2_F1) ?_
  refine G.st0 sz_51_F1 ?_
  first | refine G.np ?_ | refine G.q rfl rfl rfl rfl (q_nil_f rfl rfl) ?_
  first | refine G.q rfl rfl rfl rfl (q_field0 rfl rfl fo_127_3_F1) ?_ | refine G.q rfl rfl rfl rfl (q_field rfl rfl fo_127_3_F1) ?_
  refine G.st0 sz_3_F1 ?_
  refine G.nil ?_
  refine EN.sub (sC 0 (sC 1 (sC 4 (sC 5 (sC 6 Sub.nil))))) ?_
  refine EN.ts ?_
  have e3 : ((r.from_ : Int) + n) = ((r.from_ + n : Nat) : Int) := by omega
  rw [e3]
  refine CG.reg ?_
  refine G.mv ?_
  first | refine G.np ?_ | refine G.q rfl rfl rfl rfl (q_nil_f rfl rfl) ?_
  first | refine G.q rfl rfl rfl rfl (q_field0 rfl rfl fo_127_0_F1) ?_ | refine G.q rfl rfl rfl rfl (q_field rfl rfl fo_127_0_F1) ?_
  refine G.ld ag_9_F1 ?_
  refine G.mv ?_
  refine G.mv ?_
  refine G.mv ?_
  first | refine G.q rfl rfl rfl rfl (q_add_i rfl rfl rfl oM) ?_ | refine G.q rfl rfl rfl rfl (q_add rfl rfl rfl) ?_
  rw [e3]
  refine G.q rfl rfl rfl rfl (q_slice_lh rfl rfl rfl rfl us_9_F1 oM) ?_
  refine G.as ?_
  refine G.as ?_
  refine G.nil ?_
  refine EN.sub (sC 4 (sC 5 Sub.nil)) ?_
  refine EN.then ?_
  refine CG.ret ?_
  exact fin_ret2 rfl rfl rfl tK sF (⟨rfl, rfl⟩) _ (.inl rfl)

end Go.Eng
/-
  The writer of bits (bitin): each function's contract.
-/
set_option linter.unusedVariables false
set_option linter.unusedSimpArgs false
namespace Go.Eng
open Go.Proofs
theorem ag_39_F2 : aggB Tryd.prog 39 = some false := by kernel_rfl
theorem ag_3_F2 : aggB Tryd.prog 3 = some false := by kernel_rfl
theorem ag_51_F2 : aggB Tryd.prog 51 = some false := by kernel_rfl
theorem bT_39_9_F2 : bytesT Tryd.prog 39 9 = some 5 := by kernel_rfl
theorem bd_53_F2 : bodied Tryd.prog 53 = true := by kernel_rfl
theorem bd_83_F2 : bodied Tryd.prog 83 = true := by kernel_rfl
theorem bs_39_1_all_F2 : ∀ (x0 : Int) (w : World), (Instr.buildSlice 39 1 [(0, .int .u8 x0)].toArray).run Tryd.prog w = .ok (.slice (some ⟨w.heap.size, 0, none⟩) 1 1) { w with heap := w.heap.push (.cells [.int .u8 x0].toArray 5) } := fun _ _ => by kernel_rfl
theorem fo_93_0_F2 : fieldOff Tryd.prog 93 0 = some 0 := by kernel_rfl
theorem fo_93_1_F2 : fieldOff Tryd.prog 93 1 = some 1 := by kernel_rfl
theorem fo_93_2_F2 : fieldOff Tryd.prog 93 2 = some 2 := by kernel_rfl
theorem ik_51_F2 : intK Tryd.prog 51 = some .u64 := by kernel_rfl
theorem ik_5_F2 : intK Tryd.prog 5 = some .u8 := by kernel_rfl
theorem is_32_F2 : (Tryd.prog.underlying 32).isSome = true := by kernel_rfl
theorem is_51_F2 : (Tryd.prog.underlying 51).isSome = true := by kernel_rfl
theorem nf_5_F2 : infoB Tryd.prog 5 = some (some [.int .u8 0], 1, 1) := by kernel_rfl
theorem se_39_F2 : sliceE Tryd.prog 39 = some 5 := by kernel_rfl
theorem sz_39_F2 : sizeB Tryd.prog 39 = some 1 := by kernel_rfl
theorem sz_3_F2 : sizeB Tryd.prog 3 = some 1 := by kernel_rfl
theorem sz_51_F2 : sizeB Tryd.prog 51 = some 1 := by kernel_rfl
theorem us_9_F2 : Tryd.prog.underlying 9 = some .string := by kernel_rfl

def WrP (b : Nat) (W : WR) (v : Value) : List HP := [cel b 93 [v, .int .u64 W.hold, .int .i64 W.hav], own 5 1 v W.out.length (W.out.map u8v)]
def WrAt (b : Nat) (W : WR) : HP := exS (WrP b W)

set_option maxRecDepth 100000 in
set_option maxHeartbeats 1000000 in
theorem wbits_spec (b : Nat) (W : WR) (x n : Nat) (hW : W.Ok) (hx : x < 2 ^ 32) (hn : n ≤ 32) (hlen : W.out.length ≤ 1000000000) : Spec Tryd.prog 53 #[.pointer (some ⟨b, 0, none⟩), .int .u32 x, .int .i64 n] [WrAt b W] (Ret fun v hl => v = .tuple #[] ∧ hl = [WrAt b (W.put x n)]) := by
 refine Spec.enter Tryd.func53 rfl rfl rfl (fun F w0 => ?_)
 dsimp only [argL, List.cons_append, List.nil_append]
 refine CG.seq ?_
 refine CG.sr ?_
 refine G.mv ?_
 refine G.q rfl rfl rfl rfl (q_lss rfl rfl rfl) ?_
 refine G.mv ?_
 refine G.split (t := 8) rfl (fun g8 => absurd g8 oM) (fun g8 => ?_)
 refine G.mv ?_
 refine G.q rfl rfl rfl rfl (q_gtr rfl rfl rfl) ?_
 refine G.q rfl rfl rfl rfl (q_pick_f rfl rfl rfl) ?_
 refine G.nil ?_
 refine EN.then ?_
 refine CG.cond rfl (fun h11 => absurd h11 oM) (fun h11 => ?_)
 refine CG.skip ?_
 refine EN.ts ?_
 refine CG.openS (WrP b W) tK1 (fun v => ?_)
 unfold WrP
 dsimp only [List.cons_append, List.nil_append]
 have hW1 := hW.hav
 have hput := WR.put_len W x n
 refine CG.regT [17] mixed (by kernel_rfl) ?_
 refine G.mv ?_
 first | refine G.np ?_ | refine G.q rfl rfl rfl rfl (q_nil_f rfl rfl) ?_
 first | refine G.q rfl rfl rfl rfl (q_field0 rfl rfl fo_93_1_F2) ?_ | refine G.q rfl rfl rfl rfl (q_field rfl rfl fo_93_1_F2) ?_
 refine G.ld ag_51_F2 ?_
 refine G.mv ?_
 first | refine G.q rfl rfl rfl rfl (q_conv_in rfl rfl is_32_F2 ik_51_F2 (wrapu_in (b := 64) rfl rfl oM)) ?_ | refine G.q rfl rfl rfl rfl (q_conv rfl rfl is_32_F2 ik_51_F2) ?_
 refine G.mv ?_
 refine G.q rfl rfl rfl rfl (q_shl rfl rfl rfl oM) ?_
 refine G.q rfl rfl rfl rfl (q_sub rfl rfl rfl) ?_
 refine G.q rfl rfl rfl rfl (q_and rfl rfl rfl) ?_
 refine G.mv ?_
 first | refine G.np ?_ | refine G.q rfl rfl rfl rfl (q_nil_f rfl rfl) ?_
 first | refine G.q rfl rfl rfl rfl (q_field0 rfl rfl fo_93_2_F2) ?_ | refine G.q rfl rfl rfl rfl (q_field rfl rfl fo_93_2_F2) ?_
 refine G.ld ag_3_F2 ?_
 refine G.q rfl rfl rfl rfl (q_shl rfl rfl rfl oM) ?_
 refine G.q rfl rfl rfl rfl (q_or rfl rfl rfl) ?_
 first | refine G.np ?_ | refine G.q rfl rfl rfl rfl (q_nil_f rfl rfl) ?_
 first | refine G.q rfl rfl rfl rfl (q_field0 rfl rfl fo_93_1_F2) ?_ | refine G.q rfl rfl rfl rfl (q_field rfl rfl fo_93_1_F2) ?_
 refine G.st0 sz_51_F2 ?_
 refine G.nil ?_
 refine EN.sub (sC 0 (sC 2 Sub.nil)) ?_
 refine EN.ts ?_
 rw [WR.put_val hx hn hW.hav hW.hold]
 refine CG.reg ?_
 refine G.mv ?_
 first | refine G.np ?_ | refine G.q rfl rfl rfl rfl (q_nil_f rfl rfl) ?_
 first | refine G.q rfl rfl rfl rfl (q_field0 rfl rfl fo_93_2_F2) ?_ | refine G.q rfl rfl rfl rfl (q_field rfl rfl fo_93_2_F2) ?_
 refine G.ld ag_3_F2 ?_
 refine G.mv ?_
 first | refine G.q rfl rfl rfl rfl (q_add_i rfl rfl rfl oM) ?_ | refine G.q rfl rfl rfl rfl (q_add rfl rfl rfl) ?_
 first | refine G.np ?_ | refine G.q rfl rfl rfl rfl (q_nil_f rfl rfl) ?_
 first | refine G.q rfl rfl rfl rfl (q_field0 rfl rfl fo_93_2_F2) ?_ | refine G.q rfl rfl rfl rfl (q_field rfl rfl fo_93_2_F2) ?_
 refine G.st0 sz_3_F2 ?_
 refine G.nil ?_
 refine EN.sub (sC 0 Sub.nil) ?_
 refine EN.then ?_
 refine CG.block ?_
 refine CG.loopI (fun m L H => ∃ (q : WR) (v : Value), q.hold < 2 ^ q.hav ∧ q.flush = W.put x n ∧ q.hav ≤ 39 ∧ 8 * q.out.length + q.hav ≤ 8000000100 ∧ m = q.hav ∧ L = [(0, .pointer (some ⟨b, 0, none⟩))] ∧ H = WrP b q v ++ F) (W.hav + n) (hl := [_, _]) (⟨⟨W.out, W.hold ||| ((x % 2 ^ n) <<< W.hav), W.hav + n⟩, v, WR.put_hold hW x n, rfl, by simp; omega, by simp; omega, rfl, rfl, rfl⟩) sB rfl tK sF ?_
 rintro m L H ⟨q, v, hq, hfl, hq1, hq2, rfl, rfl, rfl⟩
 unfold WrP
 dsimp only [List.cons_append, List.nil_append]
 refine CG.seq ?_
 refine CG.sr ?_
 refine G.mv ?_
 first | refine G.np ?_ | refine G.q rfl rfl rfl rfl (q_nil_f rfl rfl) ?_
 first | refine G.q rfl rfl rfl rfl (q_field0 rfl rfl fo_93_2_F2) ?_ | refine G.q rfl rfl rfl rfl (q_field rfl rfl fo_93_2_F2) ?_
 refine G.ld ag_3_F2 ?_
 refine G.q rfl rfl rfl rfl (q_geq rfl rfl rfl) ?_
 refine G.nil ?_
 refine EN.then ?_
 refine CG.cond rfl (fun h42 => ?_) (fun h42 => ?_)
 ·
  have h8 : 8 ≤ q.hav := by omega
  have hq3 : WR.flush ⟨q.out ++ [UInt8.ofNat q.hold], q.hold >>> 8, q.hav - 8⟩ = W.put x n := by rw [← hfl, WR.flush.eq_1 q, dif_pos h8]
  have hq2b : q.hold >>> 8 < 2 ^ (q.hav - 8) := by
    rw [Nat.shiftRight_eq_div_pow, Nat.div_lt_iff_lt_mul (Nat.pow_pos oM), ← Nat.pow_add, show q.hav - 8 + 8 = q.hav by omega]; exact hq
  have e := shr_nat (k := .u64) (a := q.hold) (c := 8) (by decide)
  rw [show ((8 : Nat) : Int) = 8 from rfl] at e
  have e2 : ((q.hav : Int) - 8) = ((q.hav - 8 : Nat) : Int) := by omega
  refine CG.skip ?_
  refine EN.then ?_
  refine CG.block ?_
  refine CG.seq ?_
  refine CG.regZ [52, 47] (CellIs b 0 v) mixed (by kernel_rfl) (fun w hw => CellIs.of hw mB rfl) ?_
  refine G.mv ?_
  refine G.mv ?_
  first | refine G.np ?_ | refine G.q rfl rfl rfl rfl (q_nil_f rfl rfl) ?_
  first | refine G.q rfl rfl rfl rfl (q_field0 rfl rfl fo_93_0_F2) ?_ | refine G.q rfl rfl rfl rfl (q_field rfl rfl fo_93_0_F2) ?_
  refine G.loadC rfl rfl rfl rfl rfl rfl rfl ag_39_F2 (fun w h => h) ?_
  refine G.mv ?_
  first | refine G.np ?_ | refine G.q rfl rfl rfl rfl (q_nil_f rfl rfl) ?_
  first | refine G.q rfl rfl rfl rfl (q_field0 rfl rfl fo_93_1_F2) ?_ | refine G.q rfl rfl rfl rfl (q_field rfl rfl fo_93_1_F2) ?_
  refine G.ld ag_51_F2 ?_
  first | refine G.q rfl rfl rfl rfl (q_conv_in rfl rfl is_51_F2 ik_5_F2 (wrapu_in (b := 8) rfl rfl oM)) ?_ | refine G.q rfl rfl rfl rfl (q_conv rfl rfl is_51_F2 ik_5_F2) ?_
  refine G.e rfl rfl rfl rfl (e_bslice rfl rfl (bs_39_1_all_F2 _)) (fun _ _ _ w hR hw => by obtain ⟨_, _, rfl⟩ := hR; exact CellIs.of hw mB rfl) ?_
  rintro _ _ ⟨b53, rfl, rfl⟩
  refine G.e rfl rfl rfl rfl (e_append rfl rfl rfl se_39_F2 nf_5_F2 rfl tK1 mB (by rfl) (by simp [Value.oneCell', str]) oM) (fun _ _ _ w hR hw => by subst hR; exact CellIs.of hw mB rfl) ?_
  rintro _ _ rfl
  rw [own_snoc]
  refine G.ownShape tK1 ?_
  rintro ad c' rfl
  first | refine G.np ?_ | refine G.q rfl rfl rfl rfl (q_nil_f rfl rfl) ?_
  first | refine G.q rfl rfl rfl rfl (q_field0 rfl rfl fo_93_0_F2) ?_ | refine G.q rfl rfl rfl rfl (q_field rfl rfl fo_93_0_F2) ?_
  first | refine G.z0 rfl rfl rfl (e_store rfl rfl rfl sz_39_F2 rfl sA .here) ?_ rfl | refine G.z0 rfl rfl rfl (e_store rfl rfl rfl sz_39_F2 rfl sA (.there .here)) ?_ rfl | refine G.z0 rfl rfl rfl (e_store rfl rfl rfl sz_39_F2 rfl sA (.there (.there .here))) ?_ rfl | refine G.z0 rfl rfl rfl (e_store rfl rfl rfl sz_39_F2 rfl sA (.there (.there (.there .here)))) ?_ rfl | refine G.z0 rfl rfl rfl (e_store rfl rfl rfl sz_39_F2 rfl sA (.there (.there (.there (.there .here))))) ?_ rfl
  rintro _ _ ⟨rfl, rfl⟩
  refine G.nil ?_
  refine EN.sub (sC 0 Sub.nil) ?_
  refine EN.tsr ?_
  refine G.mv ?_
  first | refine G.np ?_ | refine G.q rfl rfl rfl rfl (q_nil_f rfl rfl) ?_
  first | refine G.q rfl rfl rfl rfl (q_field0 rfl rfl fo_93_1_F2) ?_ | refine G.q rfl rfl rfl rfl (q_field rfl rfl fo_93_1_F2) ?_
  refine G.ld ag_51_F2 ?_
  refine G.q rfl rfl rfl rfl (q_shr rfl rfl rfl oM) ?_
  first | refine G.np ?_ | refine G.q rfl rfl rfl rfl (q_nil_f rfl rfl) ?_
  first | refine G.q rfl rfl rfl rfl (q_field0 rfl rfl fo_93_1_F2) ?_ | refine G.q rfl rfl rfl rfl (q_field rfl rfl fo_93_1_F2) ?_
  refine G.st0 sz_51_F2 ?_
  refine G.nil ?_
  refine EN.then ?_
  rw [e]
  refine CG.reg ?_
  refine G.mv ?_
  first | refine G.np ?_ | refine G.q rfl rfl rfl rfl (q_nil_f rfl rfl) ?_
  first | refine G.q rfl rfl rfl rfl (q_field0 rfl rfl fo_93_2_F2) ?_ | refine G.q rfl rfl rfl rfl (q_field rfl rfl fo_93_2_F2) ?_
  refine G.ld ag_3_F2 ?_
  first | refine G.q rfl rfl rfl rfl (q_sub_i rfl rfl rfl oM) ?_ | refine G.q rfl rfl rfl rfl (q_sub rfl rfl rfl) ?_
  first | refine G.np ?_ | refine G.q rfl rfl rfl rfl (q_nil_f rfl rfl) ?_
  first | refine G.q rfl rfl rfl rfl (q_field0 rfl rfl fo_93_2_F2) ?_ | refine G.q rfl rfl rfl rfl (q_field rfl rfl fo_93_2_F2) ?_
  refine G.st0 sz_3_F2 ?_
  refine G.nil ?_
  refine EN.sub (sC 0 Sub.nil) ?_
  refine EN.in_normal ?_
  rw [e2]
  exact EN.round (hl := [_, _]) (q.hav - 8) oM (⟨⟨q.out ++ [UInt8.ofNat q.hold], q.hold >>> 8, q.hav - 8⟩, _, hq2b, hq3, by simp; omega, by simp; omega, rfl, rfl, rfl⟩) sB rfl tK sF
 ·
  refine CG.exit ?_
  refine EN.then_exit ?_
  refine EN.then_exit ?_
  refine EN.in_here ?_
  rw [← hfl, WR.flush.eq_1 q, dif_neg oM]
  refine EN.closeS (WrP b q) v tK ?_
  exact fin_ret0 rfl tK sF (⟨rfl, rfl⟩) _ (.inr rfl)

set_option maxRecDepth 100000 in
set_option maxHeartbeats 1000000 in
theorem wcode_spec (b : Nat) (W : WR) (x n : Nat) (hW : W.Ok) (hx : x < 2 ^ 32) (hn : n ≤ 32) (hlen : W.out.length ≤ 900000000) : Spec Tryd.prog 55 #[.pointer (some ⟨b, 0, none⟩), .int .u32 x, .int .i64 n] [WrAt b W] (Ret fun v hl => v = .tuple #[] ∧ hl = [WrAt b (W.code x n)]) := by
 refine Spec.enter Tryd.func55 rfl rfl rfl (fun F w0 => ?_)
 dsimp only [argL, List.cons_append, List.nil_append]
 refine CG.seq ?_
 refine CG.sr ?_
 refine G.mv ?_
 refine G.q rfl rfl rfl rfl (q_lss rfl rfl rfl) ?_
 refine G.mv ?_
 refine G.split (t := 9) rfl (fun g9 => ?_) (fun g9 => ?_)
 ·
  have h0 : n = 0 := by omega
  subst h0
  refine G.skip rfl rfl rfl ?_
  refine G.skip rfl rfl rfl ?_
  refine G.q rfl rfl rfl rfl (q_pick_t rfl rfl rfl) ?_
  refine G.nil ?_
  refine EN.then ?_
  refine CG.cond_t rfl ?_
  refine CG.ret ?_
  refine EN.then_ret ?_
  first | rw [← hcode] | skip
  exact fin_ret0 rfl tK sF (⟨rfl, rfl⟩) _ (.inl rfl)
 ·
  have h0 : 1 ≤ n := by omega
  refine G.mv ?_
  refine G.q rfl rfl rfl rfl (q_gtr rfl rfl rfl) ?_
  refine G.q rfl rfl rfl rfl (q_pick_f rfl rfl rfl) ?_
  refine G.nil ?_
  refine EN.then ?_
  refine CG.cond rfl (fun h12 => absurd h12 oM) (fun h12 => ?_)
  refine CG.skip ?_
  refine EN.tsr ?_
  refine G.mv ?_
  first | refine G.q rfl rfl rfl rfl (q_sub_i rfl rfl rfl oM) ?_ | refine G.q rfl rfl rfl rfl (q_sub rfl rfl rfl) ?_
  refine G.as ?_
  refine G.nil ?_
  refine EN.sub (sC 0 (sC 1 (sC 6 Sub.nil))) ?_
  refine EN.then ?_
  refine CG.block ?_
  have e1 : ((n : Int) - 1) = ((n : Int) - 1) := rfl
  refine CG.loopI (fun m L H => ∃ (q : WR), q.Ok ∧ q.code x m = W.code x n ∧ m ≤ 32 ∧ 8 * q.out.length + q.hav ≤ 7200000100 + 8 * (32 - m) ∧ L = [(0, .pointer (some ⟨b, 0, none⟩)), (1, .int .u32 x), (6, .int .i64 ((m : Int) - 1))] ∧ H = [WrAt b q] ++ F) (n) (hl := [_]) (⟨W, hW, rfl, hn, by have := hW.hav; omega, rfl, rfl⟩) sB rfl tK sF ?_
  rintro m L H ⟨q, hq, hcode, hm, hql, rfl, rfl⟩
  dsimp only [List.cons_append, List.nil_append]
  refine CG.seq ?_
  refine CG.sr ?_
  refine G.mv ?_
  refine G.q rfl rfl rfl rfl (q_geq rfl rfl rfl) ?_
  refine G.nil ?_
  refine EN.then ?_
  refine CG.cond rfl (fun h16 => ?_) (fun h16 => ?_)
  ·
   obtain ⟨k, rfl⟩ : ∃ k, m = k + 1 := ⟨m - 1, by omega⟩
   have e3 : (((k + 1 : Nat) : Int) - 1 - 1) = ((k : Int) - 1) := by omega
   have e4 : (((k + 1 : Nat) : Int) - 1) = (k : Int) := by omega
   have e5 := shr_nat (k := .u32) (a := x) (c := k) (by simp [IntKind.bits]; omega)
   have hsx : x >>> k < 2 ^ 32 := Nat.lt_of_le_of_lt (by rw [Nat.shiftRight_eq_div_pow]; exact Nat.div_le_self _ _) hx
   refine CG.skip ?_
   refine EN.ts ?_
   refine CG.block ?_
   rw [e4]
   refine CG.reg ?_
   refine G.mv ?_
   refine G.mv ?_
   refine G.mv ?_
   refine G.q rfl rfl rfl rfl (q_shr rfl rfl rfl oM) ?_
   rw [e5]
   refine G.call (xs := [_, _, _]) rfl rfl (wbits_spec b q (x >>> k) 1 hq hsx oM oM) bd_53_F2 rfl rfl rfl rfl tK (fun _ _ _ _ _ _ => trivial) ?_
   rintro _ _ ⟨rfl, rfl⟩
   try dsimp only [List.cons_append, List.nil_append]
   refine G.nil ?_
   refine EN.in_normal ?_
   refine EN.then ?_
   rw [← e4]
   refine CG.reg ?_
   refine G.mv ?_
   first | refine G.q rfl rfl rfl rfl (q_sub_i rfl rfl rfl oM) ?_ | refine G.q rfl rfl rfl rfl (q_sub rfl rfl rfl) ?_
   refine G.as ?_
   refine G.nil ?_
   rw [e3]
   exact EN.round (hl := [_]) (k) oM (⟨q.put (x >>> k) 1, WR.put_ok hq _ _, hcode, by omega, by have := WR.put_len q (x >>> k) 1; omega, rfl, rfl⟩) sB rfl tK sF
  ·
   have h0 : m = 0 := by omega
   subst h0
   refine CG.exit ?_
   refine EN.then_exit ?_
   refine EN.then_exit ?_
   refine EN.in_here ?_
   first | rw [← hcode] | skip
   exact fin_ret0 rfl tK sF (⟨rfl, rfl⟩) _ (.inr rfl)

set_option maxRecDepth 100000 in
set_option maxHeartbeats 1000000 in
theorem walign_spec (b : Nat) (W : WR) (hW : W.Ok) (hlen : W.out.length ≤ 1000000000) : Spec Tryd.prog 83 #[.pointer (some ⟨b, 0, none⟩)] [WrAt b W] (Ret fun v hl => v = .tuple #[] ∧ hl = [WrAt b W.align]) := by
 refine Spec.enter Tryd.func83 rfl rfl rfl (fun F w0 => ?_)
 dsimp only [argL, List.cons_append, List.nil_append]
 refine CG.seq ?_
 refine CG.openS (WrP b W) tK1 (fun v => ?_)
 unfold WrP
 dsimp only [List.cons_append, List.nil_append]
 have hW1 := hW.hav
 refine CG.reg ?_
 refine G.mv ?_
 first | refine G.np ?_ | refine G.q rfl rfl rfl rfl (q_nil_f rfl rfl) ?_
 first | refine G.q rfl rfl rfl rfl (q_field0 rfl rfl fo_93_2_F2) ?_ | refine G.q rfl rfl rfl rfl (q_field rfl rfl fo_93_2_F2) ?_
 refine G.ld ag_3_F2 ?_
 refine G.q rfl rfl rfl rfl (q_gtr rfl rfl rfl) ?_
 refine G.nil ?_
 refine EN.then ?_
 refine CG.cond rfl (fun h6 => ?_) (fun h6 => ?_)
 ·
  have e : ((8 : Int) - W.hav) = ((8 - W.hav : Nat) : Int) := by omega
  refine CG.reg ?_
  refine G.mv ?_
  refine G.mv ?_
  first | refine G.np ?_ | refine G.q rfl rfl rfl rfl (q_nil_f rfl rfl) ?_
  first | refine G.q rfl rfl rfl rfl (q_field0 rfl rfl fo_93_2_F2) ?_ | refine G.q rfl rfl rfl rfl (q_field rfl rfl fo_93_2_F2) ?_
  refine G.ld ag_3_F2 ?_
  first | refine G.q rfl rfl rfl rfl (q_sub_i rfl rfl rfl oM) ?_ | refine G.q rfl rfl rfl rfl (q_sub rfl rfl rfl) ?_
  rw [e]
  refine G.closeS (WrP b W) v tK ?_
  refine G.call (xs := [_, _, _]) rfl rfl (wbits_spec b W 0 (8 - W.hav) hW oM oM hlen) bd_53_F2 rfl rfl rfl rfl tK (fun _ _ _ _ _ _ => trivial) ?_
  rintro _ _ ⟨rfl, rfl⟩
  try dsimp only [List.cons_append, List.nil_append]
  refine G.nil ?_
  refine EN.sub Sub.nil ?_
  first | rw [show W.align = W.put 0 (8 - W.hav) from if_pos oM] | rw [show W.align = W from if_neg oM]
  exact fin_ret0 rfl tK sF (⟨rfl, rfl⟩) _ (.inr rfl)
 ·
  refine CG.closeS (WrP b W) v tK ?_
  refine CG.skip ?_
  first | rw [show W.align = W.put 0 (8 - W.hav) from if_pos oM] | rw [show W.align = W from if_neg oM]
  exact fin_ret0 rfl tK sF (⟨rfl, rfl⟩) _ (.inr rfl)

set_option maxRecDepth 100000 in
set_option maxHeartbeats 1000000 in
theorem wbytes_spec (b : Nat) (W : WR) (s : List UInt8) (hW : W.Ok) (hlen : W.out.length ≤ 1000000000) (hs : s.length ≤ 1000000000) : Spec Tryd.prog 72 #[.pointer (some ⟨b, 0, none⟩), str s] [WrAt b W] (Ret fun v hl => v = .tuple #[] ∧ hl = [WrAt b (W.bytes s)]) := by
 refine Spec.enter Tryd.func72 rfl rfl rfl (fun F w0 => ?_)
 dsimp only [argL, List.cons_append, List.nil_append]
 refine CG.sr ?_
 refine G.mv ?_
 refine G.call (xs := [_]) rfl rfl (walign_spec b W hW hlen) bd_83_F2 rfl rfl rfl rfl tK (fun _ _ _ _ _ _ => trivial) ?_
 rintro _ _ ⟨rfl, rfl⟩
 try dsimp only [List.cons_append, List.nil_append]
 refine G.nil ?_
 refine EN.then ?_
 have hal := WR.align_len hW
 refine CG.openS (WrP b W.align) tK1 (fun v => ?_)
 unfold WrP
 dsimp only [List.cons_append, List.nil_append]
 refine CG.reg ?_
 refine G.mv ?_
 refine G.mv ?_
 first | refine G.np ?_ | refine G.q rfl rfl rfl rfl (q_nil_f rfl rfl) ?_
 first | refine G.q rfl rfl rfl rfl (q_field0 rfl rfl fo_93_0_F2) ?_ | refine G.q rfl rfl rfl rfl (q_field rfl rfl fo_93_0_F2) ?_
 refine G.ld ag_39_F2 ?_
 refine G.mv ?_
 refine G.e rfl rfl rfl rfl (e_append_str rfl rfl rfl se_39_F2 us_9_F2 nf_5_F2 tK1 oM) (fun _ _ _ _ _ _ => trivial) ?_
 rintro _ _ rfl
 rw [own_app]
 refine G.ownShape tK1 ?_
 rintro ad c' rfl
 first | refine G.np ?_ | refine G.q rfl rfl rfl rfl (q_nil_f rfl rfl) ?_
 first | refine G.q rfl rfl rfl rfl (q_field0 rfl rfl fo_93_0_F2) ?_ | refine G.q rfl rfl rfl rfl (q_field rfl rfl fo_93_0_F2) ?_
 refine G.st0 sz_39_F2 ?_
 refine G.nil ?_
 refine EN.sub Sub.nil ?_
 refine EN.closeS (WrP b (W.bytes s)) _ tK ?_
 exact fin_ret0 rfl tK sF (⟨rfl, rfl⟩) _ (.inr rfl)

set_option maxRecDepth 100000 in
set_option maxHeartbeats 1000000 in
theorem wtext_spec (b : Nat) (W : WR) (hW : W.Ok) (hlen : W.out.length ≤ 1000000000) : Spec Tryd.prog 59 #[.pointer (some ⟨b, 0, none⟩)] [WrAt b W] (Ret fun v hl => v = str W.text ∧ hl = [WrAt b W]) := by
 refine Spec.enter Tryd.func59 rfl rfl rfl (fun F w0 => ?_)
 dsimp only [argL, List.cons_append, List.nil_append]
 refine CG.seq ?_
 refine CG.openS (WrP b W) tK1 (fun v => ?_)
 unfold WrP
 dsimp only [List.cons_append, List.nil_append]
 have hW1 := hW.hav
 refine CG.reg ?_
 refine G.as ?_
 refine G.nil ?_
 refine EN.ts ?_
 refine CG.sr ?_
 refine G.mv ?_
 first | refine G.np ?_ | refine G.q rfl rfl rfl rfl (q_nil_f rfl rfl) ?_
 first | refine G.q rfl rfl rfl rfl (q_field0 rfl rfl fo_93_2_F2) ?_ | refine G.q rfl rfl rfl rfl (q_field rfl rfl fo_93_2_F2) ?_
 refine G.ld ag_3_F2 ?_
 refine G.q rfl rfl rfl rfl (q_gtr rfl rfl rfl) ?_
 refine G.nil ?_
 refine EN.then ?_
 refine CG.cond rfl (fun h7 => ?_) (fun h7 => ?_)
 ·
  refine CG.seq ?_
  refine CG.regC [17, 11, 12] (fun w => CellIs b 0 v w ∧ w.ownsRow 0 5 1 v W.out.length (W.out.map u8v)) mixed (by kernel_rfl) (fun w hw => ⟨CellIs.of hw mB rfl, WS.own hw mB⟩) ?_
  refine G.mv ?_
  first | refine G.np ?_ | refine G.q rfl rfl rfl rfl (q_nil_f rfl rfl) ?_
  first | refine G.q rfl rfl rfl rfl (q_field0 rfl rfl fo_93_0_F2) ?_ | refine G.q rfl rfl rfl rfl (q_field rfl rfl fo_93_0_F2) ?_
  refine G.loadC rfl rfl rfl rfl rfl rfl rfl ag_39_F2 (fun w h => h.1) ?_
  refine G.b2sC rfl rfl rfl rfl rfl rfl rfl bT_39_9_F2 (fun w h => h.2) ?_
  refine G.mv ?_
  first | refine G.np ?_ | refine G.q rfl rfl rfl rfl (q_nil_f rfl rfl) ?_
  first | refine G.q rfl rfl rfl rfl (q_field0 rfl rfl fo_93_1_F2) ?_ | refine G.q rfl rfl rfl rfl (q_field rfl rfl fo_93_1_F2) ?_
  refine G.ld ag_51_F2 ?_
  first | refine G.q rfl rfl rfl rfl (q_conv_in rfl rfl is_51_F2 ik_5_F2 (wrapu_in (b := 8) rfl rfl oM)) ?_ | refine G.q rfl rfl rfl rfl (q_conv rfl rfl is_51_F2 ik_5_F2) ?_
  refine G.e rfl rfl rfl rfl (e_bslice rfl rfl (bs_39_1_all_F2 _)) (fun _ _ _ w hR hw => by obtain ⟨_, _, rfl⟩ := hR; exact ⟨CellIs.of hw mB rfl, WS.own hw mB⟩) ?_
  rintro _ _ ⟨b18, rfl, rfl⟩
  rw [WR.u8v_ofNat]
  refine G.r rfl rfl rfl rfl (r_b2s_cel (l := [UInt8.ofNat W.hold]) rfl rfl bT_39_9_F2 mB) ?_
  refine G.q rfl rfl rfl rfl (q_add_s rfl rfl rfl (by simp; omega)) ?_
  refine G.as ?_
  refine G.nil ?_
  refine EN.sub (sC 0 (sC 2 Sub.nil)) ?_
  refine EN.then ?_
  refine CG.ret ?_
  refine EN.then_ret ?_
  first | rw [show W.text = W.out ++ [UInt8.ofNat W.hold] from if_pos oM] | rw [show W.text = W.out from if_neg oM]
  refine EN.closeS (WrP b W) v tK ?_
  exact fin_ret1 rfl rfl tK sF (⟨rfl, rfl⟩) _ (.inl rfl)
 ·
  refine CG.skip ?_
  refine EN.tsr ?_
  refine G.mv ?_
  first | refine G.np ?_ | refine G.q rfl rfl rfl rfl (q_nil_f rfl rfl) ?_
  first | refine G.q rfl rfl rfl rfl (q_field0 rfl rfl fo_93_0_F2) ?_ | refine G.q rfl rfl rfl rfl (q_field rfl rfl fo_93_0_F2) ?_
  refine G.ld ag_39_F2 ?_
  refine G.r rfl rfl rfl rfl (r_b2s rfl rfl bT_39_9_F2 mB) ?_
  refine G.as ?_
  refine G.nil ?_
  refine EN.sub (sC 2 Sub.nil) ?_
  refine EN.then ?_
  refine CG.ret ?_
  first | rw [show W.text = W.out ++ [UInt8.ofNat W.hold] from if_pos oM] | rw [show W.text = W.out from if_neg oM]
  refine EN.closeS (WrP b W) v tK ?_
  exact fin_ret1 rfl rfl tK sF (⟨rfl, rfl⟩) _ (.inl rfl)

end Go.Eng
/-
  Sums: each function's contract.
-/
set_option linter.unusedVariables false
set_option linter.unusedSimpArgs false
namespace Go.Eng
open Go.Proofs
theorem ag_32_F3 : aggB Tryd.prog 32 = some false := by kernel_rfl
theorem bd_46_F3 : bodied Tryd.prog 46 = true := by kernel_rfl
theorem bd_47_F3 : bodied Tryd.prog 47 = true := by kernel_rfl
theorem fo_86_0_F3 : fieldOff Tryd.prog 86 0 = some 0 := by kernel_rfl
theorem ik_32_F3 : intK Tryd.prog 32 = some .u32 := by kernel_rfl
theorem ik_51_F3 : intK Tryd.prog 51 = some .u64 := by kernel_rfl
theorem is_5_F3 : (Tryd.prog.underlying 5).isSome = true := by kernel_rfl
theorem sz_32_F3 : sizeB Tryd.prog 32 = some 1 := by kernel_rfl
theorem us_9_F3 : Tryd.prog.underlying 9 = some .string := by kernel_rfl
theorem zl_86_F3 : zeroL Tryd.prog 86 = some [.int .u32 0] := by kernel_rfl

set_option maxRecDepth 100000 in
set_option maxHeartbeats 1000000 in
theorem fromBig_spec (s : List UInt8) (h : s.length ≤ 8) : Spec Tryd.prog 31 #[str s] [] (Ret fun v hl => v = .int .u64 (Sums.fromBig s) ∧ hl = []) := by
 refine Spec.enter Tryd.func31 rfl rfl rfl (fun F w0 => ?_)
 dsimp only [argL, List.cons_append, List.nil_append]
 refine CG.sr ?_
 refine G.as ?_
 refine G.nil ?_
 refine EN.tsr ?_
 refine G.as ?_
 refine G.nil ?_
 refine EN.ts ?_
 refine CG.sr ?_
 refine G.mv ?_
 refine G.q rfl rfl rfl rfl (q_len_str rfl rfl us_9_F3) ?_
 refine G.mv ?_
 refine G.nil ?_
 refine EN.then ?_
 refine CG.block ?_
 refine CG.loopI (fun m L H => ∃ k : Nat, k ≤ s.length ∧ m = (s.length) - k ∧ L = [(0, str s), (3, .int .u64 (Sums.fromBig (s.take k))), (6, .int .i64 s.length), (7, .int .i64 k)] ∧ H = F) ((s.length) - 0) (hl := []) (⟨0, Nat.zero_le _, rfl, rfl, rfl⟩) sB rfl tK sF ?_
 rintro m L H ⟨k, hk, rfl, rfl, rfl⟩
 try dsimp only [List.cons_append, List.nil_append]
 refine CG.sr ?_
 refine G.q rfl rfl rfl rfl (q_lss rfl rfl rfl) ?_
 refine G.nil ?_
 refine EN.ts ?_
 refine CG.cond rfl (fun h8 => ?_) (fun h8 => ?_)
 ·
  obtain ⟨c, hc⟩ := get_some (l := s) (k := k) oM
  have hs := take_snoc hc
  have hc8 := u8_lt c
  have hb := Sums.fromBig_lt' (s := s.take k) (j := 7) (by simp; omega)
  have e : Sums.fromBig (s.take (k+1)) = Sums.fromBig (s.take k) * 256 + c.toNat := by rw [hs, Sums.fromBig_snoc]
  refine CG.skip ?_
  refine EN.ts ?_
  refine CG.block ?_
  refine CG.sr ?_
  refine G.mv ?_
  refine G.as ?_
  refine G.nil ?_
  refine EN.tr ?_
  refine G.mv ?_
  first | refine G.q rfl rfl rfl rfl (q_shlcw (d := 256) rfl rfl rfl (by decide) (by decide) lOm lOm) ?_ | refine G.q rfl rfl rfl rfl (q_shlc (d := 256) rfl rfl rfl (by decide) (by decide)) ?_
  refine G.mv ?_
  refine G.mv ?_
  refine G.q rfl rfl rfl rfl (q_index rfl rfl rfl us_9_F3 (hc)) ?_
  first | refine G.q rfl rfl rfl rfl (q_conv_in rfl rfl is_5_F3 ik_51_F3 (wrapu_in (b := 64) rfl rfl oM)) ?_ | refine G.q rfl rfl rfl rfl (q_conv rfl rfl is_5_F3 ik_51_F3) ?_
  first | refine G.q rfl rfl rfl rfl (q_ord (j := 8) (d := 256) rfl rfl rfl (by decide) lOm lOm lOm (by decide)) ?_ | refine G.q rfl rfl rfl rfl (q_or rfl rfl rfl) ?_
  refine G.as ?_
  refine G.nil ?_
  refine EN.sub (sC 0 (sC 3 (sC 6 (sC 7 Sub.nil)))) ?_
  refine EN.in_normal ?_
  refine EN.tr ?_
  first | refine G.q rfl rfl rfl rfl (q_add_i rfl rfl rfl oM) ?_ | refine G.q rfl rfl rfl rfl (q_add rfl rfl rfl) ?_
  refine G.mv ?_
  refine G.nil ?_
  rw [← e]
  exact EN.round (hl := []) ((s.length) - (k + 1)) oM (⟨k + 1, by omega, rfl, rfl, rfl⟩) sB rfl tK sF
 ·
  obtain rfl : k = s.length := by omega
  refine CG.exit ?_
  refine EN.then_exit ?_
  refine EN.then_exit ?_
  refine EN.in_here ?_
  refine EN.tsr ?_
  refine G.mv ?_
  refine G.as ?_
  refine G.nil ?_
  refine EN.then ?_
  refine CG.ret ?_
  rw [List.take_length]
  exact fin_ret1 rfl rfl tK sF (⟨rfl, rfl⟩) _ (.inl rfl)

set_option maxRecDepth 100000 in
set_option maxHeartbeats 1000000 in
theorem fromLittle_spec (s : List UInt8) (h : s.length ≤ 8) : Spec Tryd.prog 88 #[str s] [] (Ret fun v hl => v = .int .u64 (Sums.fromLittle s) ∧ hl = []) := by
 refine Spec.enter Tryd.func88 rfl rfl rfl (fun F w0 => ?_)
 dsimp only [argL, List.cons_append, List.nil_append]
 refine CG.sr ?_
 refine G.as ?_
 refine G.nil ?_
 refine EN.tsr ?_
 refine G.as ?_
 refine G.nil ?_
 refine EN.ts ?_
 refine CG.sr ?_
 refine G.mv ?_
 refine G.q rfl rfl rfl rfl (q_len_str rfl rfl us_9_F3) ?_
 refine G.q rfl rfl rfl rfl (q_min rfl rfl rfl) ?_
 refine G.mv ?_
 refine G.nil ?_
 refine EN.then ?_
 refine CG.block ?_
 rw [if_neg oM]
 refine CG.loopI (fun m L H => ∃ k : Nat, k ≤ s.length ∧ m = (s.length) - k ∧ L = [(0, str s), (3, .int .u64 (Sums.fromLittle (s.take k))), (7, .int .i64 s.length), (8, .int .i64 k)] ∧ H = F) ((s.length) - 0) (hl := []) (⟨0, Nat.zero_le _, rfl, rfl, rfl⟩) sB rfl tK sF ?_
 rintro m L H ⟨k, hk, rfl, rfl, rfl⟩
 try dsimp only [List.cons_append, List.nil_append]
 refine CG.sr ?_
 refine G.q rfl rfl rfl rfl (q_lss rfl rfl rfl) ?_
 refine G.nil ?_
 refine EN.ts ?_
 refine CG.cond rfl (fun h9 => ?_) (fun h9 => ?_)
 ·
  obtain ⟨c, hc⟩ := get_some (l := s) (k := k) oM
  have hs := take_snoc hc
  have hc8 := u8_lt c
  have e := Sums.little_or (s.take k) c (by simp; omega)
  rw [← hs, show (s.take k).length = k by simp; omega] at e
  refine CG.skip ?_
  refine EN.ts ?_
  refine CG.block ?_
  refine CG.sr ?_
  refine G.mv ?_
  refine G.as ?_
  refine G.nil ?_
  refine EN.tr ?_
  refine G.mv ?_
  refine G.mv ?_
  refine G.mv ?_
  refine G.q rfl rfl rfl rfl (q_index rfl rfl rfl us_9_F3 (hc)) ?_
  first | refine G.q rfl rfl rfl rfl (q_conv_in rfl rfl is_5_F3 ik_51_F3 (wrapu_in (b := 64) rfl rfl oM)) ?_ | refine G.q rfl rfl rfl rfl (q_conv rfl rfl is_5_F3 ik_51_F3) ?_
  refine G.mv ?_
  first | refine G.q rfl rfl rfl rfl (q_mul_i rfl rfl rfl oM) ?_ | refine G.q rfl rfl rfl rfl (q_mul rfl rfl rfl) ?_
  refine G.q rfl rfl rfl rfl (q_shl rfl rfl rfl oM) ?_
  first | refine G.q rfl rfl rfl rfl (q_ord (j := 8) (d := 256) rfl rfl rfl (by decide) lOm lOm lOm (by decide)) ?_ | refine G.q rfl rfl rfl rfl (q_or rfl rfl rfl) ?_
  refine G.as ?_
  refine G.nil ?_
  refine EN.sub (sC 0 (sC 3 (sC 7 (sC 8 Sub.nil)))) ?_
  refine EN.in_normal ?_
  refine EN.tr ?_
  first | refine G.q rfl rfl rfl rfl (q_add_i rfl rfl rfl oM) ?_ | refine G.q rfl rfl rfl rfl (q_add rfl rfl rfl) ?_
  refine G.mv ?_
  refine G.nil ?_
  rw [e]
  exact EN.round (hl := []) ((s.length) - (k + 1)) oM (⟨k + 1, by omega, rfl, rfl, rfl⟩) sB rfl tK sF
 ·
  obtain rfl : k = s.length := by omega
  refine CG.exit ?_
  refine EN.then_exit ?_
  refine EN.then_exit ?_
  refine EN.in_here ?_
  refine EN.tsr ?_
  refine G.mv ?_
  refine G.as ?_
  refine G.nil ?_
  refine EN.then ?_
  refine CG.ret ?_
  rw [List.take_length]
  exact fin_ret1 rfl rfl tK sF (⟨rfl, rfl⟩) _ (.inl rfl)

set_option maxRecDepth 100000 in
set_option maxHeartbeats 1000000 in
theorem crcSum_spec (b : Nat) (c : Int) : Spec Tryd.prog 47 #[.pointer (some ⟨b, 0, none⟩)] [cel b 86 [.int .u32 c]] (Ret fun v hl => v = .int .u32 c ∧ hl = [cel b 86 [.int .u32 c]]) := by
 refine Spec.enter Tryd.func47 rfl rfl rfl (fun F w0 => ?_)
 dsimp only [argL, List.cons_append, List.nil_append]
 refine CG.sr ?_
 refine G.as ?_
 refine G.nil ?_
 refine EN.tsr ?_
 refine G.mv ?_
 first | refine G.np ?_ | refine G.q rfl rfl rfl rfl (q_nil_f rfl rfl) ?_
 first | refine G.q rfl rfl rfl rfl (q_field0 rfl rfl fo_86_0_F3) ?_ | refine G.q rfl rfl rfl rfl (q_field rfl rfl fo_86_0_F3) ?_
 refine G.ld ag_32_F3 ?_
 refine G.as ?_
 refine G.nil ?_
 refine EN.then ?_
 refine CG.ret ?_
 exact fin_ret1 rfl rfl tK sF (⟨rfl, rfl⟩) _ (.inl rfl)

def crcBit (c : Int) : Int := bits .xor .u32 (c / 2) (bits .and .u32 3988292384 (IntKind.u32.wrap (0 - bits .and .u32 c 1)))
def crcBits : Nat → Int → Int
  | 0, c => c
  | n + 1, c => crcBit (crcBits n c)
def crcByte (c : Int) (x : UInt8) : Int := crcBits 8 (bits .xor .u32 c (x.toNat : Int))
def crcNot (c : Int) : Int := bits .xor .u32 4294967295 c
def crcW (c : Int) (s : List UInt8) : Int := s.foldl crcByte c
def crc32 (s : List UInt8) : Int := crcNot (crcW (crcNot 0) s)
theorem crcW_snoc (c : Int) (s : List UInt8) (x : UInt8) : crcW c (s ++ [x]) = crcByte (crcW c s) x := by simp [crcW]

set_option maxRecDepth 100000 in
set_option maxHeartbeats 1000000 in
theorem crcWrite_spec (b : Nat) (c : Int) (s : List UInt8) (h : s.length ≤ 9223372036854775000) : Spec Tryd.prog 46 #[.pointer (some ⟨b, 0, none⟩), str s] [cel b 86 [.int .u32 c]] (Ret fun v hl => v = .tuple #[] ∧ hl = [cel b 86 [.int .u32 (crcNot (crcW (crcNot c) s))]]) := by
 refine Spec.enter Tryd.func46 rfl rfl rfl (fun F w0 => ?_)
 dsimp only [argL, List.cons_append, List.nil_append]
 refine CG.sr ?_
 refine G.mv ?_
 first | refine G.np ?_ | refine G.q rfl rfl rfl rfl (q_nil_f rfl rfl) ?_
 first | refine G.q rfl rfl rfl rfl (q_field0 rfl rfl fo_86_0_F3) ?_ | refine G.q rfl rfl rfl rfl (q_field rfl rfl fo_86_0_F3) ?_
 refine G.ld ag_32_F3 ?_
 refine G.q rfl rfl rfl rfl (q_com rfl rfl) ?_
 refine G.as ?_
 refine G.nil ?_
 refine EN.ts ?_
 refine CG.sr ?_
 refine G.mv ?_
 refine G.q rfl rfl rfl rfl (q_len_str rfl rfl us_9_F3) ?_
 refine G.mv ?_
 refine G.nil ?_
 refine EN.then ?_
 refine CG.block ?_
 refine CG.loopI (fun m L H => ∃ k : Nat, k ≤ s.length ∧ m = (s.length) - k ∧ L = [(0, .pointer (some ⟨b, 0, none⟩)), (1, str s), (4, .int .u32 (crcW (crcNot c) (s.take k))), (12, .int .i64 s.length), (13, .int .i64 k)] ∧ H = [cel b 86 [.int .u32 c]] ++ F) ((s.length) - 0) (hl := [_]) (⟨0, Nat.zero_le _, rfl, rfl, rfl⟩) sB rfl tK sF ?_
 rintro m L H ⟨k, hk, rfl, rfl, rfl⟩
 try dsimp only [List.cons_append, List.nil_append]
 refine CG.sr ?_
 refine G.q rfl rfl rfl rfl (q_lss rfl rfl rfl) ?_
 refine G.nil ?_
 refine EN.ts ?_
 refine CG.cond rfl (fun h14 => ?_) (fun h14 => ?_)
 ·
  obtain ⟨x, hc⟩ := get_some (l := s) (k := k) oM
  have hs := take_snoc hc
  have hc8 := u8_lt x
  have e : crcBits 8 (bits .xor .u32 (crcW (crcNot c) (s.take k)) (x.toNat : Int)) = crcW (crcNot c) (s.take (k+1)) := by rw [hs, crcW_snoc]; rfl
  refine CG.skip ?_
  refine EN.ts ?_
  refine CG.block ?_
  refine CG.sr ?_
  refine G.mv ?_
  refine G.as ?_
  refine G.nil ?_
  refine EN.tsr ?_
  refine G.mv ?_
  refine G.mv ?_
  refine G.mv ?_
  refine G.q rfl rfl rfl rfl (q_index rfl rfl rfl us_9_F3 (hc)) ?_
  first | refine G.q rfl rfl rfl rfl (q_conv_in rfl rfl is_5_F3 ik_32_F3 (wrapu_in (b := 32) rfl rfl oM)) ?_ | refine G.q rfl rfl rfl rfl (q_conv rfl rfl is_5_F3 ik_32_F3) ?_
  refine G.q rfl rfl rfl rfl (q_xor rfl rfl rfl) ?_
  refine G.as ?_
  refine G.nil ?_
  refine EN.sub (sC 0 (sC 1 (sC 4 (sC 12 (sC 13 Sub.nil))))) ?_
  refine EN.tsr ?_
  refine G.mv ?_
  refine G.nil ?_
  refine EN.then ?_
  refine CG.block ?_
  refine CG.loopI (fun m L H => ∃ j : Nat, j ≤ 8 ∧ m = (8) - j ∧ L = [(0, .pointer (some ⟨b, 0, none⟩)), (1, str s), (4, .int .u32 (crcBits j (bits .xor .u32 (crcW (crcNot c) (s.take k)) (x.toNat : Int)))), (12, .int .i64 s.length), (13, .int .i64 k), (22, .int .i64 j)] ∧ H = [cel b 86 [.int .u32 c]] ++ F) ((8) - 0) (hl := [_]) (⟨0, Nat.zero_le _, rfl, rfl, rfl⟩) sB rfl tK sF ?_
  rintro m L H ⟨j, hk, rfl, rfl, rfl⟩
  try dsimp only [List.cons_append, List.nil_append]
  refine CG.sr ?_
  refine G.q rfl rfl rfl rfl (q_lss rfl rfl rfl) ?_
  refine G.nil ?_
  refine EN.ts ?_
  refine CG.cond rfl (fun h23 => ?_) (fun h23 => ?_)
  ·
   refine CG.skip ?_
   refine EN.ts ?_
   refine CG.block ?_
   refine CG.reg ?_
   refine G.mv ?_
   refine G.q rfl rfl rfl rfl (q_shr rfl rfl rfl oM) ?_
   refine G.mv ?_
   refine G.q rfl rfl rfl rfl (q_and rfl rfl rfl) ?_
   refine G.q rfl rfl rfl rfl (q_neg rfl rfl) ?_
   refine G.q rfl rfl rfl rfl (q_and rfl rfl rfl) ?_
   refine G.q rfl rfl rfl rfl (q_xor rfl rfl rfl) ?_
   refine G.as ?_
   refine G.nil ?_
   refine EN.in_normal ?_
   refine EN.tr ?_
   first | refine G.q rfl rfl rfl rfl (q_add_i rfl rfl rfl oM) ?_ | refine G.q rfl rfl rfl rfl (q_add rfl rfl rfl) ?_
   refine G.mv ?_
   refine G.nil ?_
   exact EN.round (hl := [_]) ((8) - (j + 1)) oM (⟨j + 1, by omega, rfl, rfl, rfl⟩) sB rfl tK sF
  ·
   obtain rfl : j = 8 := by omega
   refine CG.exit ?_
   refine EN.then_exit ?_
   refine EN.then_exit ?_
   refine EN.in_here ?_
   refine EN.in_normal ?_
   refine EN.tr ?_
   first | refine G.q rfl rfl rfl rfl (q_add_i rfl rfl rfl oM) ?_ | refine G.q rfl rfl rfl rfl (q_add rfl rfl rfl) ?_
   refine G.mv ?_
   refine G.nil ?_
   rw [e]
   exact EN.round (hl := [_]) ((s.length) - (k + 1)) oM (⟨k + 1, by omega, rfl, rfl, rfl⟩) sB rfl tK sF
 ·
  obtain rfl : k = s.length := by omega
  refine CG.exit ?_
  refine EN.then_exit ?_
  refine EN.then_exit ?_
  refine EN.in_here ?_
  refine EN.tr ?_
  refine G.mv ?_
  refine G.mv ?_
  refine G.q rfl rfl rfl rfl (q_com rfl rfl) ?_
  first | refine G.np ?_ | refine G.q rfl rfl rfl rfl (q_nil_f rfl rfl) ?_
  first | refine G.q rfl rfl rfl rfl (q_field0 rfl rfl fo_86_0_F3) ?_ | refine G.q rfl rfl rfl rfl (q_field rfl rfl fo_86_0_F3) ?_
  refine G.st0 sz_32_F3 ?_
  refine G.nil ?_
  refine EN.sub Sub.nil ?_
  rw [List.take_length]
  exact fin_ret0 rfl tK sF (⟨rfl, rfl⟩) _ (.inr rfl)

set_option maxRecDepth 100000 in
set_option maxHeartbeats 1000000 in
theorem crc32_spec (s : List UInt8) (h : s.length ≤ 9223372036854775000) : Spec Tryd.prog 28 #[str s] [] (Ret fun v hl => v = .int .u32 (crc32 s) ∧ hl = []) := by
 refine Spec.enter Tryd.func28 rfl rfl rfl (fun F w0 => ?_)
 dsimp only [argL, List.cons_append, List.nil_append]
 refine CG.sr ?_
 refine G.as ?_
 refine G.nil ?_
 refine EN.tsr ?_
 refine G.e rfl rfl rfl rfl (e_alloc rfl zl_86_F3) (fun _ _ _ _ _ _ => trivial) ?_
 rintro _ _ ⟨b3, rfl, rfl⟩
 refine G.nil ?_
 refine EN.tsr ?_
 refine G.mv ?_
 refine G.call (xs := [_, _]) rfl rfl (crcWrite_spec b3 0 s h) bd_46_F3 rfl rfl rfl rfl tK (fun _ _ _ _ _ _ => trivial) ?_
 rintro _ _ ⟨rfl, rfl⟩
 try dsimp only [List.cons_append, List.nil_append]
 refine G.nil ?_
 refine EN.tsr ?_
 refine G.call (xs := [_]) rfl rfl (crcSum_spec b3 _) bd_47_F3 rfl rfl rfl rfl tK (fun _ _ _ _ _ _ => trivial) ?_
 rintro _ _ ⟨rfl, rfl⟩
 try dsimp only [List.cons_append, List.nil_append]
 refine G.as ?_
 refine G.nil ?_
 refine EN.then ?_
 refine CG.ret ?_
 exact fin_ret1 rfl rfl tK sF (⟨rfl, rfl⟩) _ (.inl rfl)

end Go.Eng
/-
  Sums: numbers as bytes, digits, Adler.
-/
set_option linter.unusedVariables false
set_option linter.unusedSimpArgs false
namespace Go.Eng
open Go.Proofs
theorem ag_32_F4 : aggB Tryd.prog 32 = some false := by kernel_rfl
theorem bT_39_9_F4 : bytesT Tryd.prog 39 9 = some 5 := by kernel_rfl
theorem bd_39_F4 : bodied Tryd.prog 39 = true := by kernel_rfl
theorem bd_69_F4 : bodied Tryd.prog 69 = true := by kernel_rfl
theorem bd_70_F4 : bodied Tryd.prog 70 = true := by kernel_rfl
theorem bs_39_1_all_F4 : ∀ (x0 : Int) (w : World), (Instr.buildSlice 39 1 [(0, .int .u8 x0)].toArray).run Tryd.prog w = .ok (.slice (some ⟨w.heap.size, 0, none⟩) 1 1) { w with heap := w.heap.push (.cells [.int .u8 x0].toArray 5) } := fun _ _ => by kernel_rfl
theorem bs_39_2_all_F4 : ∀ (x0 : Int) (x1 : Int) (w : World), (Instr.buildSlice 39 2 [(0, .int .u8 x0), (1, .int .u8 x1)].toArray).run Tryd.prog w = .ok (.slice (some ⟨w.heap.size, 0, none⟩) 2 2) { w with heap := w.heap.push (.cells [.int .u8 x0, .int .u8 x1].toArray 5) } := fun _ _ _ => by kernel_rfl
theorem fo_115_0_F4 : fieldOff Tryd.prog 115 0 = some 0 := by kernel_rfl
theorem fo_115_1_F4 : fieldOff Tryd.prog 115 1 = some 1 := by kernel_rfl
theorem ik_32_F4 : intK Tryd.prog 32 = some .u32 := by kernel_rfl
theorem ik_3_F4 : intK Tryd.prog 3 = some .i64 := by kernel_rfl
theorem ik_5_F4 : intK Tryd.prog 5 = some .u8 := by kernel_rfl
theorem is_3_F4 : (Tryd.prog.underlying 3).isSome = true := by kernel_rfl
theorem is_51_F4 : (Tryd.prog.underlying 51).isSome = true := by kernel_rfl
theorem is_5_F4 : (Tryd.prog.underlying 5).isSome = true := by kernel_rfl
theorem nf_5_F4 : infoB Tryd.prog 5 = some (some [.int .u8 0], 1, 1) := by kernel_rfl
theorem se_39_F4 : sliceE Tryd.prog 39 = some 5 := by kernel_rfl
theorem sz_32_F4 : sizeB Tryd.prog 32 = some 1 := by kernel_rfl
theorem us_9_F4 : Tryd.prog.underlying 9 = some .string := by kernel_rfl
theorem zl_115_F4 : zeroL Tryd.prog 115 = some [.int .u32 0, .int .u32 0] := by kernel_rfl

theorem own_take {e k : Nat} {v : Value} {f : Nat → UInt8} {u : Value} (h : u = u8v (f k)) : own e 1 v (k + 1) (((List.range k).map f).map u8v ++ [u]) = own e 1 v (k + 1) (((List.range (k + 1)).map f).map u8v) := by
  rw [h, Sums.range_take]; simp
theorem own_hex {e : Nat} {u : Value} {t : List UInt8} {c : UInt8} : own e 1 u ((Sums.hex t).length + 2) ((Sums.hex t).map u8v ++ [Value.int .u8 (Sums.hexDigit (c.toNat / 16)).toNat, Value.int .u8 (Sums.hexDigit (c.toNat % 16)).toNat]) = own e 1 u (Sums.hex (t ++ [c])).length ((Sums.hex (t ++ [c])).map u8v) := by
  rw [Sums.hex_snoc]; simp [u8v]
theorem own_snoc2 {e : Nat} {u : Value} {l : List UInt8} {c : UInt8} : own e 1 u (l.length + 1) (l.map u8v ++ [.int .u8 (c.toNat : Int)]) = own e 1 u (l ++ [c]).length ((l ++ [c]).map u8v) := by
  simp [u8v]
theorem drop2 {s : List UInt8} {i : Nat} {a b : UInt8} (ha : s[i]? = some a) (hb : s[i + 1]? = some b) : s.drop i = a :: b :: s.drop (i + 2) := by
  obtain ⟨h1, rfl⟩ := List.getElem?_eq_some_iff.1 ha
  obtain ⟨h2, rfl⟩ := List.getElem?_eq_some_iff.1 hb
  rw [List.drop_eq_getElem_cons h1, List.drop_eq_getElem_cons h2]
theorem digit_range (c : UInt8) : -1 ≤ Sums.digit c ∧ Sums.digit c ≤ 15 := by
  unfold Sums.digit; split
  · omega
  · split <;> omega
def unhexV (s : List UInt8) : Array Value := match Sums.unhex s with | some t => #[str t, .bool true] | none => #[str [], .bool false]
theorem unhexV_n {s : List UInt8} (h : none = Sums.unhex s) : #[str [], .bool false] = unhexV s := by unfold unhexV; rw [← h]
theorem unhexV_s {s t : List UInt8} (h : some t = Sums.unhex s) : #[str t, .bool true] = unhexV s := by unfold unhexV; rw [← h]

set_option maxRecDepth 100000 in
set_option maxHeartbeats 1000000 in
theorem big_spec (x : Int) (n : Nat) (hx : 0 ≤ x ∧ x < 18446744073709551616) (h : n ≤ 8) : Spec Tryd.prog 14 #[.int .u64 x, .int .i64 n] [] (Ret fun v hl => v = str (Sums.big x n) ∧ hl = []) := by
 refine Spec.enter Tryd.func14 rfl rfl rfl (fun F w0 => ?_)
 dsimp only [argL, List.cons_append, List.nil_append]
 refine CG.sr ?_
 refine G.as ?_
 refine G.nil ?_
 refine EN.tsr ?_
 refine G.as ?_
 refine G.nil ?_
 refine EN.ts ?_
 refine CG.sr ?_
 refine G.mv ?_
 refine G.q rfl rfl rfl rfl (q_max rfl rfl rfl) ?_
 refine G.mv ?_
 refine G.nil ?_
 refine EN.then ?_
 refine CG.block ?_
 rw [if_neg oM]
 refine CG.ownNil 5 1 ?_
 refine CG.loopI (fun m L H => ∃ k : Nat, ∃ (v : Value), k ≤ n ∧ m = (n) - k ∧ L = [(0, .int .u64 x), (1, .int .i64 n), (5, v), (8, .int .i64 n), (9, .int .i64 k)] ∧ H = [own 5 1 v k (((List.range k).map (fun i => u8i (x / 2 ^ (8 * (n - 1 - i))))).map u8v)] ++ F) ((n) - 0) (hl := [_]) (⟨0, .slice none 0 0, Nat.zero_le _, rfl, rfl, rfl⟩) sB rfl tK sF ?_
 rintro m L H ⟨k, v, hk, rfl, rfl, rfl⟩
 try dsimp only [List.cons_append, List.nil_append]
 refine CG.sr ?_
 refine G.q rfl rfl rfl rfl (q_lss rfl rfl rfl) ?_
 refine G.nil ?_
 refine EN.ts ?_
 refine CG.cond rfl (fun h10 => ?_) (fun h10 => ?_)
 ·
  have hk2 : k < n := by omega
  have hf : Value.int .u8 ((u8i (x / 2 ^ min (8 * ((n : Int) - 1 - k)).toNat IntKind.u64.bits)).toNat : Int) = u8v ((fun i => u8i (x / 2 ^ (8 * (n - 1 - i)))) k) := by
    rw [show (8 * ((n : Int) - 1 - k)).toNat = 8 * (n - 1 - k) by omega, Nat.min_eq_left (by simp [IntKind.bits]; omega)]; rfl
  refine CG.skip ?_
  refine EN.ts ?_
  refine CG.block ?_
  refine CG.sr ?_
  refine G.mv ?_
  refine G.as ?_
  refine G.nil ?_
  refine EN.ts ?_
  refine CG.sr ?_
  refine G.mv ?_
  refine G.mv ?_
  first | refine G.q rfl rfl rfl rfl (q_sub_i rfl rfl rfl oM) ?_ | refine G.q rfl rfl rfl rfl (q_sub rfl rfl rfl) ?_
  refine G.q rfl rfl rfl rfl (q_gtr rfl rfl rfl) ?_
  refine G.nil ?_
  refine EN.then ?_
  refine CG.cond rfl (fun h15 => absurd h15 oM) (fun h15 => ?_)
  refine CG.skip ?_
  refine EN.tr ?_
  refine G.mv ?_
  refine G.mv ?_
  refine G.mv ?_
  first | refine G.q rfl rfl rfl rfl (q_sub_i rfl rfl rfl oM) ?_ | refine G.q rfl rfl rfl rfl (q_sub rfl rfl rfl) ?_
  refine G.mv ?_
  first | refine G.q rfl rfl rfl rfl (q_sub_i rfl rfl rfl oM) ?_ | refine G.q rfl rfl rfl rfl (q_sub rfl rfl rfl) ?_
  first | refine G.q rfl rfl rfl rfl (q_mul_i rfl rfl rfl oM) ?_ | refine G.q rfl rfl rfl rfl (q_mul rfl rfl rfl) ?_
  refine G.q rfl rfl rfl rfl (q_shr rfl rfl rfl oM) ?_
  refine G.q rfl rfl rfl rfl (q_conv_u8 rfl rfl is_51_F4 ik_5_F4) ?_
  refine G.e rfl rfl rfl rfl (e_bslice rfl rfl (bs_39_1_all_F4 _)) (fun _ _ _ _ _ _ => trivial) ?_
  rintro _ _ ⟨b28, rfl, rfl⟩
  refine G.e rfl rfl rfl rfl (e_append rfl rfl rfl se_39_F4 nf_5_F4 rfl tK1 mB (by rfl) (by simp [Value.oneCell', str]) oM) (fun _ _ _ _ _ _ => trivial) ?_
  rintro _ _ rfl
  rw [own_take (f := (fun i => u8i (x / 2 ^ (8 * (n - 1 - i))))) hf]
  refine G.ownShape tK1 ?_
  rintro ad c' rfl
  refine G.as ?_
  refine G.nil ?_
  refine EN.sub (sC 0 (sC 1 (sC 5 (sC 8 (sC 9 Sub.nil))))) ?_
  refine EN.in_normal ?_
  refine EN.tr ?_
  first | refine G.q rfl rfl rfl rfl (q_add_i rfl rfl rfl oM) ?_ | refine G.q rfl rfl rfl rfl (q_add rfl rfl rfl) ?_
  refine G.mv ?_
  refine G.nil ?_
  exact EN.round (hl := [_]) ((n) - (k + 1)) oM (⟨k + 1, _, by omega, rfl, rfl, rfl⟩) sB rfl tK sF
 ·
  obtain rfl : k = n := by omega
  refine CG.exit ?_
  refine EN.then_exit ?_
  refine EN.then_exit ?_
  refine EN.in_here ?_
  refine EN.tsr ?_
  refine G.mv ?_
  refine G.r rfl rfl rfl rfl (r_b2s rfl rfl bT_39_9_F4 mB) ?_
  refine G.as ?_
  refine G.nil ?_
  refine EN.then ?_
  refine CG.ret ?_
  exact fin_ret1 rfl rfl tK sF (⟨rfl, rfl⟩) _ (.inl rfl)

set_option maxRecDepth 100000 in
set_option maxHeartbeats 1000000 in
theorem little_spec (x : Int) (n : Nat) (hx : 0 ≤ x ∧ x < 18446744073709551616) (h : n ≤ 8) : Spec Tryd.prog 73 #[.int .u64 x, .int .i64 n] [] (Ret fun v hl => v = str (Sums.little x n) ∧ hl = []) := by
 refine Spec.enter Tryd.func73 rfl rfl rfl (fun F w0 => ?_)
 dsimp only [argL, List.cons_append, List.nil_append]
 refine CG.sr ?_
 refine G.as ?_
 refine G.nil ?_
 refine EN.tsr ?_
 refine G.as ?_
 refine G.nil ?_
 refine EN.ts ?_
 refine CG.sr ?_
 refine G.mv ?_
 refine G.q rfl rfl rfl rfl (q_max rfl rfl rfl) ?_
 refine G.mv ?_
 refine G.nil ?_
 refine EN.then ?_
 refine CG.block ?_
 rw [if_neg oM]
 refine CG.ownNil 5 1 ?_
 refine CG.loopI (fun m L H => ∃ k : Nat, ∃ (v : Value), k ≤ n ∧ m = (n) - k ∧ L = [(0, .int .u64 x), (1, .int .i64 n), (5, v), (8, .int .i64 n), (9, .int .i64 k)] ∧ H = [own 5 1 v k (((List.range k).map (fun i => u8i (x / 2 ^ (8 * i)))).map u8v)] ++ F) ((n) - 0) (hl := [_]) (⟨0, .slice none 0 0, Nat.zero_le _, rfl, rfl, rfl⟩) sB rfl tK sF ?_
 rintro m L H ⟨k, v, hk, rfl, rfl, rfl⟩
 try dsimp only [List.cons_append, List.nil_append]
 refine CG.sr ?_
 refine G.q rfl rfl rfl rfl (q_lss rfl rfl rfl) ?_
 refine G.nil ?_
 refine EN.ts ?_
 refine CG.cond rfl (fun h10 => ?_) (fun h10 => ?_)
 ·
  have hk2 : k < n := by omega
  have hf : Value.int .u8 ((u8i (x / 2 ^ min (8 * (k : Int)).toNat IntKind.u64.bits)).toNat : Int) = u8v ((fun i => u8i (x / 2 ^ (8 * i))) k) := by
    rw [show (8 * (k : Int)).toNat = 8 * k by omega, Nat.min_eq_left (by simp [IntKind.bits]; omega)]; rfl
  refine CG.skip ?_
  refine EN.ts ?_
  refine CG.block ?_
  refine CG.sr ?_
  refine G.mv ?_
  refine G.as ?_
  refine G.nil ?_
  refine EN.ts ?_
  refine CG.sr ?_
  refine G.mv ?_
  refine G.q rfl rfl rfl rfl (q_geq rfl rfl rfl) ?_
  refine G.nil ?_
  refine EN.then ?_
  refine CG.cond rfl (fun h13 => absurd h13 oM) (fun h13 => ?_)
  refine CG.skip ?_
  refine EN.tr ?_
  refine G.mv ?_
  refine G.mv ?_
  refine G.mv ?_
  first | refine G.q rfl rfl rfl rfl (q_mul_i rfl rfl rfl oM) ?_ | refine G.q rfl rfl rfl rfl (q_mul rfl rfl rfl) ?_
  refine G.q rfl rfl rfl rfl (q_shr rfl rfl rfl oM) ?_
  refine G.q rfl rfl rfl rfl (q_conv_u8 rfl rfl is_51_F4 ik_5_F4) ?_
  refine G.e rfl rfl rfl rfl (e_bslice rfl rfl (bs_39_1_all_F4 _)) (fun _ _ _ _ _ _ => trivial) ?_
  rintro _ _ ⟨b23, rfl, rfl⟩
  refine G.e rfl rfl rfl rfl (e_append rfl rfl rfl se_39_F4 nf_5_F4 rfl tK1 mB (by rfl) (by simp [Value.oneCell', str]) oM) (fun _ _ _ _ _ _ => trivial) ?_
  rintro _ _ rfl
  rw [own_take (f := (fun i => u8i (x / 2 ^ (8 * i)))) hf]
  refine G.ownShape tK1 ?_
  rintro ad c' rfl
  refine G.as ?_
  refine G.nil ?_
  refine EN.sub (sC 0 (sC 1 (sC 5 (sC 8 (sC 9 Sub.nil))))) ?_
  refine EN.in_normal ?_
  refine EN.tr ?_
  first | refine G.q rfl rfl rfl rfl (q_add_i rfl rfl rfl oM) ?_ | refine G.q rfl rfl rfl rfl (q_add rfl rfl rfl) ?_
  refine G.mv ?_
  refine G.nil ?_
  exact EN.round (hl := [_]) ((n) - (k + 1)) oM (⟨k + 1, _, by omega, rfl, rfl, rfl⟩) sB rfl tK sF
 ·
  obtain rfl : k = n := by omega
  refine CG.exit ?_
  refine EN.then_exit ?_
  refine EN.then_exit ?_
  refine EN.in_here ?_
  refine EN.tsr ?_
  refine G.mv ?_
  refine G.r rfl rfl rfl rfl (r_b2s rfl rfl bT_39_9_F4 mB) ?_
  refine G.as ?_
  refine G.nil ?_
  refine EN.then ?_
  refine CG.ret ?_
  exact fin_ret1 rfl rfl tK sF (⟨rfl, rfl⟩) _ (.inl rfl)

set_option maxRecDepth 100000 in
set_option maxHeartbeats 1000000 in
theorem adlerWrite_spec (b : Nat) (s : List UInt8) (h : s.length ≤ 9223372036854775000) : Spec Tryd.prog 69 #[.pointer (some ⟨b, 0, none⟩), str s] [cel b 115 [.int .u32 0, .int .u32 0]] (Ret fun v hl => v = .tuple #[] ∧ hl = [cel b 115 [.int .u32 (Sums.adlerP s).1, .int .u32 (Sums.adlerP s).2]]) := by
 refine Spec.enter Tryd.func69 rfl rfl rfl (fun F w0 => ?_)
 dsimp only [argL, List.cons_append, List.nil_append]
 refine CG.sr ?_
 refine G.mv ?_
 refine G.q rfl rfl rfl rfl (q_len_str rfl rfl us_9_F4) ?_
 refine G.mv ?_
 refine G.nil ?_
 refine EN.then ?_
 refine CG.block ?_
 refine CG.loopI (fun m L H => ∃ k : Nat, k ≤ s.length ∧ m = (s.length) - k ∧ L = [(0, .pointer (some ⟨b, 0, none⟩)), (1, str s), (6, .int .i64 s.length), (7, .int .i64 k)] ∧ H = [cel b 115 [.int .u32 (Sums.adlerP (s.take k)).1, .int .u32 (Sums.adlerP (s.take k)).2]] ++ F) ((s.length) - 0) (hl := [_]) (⟨0, Nat.zero_le _, rfl, rfl, rfl⟩) sB rfl tK sF ?_
 rintro m L H ⟨k, hk, rfl, rfl, rfl⟩
 try dsimp only [List.cons_append, List.nil_append]
 refine CG.sr ?_
 refine G.q rfl rfl rfl rfl (q_lss rfl rfl rfl) ?_
 refine G.nil ?_
 refine EN.ts ?_
 refine CG.cond rfl (fun h8 => ?_) (fun h8 => ?_)
 ·
  obtain ⟨c, hc⟩ := get_some (l := s) (k := k) oM
  have hs := take_snoc hc
  have hc8 := u8_lt c
  have hp := Sums.adlerP_lt (s.take k)
  have e : Sums.adlerP (s.take (k + 1)) = Sums.adlerStep (Sums.adlerP (s.take k)) c := by rw [hs, Sums.adlerP_snoc]
  have e1 : ((Sums.adlerP (s.take k)).1 + c.toNat) % 65521 = (Sums.adlerP (s.take (k + 1))).1 := by rw [e]; rfl
  have e2 : ((Sums.adlerP (s.take k)).2 + (Sums.adlerP (s.take (k + 1))).1 + 1) % 65521 = (Sums.adlerP (s.take (k + 1))).2 := by rw [e]; rfl
  refine CG.skip ?_
  refine EN.ts ?_
  refine CG.block ?_
  refine CG.sr ?_
  refine G.mv ?_
  refine G.as ?_
  refine G.nil ?_
  refine EN.ts ?_
  refine CG.regT [18] mixed (by kernel_rfl) ?_
  refine G.mv ?_
  refine G.mv ?_
  first | refine G.np ?_ | refine G.q rfl rfl rfl rfl (q_nil_f rfl rfl) ?_
  first | refine G.q rfl rfl rfl rfl (q_field0 rfl rfl fo_115_0_F4) ?_ | refine G.q rfl rfl rfl rfl (q_field rfl rfl fo_115_0_F4) ?_
  refine G.ld ag_32_F4 ?_
  refine G.mv ?_
  refine G.mv ?_
  refine G.q rfl rfl rfl rfl (q_index rfl rfl rfl us_9_F4 (hc)) ?_
  first | refine G.q rfl rfl rfl rfl (q_conv_in rfl rfl is_5_F4 ik_32_F4 (wrapu_in (b := 32) rfl rfl oM)) ?_ | refine G.q rfl rfl rfl rfl (q_conv rfl rfl is_5_F4 ik_32_F4) ?_
  first | refine G.q rfl rfl rfl rfl (q_addw rfl rfl rfl lOm lOm) ?_ | refine G.q rfl rfl rfl rfl (q_add rfl rfl rfl) ?_
  first | refine G.q rfl rfl rfl rfl (q_rem_n rfl rfl rfl oM) ?_ | refine G.q rfl rfl rfl rfl (q_rem rfl rfl rfl oM) ?_
  first | refine G.np ?_ | refine G.q rfl rfl rfl rfl (q_nil_f rfl rfl) ?_
  first | refine G.q rfl rfl rfl rfl (q_field0 rfl rfl fo_115_0_F4) ?_ | refine G.q rfl rfl rfl rfl (q_field rfl rfl fo_115_0_F4) ?_
  refine G.st0 sz_32_F4 ?_
  refine G.nil ?_
  refine EN.sub (sC 0 (sC 1 (sC 6 (sC 7 Sub.nil)))) ?_
  refine EN.then ?_
  refine CG.regT [] mixed (by kernel_rfl) ?_
  refine G.mv ?_
  refine G.mv ?_
  first | refine G.np ?_ | refine G.q rfl rfl rfl rfl (q_nil_f rfl rfl) ?_
  first | refine G.q rfl rfl rfl rfl (q_field0 rfl rfl fo_115_1_F4) ?_ | refine G.q rfl rfl rfl rfl (q_field rfl rfl fo_115_1_F4) ?_
  refine G.ld ag_32_F4 ?_
  refine G.mv ?_
  first | refine G.np ?_ | refine G.q rfl rfl rfl rfl (q_nil_f rfl rfl) ?_
  first | refine G.q rfl rfl rfl rfl (q_field0 rfl rfl fo_115_0_F4) ?_ | refine G.q rfl rfl rfl rfl (q_field rfl rfl fo_115_0_F4) ?_
  refine G.ld ag_32_F4 ?_
  first | refine G.q rfl rfl rfl rfl (q_addw rfl rfl rfl lOm lOm) ?_ | refine G.q rfl rfl rfl rfl (q_add rfl rfl rfl) ?_
  first | refine G.q rfl rfl rfl rfl (q_addw rfl rfl rfl lOm lOm) ?_ | refine G.q rfl rfl rfl rfl (q_add rfl rfl rfl) ?_
  first | refine G.q rfl rfl rfl rfl (q_rem_n rfl rfl rfl oM) ?_ | refine G.q rfl rfl rfl rfl (q_rem rfl rfl rfl oM) ?_
  first | refine G.np ?_ | refine G.q rfl rfl rfl rfl (q_nil_f rfl rfl) ?_
  first | refine G.q rfl rfl rfl rfl (q_field0 rfl rfl fo_115_1_F4) ?_ | refine G.q rfl rfl rfl rfl (q_field rfl rfl fo_115_1_F4) ?_
  refine G.st0 sz_32_F4 ?_
  refine G.nil ?_
  refine EN.sub (sC 0 (sC 1 (sC 6 (sC 7 Sub.nil)))) ?_
  refine EN.in_normal ?_
  refine EN.tr ?_
  first | refine G.q rfl rfl rfl rfl (q_add_i rfl rfl rfl oM) ?_ | refine G.q rfl rfl rfl rfl (q_add rfl rfl rfl) ?_
  refine G.mv ?_
  refine G.nil ?_
  rw [e1, e2]
  exact EN.round (hl := [_]) ((s.length) - (k + 1)) oM (⟨k + 1, by omega, rfl, rfl, rfl⟩) sB rfl tK sF
 ·
  obtain rfl : k = s.length := by omega
  refine CG.exit ?_
  refine EN.then_exit ?_
  refine EN.then_exit ?_
  refine EN.in_here ?_
  rw [List.take_length]
  exact fin_ret0 rfl tK sF (⟨rfl, rfl⟩) _ (.inr rfl)

set_option maxRecDepth 100000 in
set_option maxHeartbeats 1000000 in
theorem adlerSum_spec (b : Nat) (s : List UInt8) : Spec Tryd.prog 70 #[.pointer (some ⟨b, 0, none⟩)] [cel b 115 [.int .u32 (Sums.adlerP s).1, .int .u32 (Sums.adlerP s).2]] (Ret fun v hl => v = .int .u32 (Sums.adler s) ∧ hl = [cel b 115 [.int .u32 (Sums.adlerP s).1, .int .u32 (Sums.adlerP s).2]]) := by
 have hp := Sums.adlerP_lt s
 refine Spec.enter Tryd.func70 rfl rfl rfl (fun F w0 => ?_)
 dsimp only [argL, List.cons_append, List.nil_append]
 refine CG.sr ?_
 refine G.as ?_
 refine G.nil ?_
 refine EN.ts ?_
 refine CG.regT [] mixed (by kernel_rfl) ?_
 refine G.mv ?_
 first | refine G.np ?_ | refine G.q rfl rfl rfl rfl (q_nil_f rfl rfl) ?_
 first | refine G.q rfl rfl rfl rfl (q_field0 rfl rfl fo_115_1_F4) ?_ | refine G.q rfl rfl rfl rfl (q_field rfl rfl fo_115_1_F4) ?_
 refine G.ld ag_32_F4 ?_
 first | refine G.q rfl rfl rfl rfl (q_shlcw (d := 65536) rfl rfl rfl (by decide) (by decide) lOm lOm) ?_ | refine G.q rfl rfl rfl rfl (q_shlc (d := 65536) rfl rfl rfl (by decide) (by decide)) ?_
 refine G.mv ?_
 first | refine G.np ?_ | refine G.q rfl rfl rfl rfl (q_nil_f rfl rfl) ?_
 first | refine G.q rfl rfl rfl rfl (q_field0 rfl rfl fo_115_0_F4) ?_ | refine G.q rfl rfl rfl rfl (q_field rfl rfl fo_115_0_F4) ?_
 refine G.ld ag_32_F4 ?_
 first | refine G.q rfl rfl rfl rfl (q_addw rfl rfl rfl lOm lOm) ?_ | refine G.q rfl rfl rfl rfl (q_add rfl rfl rfl) ?_
 first | refine G.q rfl rfl rfl rfl (q_rem_n rfl rfl rfl oM) ?_ | refine G.q rfl rfl rfl rfl (q_rem rfl rfl rfl oM) ?_
 first | refine G.q rfl rfl rfl rfl (q_ord (j := 16) (d := 65536) rfl rfl rfl (by decide) lOm lOm lOm (by decide)) ?_ | refine G.q rfl rfl rfl rfl (q_or rfl rfl rfl) ?_
 refine G.as ?_
 refine G.nil ?_
 refine EN.sub (sC 2 Sub.nil) ?_
 refine EN.then ?_
 refine CG.ret ?_
 exact fin_ret1 rfl rfl tK sF (⟨rfl, rfl⟩) _ (.inl rfl)

set_option maxRecDepth 100000 in
set_option maxHeartbeats 1000000 in
theorem adler_spec (s : List UInt8) (h : s.length ≤ 9223372036854775000) : Spec Tryd.prog 45 #[str s] [] (Ret fun v hl => v = .int .u32 (Sums.adler s) ∧ hl = []) := by
 refine Spec.enter Tryd.func45 rfl rfl rfl (fun F w0 => ?_)
 dsimp only [argL, List.cons_append, List.nil_append]
 refine CG.sr ?_
 refine G.as ?_
 refine G.nil ?_
 refine EN.tsr ?_
 refine G.e rfl rfl rfl rfl (e_alloc rfl zl_115_F4) (fun _ _ _ _ _ _ => trivial) ?_
 rintro _ _ ⟨b3, rfl, rfl⟩
 refine G.nil ?_
 refine EN.tsr ?_
 refine G.mv ?_
 refine G.call (xs := [_, _]) rfl rfl (adlerWrite_spec b3 s h) bd_69_F4 rfl rfl rfl rfl tK (fun _ _ _ _ _ _ => trivial) ?_
 rintro _ _ ⟨rfl, rfl⟩
 try dsimp only [List.cons_append, List.nil_append]
 refine G.nil ?_
 refine EN.tsr ?_
 refine G.call (xs := [_]) rfl rfl (adlerSum_spec b3 s) bd_70_F4 rfl rfl rfl rfl tK (fun _ _ _ _ _ _ => trivial) ?_
 rintro _ _ ⟨rfl, rfl⟩
 try dsimp only [List.cons_append, List.nil_append]
 refine G.as ?_
 refine G.nil ?_
 refine EN.then ?_
 refine CG.ret ?_
 exact fin_ret1 rfl rfl tK sF (⟨rfl, rfl⟩) _ (.inl rfl)

set_option maxRecDepth 100000 in
set_option maxHeartbeats 1000000 in
theorem digit_spec (c : UInt8) : Spec Tryd.prog 39 #[.int .u8 c.toNat] [] (Ret fun v hl => v = .int .i64 (Sums.digit c) ∧ hl = []) := by
 have hc := c.toNat_lt
 refine Spec.enter Tryd.func39 rfl rfl rfl (fun F w0 => ?_)
 dsimp only [argL, List.cons_append, List.nil_append]
 refine CG.sr ?_
 refine G.as ?_
 refine G.nil ?_
 refine EN.ts ?_
 refine CG.block ?_
 refine CG.sr ?_
 refine G.mv ?_
 refine G.q rfl rfl rfl rfl (q_geq rfl rfl rfl) ?_
 refine G.mv ?_
 refine G.split (t := 6) rfl (fun g6 => ?_) (fun g6 => ?_)
 ·
  refine G.mv ?_
  refine G.q rfl rfl rfl rfl (q_leq rfl rfl rfl) ?_
  refine G.q rfl rfl rfl rfl (q_pick_t rfl rfl rfl) ?_
  refine G.as ?_
  refine G.nil ?_
  refine EN.then ?_
  refine CG.cond rfl (fun h3 => ?_) (fun h3 => ?_)
  ·
   refine CG.sr ?_
   refine G.mv ?_
   first | refine G.q rfl rfl rfl rfl (q_subw rfl rfl rfl lOm lOm) ?_ | refine G.q rfl rfl rfl rfl (q_sub rfl rfl rfl) ?_
   first | refine G.q rfl rfl rfl rfl (q_conv_in rfl rfl is_5_F4 ik_3_F4 (wrap64_in oM)) ?_ | refine G.q rfl rfl rfl rfl (q_conv rfl rfl is_5_F4 ik_3_F4) ?_
   refine G.as ?_
   refine G.nil ?_
   refine EN.sub (sC 2 Sub.nil) ?_
   refine EN.then ?_
   refine CG.ret ?_
   refine EN.in_ret ?_
   refine EN.then_ret ?_
   first
     | rw [show ((c.toNat : Int) - 48) = Sums.digit c from by unfold Sums.digit; rw [if_pos oM]]
     | rw [show ((c.toNat : Int) - 97 + 10) = Sums.digit c from by unfold Sums.digit; rw [if_neg oM, if_pos oM]]
     | rw [show (-1 : Int) = Sums.digit c from by unfold Sums.digit; rw [if_neg oM, if_neg oM]]
   exact fin_ret1 rfl rfl tK sF (⟨rfl, rfl⟩) _ (.inl rfl)
  ·
   refine CG.sr ?_
   refine G.mv ?_
   refine G.q rfl rfl rfl rfl (q_geq rfl rfl rfl) ?_
   refine G.mv ?_
   refine G.split (t := 16) rfl (fun g16 => ?_) (fun g16 => ?_)
   ·
    refine G.mv ?_
    refine G.q rfl rfl rfl rfl (q_leq rfl rfl rfl) ?_
    refine G.q rfl rfl rfl rfl (q_pick_t rfl rfl rfl) ?_
    refine G.as ?_
    refine G.nil ?_
    refine EN.sub (sC 0 (sC 2 (sC 13 Sub.nil))) ?_
    refine EN.then ?_
    refine CG.cond rfl (fun h13 => ?_) (fun h13 => ?_)
    ·
     refine CG.sr ?_
     refine G.mv ?_
     first | refine G.q rfl rfl rfl rfl (q_subw rfl rfl rfl lOm lOm) ?_ | refine G.q rfl rfl rfl rfl (q_sub rfl rfl rfl) ?_
     first | refine G.q rfl rfl rfl rfl (q_conv_in rfl rfl is_5_F4 ik_3_F4 (wrap64_in oM)) ?_ | refine G.q rfl rfl rfl rfl (q_conv rfl rfl is_5_F4 ik_3_F4) ?_
     first | refine G.q rfl rfl rfl rfl (q_add_i rfl rfl rfl oM) ?_ | refine G.q rfl rfl rfl rfl (q_add rfl rfl rfl) ?_
     refine G.as ?_
     refine G.nil ?_
     refine EN.then ?_
     refine CG.ret ?_
     refine EN.in_ret ?_
     refine EN.then_ret ?_
     first
       | rw [show ((c.toNat : Int) - 48) = Sums.digit c from by unfold Sums.digit; rw [if_pos oM]]
       | rw [show ((c.toNat : Int) - 97 + 10) = Sums.digit c from by unfold Sums.digit; rw [if_neg oM, if_pos oM]]
       | rw [show (-1 : Int) = Sums.digit c from by unfold Sums.digit; rw [if_neg oM, if_neg oM]]
     exact fin_ret1 rfl rfl tK sF (⟨rfl, rfl⟩) _ (.inl rfl)
    ·
     refine CG.skip ?_
     refine EN.in_normal ?_
     refine EN.tsr ?_
     refine G.as ?_
     refine G.nil ?_
     refine EN.then ?_
     refine CG.ret ?_
     first
       | rw [show ((c.toNat : Int) - 48) = Sums.digit c from by unfold Sums.digit; rw [if_pos oM]]
       | rw [show ((c.toNat : Int) - 97 + 10) = Sums.digit c from by unfold Sums.digit; rw [if_neg oM, if_pos oM]]
       | rw [show (-1 : Int) = Sums.digit c from by unfold Sums.digit; rw [if_neg oM, if_neg oM]]
     exact fin_ret1 rfl rfl tK sF (⟨rfl, rfl⟩) _ (.inl rfl)
   ·
    refine G.skip rfl rfl rfl ?_
    refine G.skip rfl rfl rfl ?_
    refine G.q rfl rfl rfl rfl (q_pick_f rfl rfl rfl) ?_
    refine G.as ?_
    refine G.nil ?_
    refine EN.sub (sC 0 (sC 2 (sC 13 Sub.nil))) ?_
    refine EN.then ?_
    refine CG.cond_f rfl ?_
    refine CG.skip ?_
    refine EN.in_normal ?_
    refine EN.tsr ?_
    refine G.as ?_
    refine G.nil ?_
    refine EN.then ?_
    refine CG.ret ?_
    first
      | rw [show ((c.toNat : Int) - 48) = Sums.digit c from by unfold Sums.digit; rw [if_pos oM]]
      | rw [show ((c.toNat : Int) - 97 + 10) = Sums.digit c from by unfold Sums.digit; rw [if_neg oM, if_pos oM]]
      | rw [show (-1 : Int) = Sums.digit c from by unfold Sums.digit; rw [if_neg oM, if_neg oM]]
    exact fin_ret1 rfl rfl tK sF (⟨rfl, rfl⟩) _ (.inl rfl)
 ·
  refine G.skip rfl rfl rfl ?_
  refine G.skip rfl rfl rfl ?_
  refine G.q rfl rfl rfl rfl (q_pick_f rfl rfl rfl) ?_
  refine G.as ?_
  refine G.nil ?_
  refine EN.then ?_
  refine CG.cond_f rfl ?_
  refine CG.sr ?_
  refine G.mv ?_
  refine G.q rfl rfl rfl rfl (q_geq rfl rfl rfl) ?_
  refine G.mv ?_
  refine G.split (t := 16) rfl (fun g16 => ?_) (fun g16 => ?_)
  ·
   refine G.mv ?_
   refine G.q rfl rfl rfl rfl (q_leq rfl rfl rfl) ?_
   refine G.q rfl rfl rfl rfl (q_pick_t rfl rfl rfl) ?_
   refine G.as ?_
   refine G.nil ?_
   refine EN.sub (sC 0 (sC 2 (sC 13 Sub.nil))) ?_
   refine EN.then ?_
   refine CG.cond rfl (fun h13 => ?_) (fun h13 => ?_)
   ·
    refine CG.sr ?_
    refine G.mv ?_
    first | refine G.q rfl rfl rfl rfl (q_subw rfl rfl rfl lOm lOm) ?_ | refine G.q rfl rfl rfl rfl (q_sub rfl rfl rfl) ?_
    first | refine G.q rfl rfl rfl rfl (q_conv_in rfl rfl is_5_F4 ik_3_F4 (wrap64_in oM)) ?_ | refine G.q rfl rfl rfl rfl (q_conv rfl rfl is_5_F4 ik_3_F4) ?_
    first | refine G.q rfl rfl rfl rfl (q_add_i rfl rfl rfl oM) ?_ | refine G.q rfl rfl rfl rfl (q_add rfl rfl rfl) ?_
    refine G.as ?_
    refine G.nil ?_
    refine EN.then ?_
    refine CG.ret ?_
    refine EN.in_ret ?_
    refine EN.then_ret ?_
    first
      | rw [show ((c.toNat : Int) - 48) = Sums.digit c from by unfold Sums.digit; rw [if_pos oM]]
      | rw [show ((c.toNat : Int) - 97 + 10) = Sums.digit c from by unfold Sums.digit; rw [if_neg oM, if_pos oM]]
      | rw [show (-1 : Int) = Sums.digit c from by unfold Sums.digit; rw [if_neg oM, if_neg oM]]
    exact fin_ret1 rfl rfl tK sF (⟨rfl, rfl⟩) _ (.inl rfl)
   ·
    refine CG.skip ?_
    refine EN.in_normal ?_
    refine EN.tsr ?_
    refine G.as ?_
    refine G.nil ?_
    refine EN.then ?_
    refine CG.ret ?_
    first
      | rw [show ((c.toNat : Int) - 48) = Sums.digit c from by unfold Sums.digit; rw [if_pos oM]]
      | rw [show ((c.toNat : Int) - 97 + 10) = Sums.digit c from by unfold Sums.digit; rw [if_neg oM, if_pos oM]]
      | rw [show (-1 : Int) = Sums.digit c from by unfold Sums.digit; rw [if_neg oM, if_neg oM]]
    exact fin_ret1 rfl rfl tK sF (⟨rfl, rfl⟩) _ (.inl rfl)
  ·
   refine G.skip rfl rfl rfl ?_
   refine G.skip rfl rfl rfl ?_
   refine G.q rfl rfl rfl rfl (q_pick_f rfl rfl rfl) ?_
   refine G.as ?_
   refine G.nil ?_
   refine EN.sub (sC 0 (sC 2 (sC 13 Sub.nil))) ?_
   refine EN.then ?_
   refine CG.cond_f rfl ?_
   refine CG.skip ?_
   refine EN.in_normal ?_
   refine EN.tsr ?_
   refine G.as ?_
   refine G.nil ?_
   refine EN.then ?_
   refine CG.ret ?_
   first
     | rw [show ((c.toNat : Int) - 48) = Sums.digit c from by unfold Sums.digit; rw [if_pos oM]]
     | rw [show ((c.toNat : Int) - 97 + 10) = Sums.digit c from by unfold Sums.digit; rw [if_neg oM, if_pos oM]]
     | rw [show (-1 : Int) = Sums.digit c from by unfold Sums.digit; rw [if_neg oM, if_neg oM]]
   exact fin_ret1 rfl rfl tK sF (⟨rfl, rfl⟩) _ (.inl rfl)

set_option maxRecDepth 100000 in
set_option maxHeartbeats 1000000 in
theorem hex_spec (s : List UInt8) (h : s.length ≤ 1000000000) : Spec Tryd.prog 26 #[str s] [] (Ret fun v hl => v = str (Sums.hex s) ∧ hl = []) := by
 refine Spec.enter Tryd.func26 rfl rfl rfl (fun F w0 => ?_)
 dsimp only [argL, List.cons_append, List.nil_append]
 refine CG.sr ?_
 refine G.as ?_
 refine G.nil ?_
 refine EN.tsr ?_
 refine G.as ?_
 refine G.nil ?_
 refine EN.ts ?_
 refine CG.sr ?_
 refine G.mv ?_
 refine G.q rfl rfl rfl rfl (q_len_str rfl rfl us_9_F4) ?_
 refine G.mv ?_
 refine G.nil ?_
 refine EN.then ?_
 refine CG.block ?_
 refine CG.ownNil 5 1 ?_
 refine CG.loopI (fun m L H => ∃ k : Nat, ∃ (v : Value), k ≤ s.length ∧ m = (s.length) - k ∧ L = [(0, str s), (3, v), (6, .int .i64 s.length), (7, .int .i64 k)] ∧ H = [own 5 1 v (Sums.hex (s.take k)).length ((Sums.hex (s.take k)).map u8v)] ++ F) ((s.length) - 0) (hl := [_]) (⟨0, .slice none 0 0, Nat.zero_le _, rfl, rfl, rfl⟩) sB rfl tK sF ?_
 rintro m L H ⟨k, v, hk, rfl, rfl, rfl⟩
 try dsimp only [List.cons_append, List.nil_append]
 refine CG.sr ?_
 refine G.q rfl rfl rfl rfl (q_lss rfl rfl rfl) ?_
 refine G.nil ?_
 refine EN.ts ?_
 refine CG.cond rfl (fun h8 => ?_) (fun h8 => ?_)
 ·
  obtain ⟨c, hc⟩ := get_some (l := s) (k := k) oM
  have hs := take_snoc hc
  have hc8 := u8_lt c
  have hl := Sums.hex_len (s.take k)
  rw [List.length_take, Nat.min_eq_left oM] at hl
  have h1 := Sums.hexDigit_get (n := c.toNat / 16) oM
  have h2 := Sums.hexDigit_get (n := c.toNat % 16) oM
  refine CG.skip ?_
  refine EN.ts ?_
  refine CG.block ?_
  refine CG.sr ?_
  refine G.mv ?_
  refine G.as ?_
  refine G.nil ?_
  refine EN.then ?_
  refine CG.regT [] mixed (by kernel_rfl) ?_
  refine G.mv ?_
  refine G.mv ?_
  refine G.mv ?_
  refine G.q rfl rfl rfl rfl (q_index rfl rfl rfl us_9_F4 (hc)) ?_
  refine G.q rfl rfl rfl rfl (q_shrc (d := 16) rfl rfl rfl (by decide) (by decide)) ?_
  refine G.q rfl rfl rfl rfl (q_index rfl rfl rfl us_9_F4 (h1)) ?_
  refine G.mv ?_
  refine G.mv ?_
  refine G.q rfl rfl rfl rfl (q_index rfl rfl rfl us_9_F4 (hc)) ?_
  first | refine G.q rfl rfl rfl rfl (q_andm (j := 4) (d := 16) rfl rfl rfl lOm lOm (by decide) (by decide) (by decide)) ?_ | refine G.q rfl rfl rfl rfl (q_and rfl rfl rfl) ?_
  refine G.q rfl rfl rfl rfl (q_index rfl rfl rfl us_9_F4 (h2)) ?_
  refine G.e rfl rfl rfl rfl (e_bslice rfl rfl (bs_39_2_all_F4 _ _)) (fun _ _ _ _ _ _ => trivial) ?_
  rintro _ _ ⟨b21, rfl, rfl⟩
  refine G.e rfl rfl rfl rfl (e_append rfl rfl rfl se_39_F4 nf_5_F4 rfl tK1 mB (by rfl) (by simp [Value.oneCell', str]) oM) (fun _ _ _ _ _ _ => trivial) ?_
  rintro _ _ rfl
  rw [own_hex, ← hs]
  refine G.ownShape tK1 ?_
  rintro ad c' rfl
  refine G.as ?_
  refine G.nil ?_
  refine EN.sub (sC 0 (sC 3 (sC 6 (sC 7 Sub.nil)))) ?_
  refine EN.in_normal ?_
  refine EN.tr ?_
  first | refine G.q rfl rfl rfl rfl (q_add_i rfl rfl rfl oM) ?_ | refine G.q rfl rfl rfl rfl (q_add rfl rfl rfl) ?_
  refine G.mv ?_
  refine G.nil ?_
  exact EN.round (hl := [_]) ((s.length) - (k + 1)) oM (⟨k + 1, _, by omega, rfl, rfl, rfl⟩) sB rfl tK sF
 ·
  obtain rfl : k = s.length := by omega
  refine CG.exit ?_
  refine EN.then_exit ?_
  refine EN.then_exit ?_
  refine EN.in_here ?_
  refine EN.tsr ?_
  refine G.mv ?_
  refine G.r rfl rfl rfl rfl (r_b2s rfl rfl bT_39_9_F4 mB) ?_
  refine G.as ?_
  refine G.nil ?_
  refine EN.then ?_
  refine CG.ret ?_
  rw [List.take_length]
  exact fin_ret1 rfl rfl tK sF (⟨rfl, rfl⟩) _ (.inl rfl)

set_option maxRecDepth 100000 in
set_option maxHeartbeats 1000000 in
theorem unhex_spec (s : List UInt8) (h : s.length ≤ 1000000000) : Spec Tryd.prog 20 #[str s] [] (Ret fun v hl => v = .tuple (unhexV s) ∧ hl = []) := by
 refine Spec.enter Tryd.func20 rfl rfl rfl (fun F w0 => ?_)
 dsimp only [argL, List.cons_append, List.nil_append]
 refine CG.sr ?_
 refine G.as ?_
 refine G.as ?_
 refine G.nil ?_
 refine EN.tsr ?_
 refine G.as ?_
 refine G.nil ?_
 refine EN.ts ?_
 refine CG.sr ?_
 refine G.as ?_
 refine G.nil ?_
 refine EN.then ?_
 refine CG.block ?_
 refine CG.ownNil 5 1 ?_
 refine CG.loopI (fun m L H => ∃ (k : Nat) (out : List UInt8) (v : Value), 2 * k ≤ s.length ∧ out.length = k ∧ Sums.unhexGo (s.drop (2 * k)) out = Sums.unhex s ∧ m = s.length - 2 * k ∧ L = [(0, str s), (4, v), (5, .int .i64 (2 * k : Nat))] ∧ H = [own 5 1 v out.length (out.map u8v)] ++ F) (s.length - 0) (hl := [_]) (⟨0, [], .slice none 0 0, by omega, rfl, rfl, rfl, rfl, rfl⟩) sB rfl tK sF ?_
 rintro m L H ⟨k, out, v, hk, hout, hgo, rfl, rfl, rfl⟩
 try dsimp only [List.cons_append, List.nil_append]
 refine CG.seq ?_
 refine CG.sr ?_
 refine G.mv ?_
 first | refine G.q rfl rfl rfl rfl (q_add_i rfl rfl rfl oM) ?_ | refine G.q rfl rfl rfl rfl (q_add rfl rfl rfl) ?_
 refine G.mv ?_
 refine G.q rfl rfl rfl rfl (q_len_str rfl rfl us_9_F4) ?_
 refine G.q rfl rfl rfl rfl (q_lss rfl rfl rfl) ?_
 refine G.nil ?_
 refine EN.then ?_
 refine CG.cond rfl (fun h12 => ?_) (fun h12 => ?_)
 ·
  obtain ⟨a, ha⟩ := get_some (l := s) (k := 2 * k) oM
  obtain ⟨b, hb⟩ := get_some (l := s) (k := 2 * k + 1) oM
  rw [drop2 ha hb, Sums.unhexGo] at hgo
  have hda := digit_range a
  have hdb := digit_range b
  have e5 : (((2 * k : Nat) : Int) + 1) = ((2 * k + 1 : Nat) : Int) := by omega
  have e6 : (((2 * k : Nat) : Int) + 2) = ((2 * (k + 1) : Nat) : Int) := by omega
  refine CG.skip ?_
  refine EN.ts ?_
  refine CG.block ?_
  refine CG.seq ?_
  refine CG.regT [] mixed (by kernel_rfl) ?_
  refine G.mv ?_
  refine G.mv ?_
  refine G.q rfl rfl rfl rfl (q_index rfl rfl rfl us_9_F4 (ha)) ?_
  refine G.call (xs := [_]) rfl rfl (digit_spec a) bd_39_F4 rfl rfl rfl rfl tK (fun _ _ _ _ _ _ => trivial) ?_
  rintro _ _ ⟨rfl, rfl⟩
  try dsimp only [List.cons_append, List.nil_append]
  refine G.mv ?_
  refine G.mv ?_
  first | refine G.q rfl rfl rfl rfl (q_add_i rfl rfl rfl oM) ?_ | refine G.q rfl rfl rfl rfl (q_add rfl rfl rfl) ?_
  rw [e5]
  refine G.q rfl rfl rfl rfl (q_index rfl rfl rfl us_9_F4 (hb)) ?_
  refine G.call (xs := [_]) rfl rfl (digit_spec b) bd_39_F4 rfl rfl rfl rfl tK (fun _ _ _ _ _ _ => trivial) ?_
  rintro _ _ ⟨rfl, rfl⟩
  try dsimp only [List.cons_append, List.nil_append]
  refine G.as ?_
  refine G.as ?_
  refine G.nil ?_
  refine EN.sub (sC 0 (sC 4 (sC 5 (sC 6 (sC 7 Sub.nil))))) ?_
  refine EN.ts ?_
  refine CG.sr ?_
  refine G.mv ?_
  refine G.q rfl rfl rfl rfl (q_lss rfl rfl rfl) ?_
  refine G.mv ?_
  refine G.split (t := 26) rfl (fun g26 => ?_) (fun g26 => ?_)
  ·
   refine G.skip rfl rfl rfl ?_
   refine G.skip rfl rfl rfl ?_
   refine G.q rfl rfl rfl rfl (q_pick_t rfl rfl rfl) ?_
   refine G.nil ?_
   refine EN.then ?_
   refine CG.cond_t rfl ?_
   refine CG.seq ?_
   have hn : Sums.digit a < 0 ∨ Sums.digit b < 0 := by first | (left; assumption) | (right; simpa using h29)
   rw [if_pos hn] at hgo
   have eU := unhexV_n hgo
   refine CG.reg ?_
   refine G.as ?_
   refine G.as ?_
   refine G.nil ?_
   refine EN.then ?_
   refine CG.ret ?_
   refine EN.then_ret ?_
   refine EN.in_ret ?_
   refine EN.then_ret ?_
   refine EN.then_ret ?_
   refine EN.in_ret ?_
   refine EN.then_ret ?_
   exact fin_ret2 rfl rfl rfl tK sF (⟨congrArg _ eU, rfl⟩) _ (.inl rfl)
  ·
   refine G.mv ?_
   refine G.q rfl rfl rfl rfl (q_lss rfl rfl rfl) ?_
   refine G.q rfl rfl rfl rfl (q_pick_f rfl rfl rfl) ?_
   refine G.nil ?_
   refine EN.then ?_
   refine CG.condB rfl (fun h29 => ?_) (fun h29 => ?_)
   ·
    refine CG.seq ?_
    have hn : Sums.digit a < 0 ∨ Sums.digit b < 0 := by first | (left; assumption) | (right; simpa using h29)
    rw [if_pos hn] at hgo
    have eU := unhexV_n hgo
    refine CG.reg ?_
    refine G.as ?_
    refine G.as ?_
    refine G.nil ?_
    refine EN.then ?_
    refine CG.ret ?_
    refine EN.then_ret ?_
    refine EN.in_ret ?_
    refine EN.then_ret ?_
    refine EN.then_ret ?_
    refine EN.in_ret ?_
    refine EN.then_ret ?_
    exact fin_ret2 rfl rfl rfl tK sF (⟨congrArg _ eU, rfl⟩) _ (.inl rfl)
   ·
    refine CG.skip ?_
    refine EN.then ?_
    have h29b : ¬ Sums.digit b < 0 := by simpa using h29
    rw [if_neg oM] at hgo
    have hgo2 : Sums.unhexGo (s.drop (2 * (k + 1))) (out ++ [u8i (Sums.digit a * 16 + Sums.digit b)]) = Sums.unhex s := hgo
    refine CG.reg ?_
    refine G.mv ?_
    refine G.mv ?_
    first | refine G.q rfl rfl rfl rfl (q_shlcw (d := 16) rfl rfl rfl (by decide) (by decide) lOm lOm) ?_ | refine G.q rfl rfl rfl rfl (q_shlc (d := 16) rfl rfl rfl (by decide) (by decide)) ?_
    refine G.mv ?_
    first | refine G.q rfl rfl rfl rfl (q_ord (j := 4) (d := 16) rfl rfl rfl (by decide) lOm lOm lOm (by decide)) ?_ | refine G.q rfl rfl rfl rfl (q_or rfl rfl rfl) ?_
    refine G.q rfl rfl rfl rfl (q_conv_u8 rfl rfl is_3_F4 ik_5_F4) ?_
    refine G.e rfl rfl rfl rfl (e_bslice rfl rfl (bs_39_1_all_F4 _)) (fun _ _ _ _ _ _ => trivial) ?_
    rintro _ _ ⟨b36, rfl, rfl⟩
    refine G.e rfl rfl rfl rfl (e_append rfl rfl rfl se_39_F4 nf_5_F4 rfl tK1 mB (by rfl) (by simp [Value.oneCell', str]) oM) (fun _ _ _ _ _ _ => trivial) ?_
    rintro _ _ rfl
    rw [own_snoc2]
    refine G.ownShape tK1 ?_
    rintro ad c' rfl
    refine G.as ?_
    refine G.nil ?_
    refine EN.sub (sC 0 (sC 4 (sC 5 Sub.nil))) ?_
    refine EN.in_normal ?_
    refine EN.tr ?_
    refine G.mv ?_
    first | refine G.q rfl rfl rfl rfl (q_add_i rfl rfl rfl oM) ?_ | refine G.q rfl rfl rfl rfl (q_add rfl rfl rfl) ?_
    refine G.as ?_
    refine G.nil ?_
    rw [e6]
    exact EN.round (hl := [_]) (s.length - 2 * (k + 1)) oM (⟨k + 1, out ++ [u8i (Sums.digit a * 16 + Sums.digit b)], _, by omega, by simp [hout], hgo2, rfl, rfl, rfl⟩) sB rfl tK sF
 ·
  refine CG.exit ?_
  refine EN.then_exit ?_
  refine EN.then_exit ?_
  refine EN.in_here ?_
  refine EN.ts ?_
  refine CG.sr ?_
  refine G.mv ?_
  refine G.q rfl rfl rfl rfl (q_len_str rfl rfl us_9_F4) ?_
  first | refine G.q rfl rfl rfl rfl (q_rem_n rfl rfl rfl oM) ?_ | refine G.q rfl rfl rfl rfl (q_rem rfl rfl rfl oM) ?_
  refine G.q rfl rfl rfl rfl (q_neq rfl rfl rfl) ?_
  refine G.nil ?_
  refine EN.sub (sC 4 (sC 41 Sub.nil)) ?_
  refine EN.then ?_
  refine CG.cond rfl (fun h41 => ?_) (fun h41 => ?_)
  ·
   have hl1 : (s.drop (2 * k)).length = 1 := by rw [List.length_drop]; omega
   obtain ⟨c, hc⟩ := List.length_eq_one_iff.1 hl1
   rw [hc] at hgo
   have hend : Sums.unhexGo [c] out = none := rfl
   rw [hend] at hgo
   refine CG.seq ?_
   have eU := unhexV_n hgo
   refine CG.reg ?_
   refine G.as ?_
   refine G.as ?_
   refine G.nil ?_
   refine EN.then ?_
   refine CG.ret ?_
   refine EN.then_ret ?_
   exact fin_ret2 rfl rfl rfl tK sF (⟨congrArg _ eU, rfl⟩) _ (.inl rfl)
  ·
   rw [List.drop_eq_nil_of_le oM] at hgo
   unfold Sums.unhexGo at hgo
   refine CG.skip ?_
   refine EN.ts ?_
   have eU := unhexV_s hgo
   refine CG.reg ?_
   refine G.mv ?_
   refine G.r rfl rfl rfl rfl (r_b2s rfl rfl bT_39_9_F4 mB) ?_
   refine G.as ?_
   refine G.as ?_
   refine G.nil ?_
   refine EN.then ?_
   refine CG.ret ?_
   exact fin_ret2 rfl rfl rfl tK sF (⟨congrArg _ eU, rfl⟩) _ (.inl rfl)

end Go.Eng
