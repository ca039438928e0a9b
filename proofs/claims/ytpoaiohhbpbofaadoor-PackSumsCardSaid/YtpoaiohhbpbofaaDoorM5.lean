/-
  Joined by program out of the texts F23 F24 F25 E17 F26 F27 F28 F29 E18 F30 F31 F32 F33 F34 C1 C3 C4 C5: contracts for the functions that the law reaches, and the engine that proves them.
-/
import Derived.Test.YtpoaiohhbpbofaaDoorM4
import Derived.Test.YtpoaiohhbpbofaaDoorM2
import Derived.Carry
import Derived.Laws.IdiomStrings
import Derived.Test.YtpoaiohhbpbofaaDoorCards
import Derived.Test.YtpoaiohhbpbofaaDoorTie
import Derived.ProofKit
import Derived.OpenShut
import Derived.Deep.DeepHandedRow
import Derived.Lib.LaidTab
/-
  Packs written: Build.
-/
set_option linter.unusedVariables false
set_option linter.unusedSimpArgs false
namespace Go.Eng
open Go.Proofs
theorem ag_23_F23 : aggB Tryd.prog 23 = some true := by kernel_rfl
theorem ag_29_F23 : aggB Tryd.prog 29 = some true := by kernel_rfl
theorem ag_3_F23 : aggB Tryd.prog 3 = some false := by kernel_rfl
theorem ag_4_F23 : aggB Tryd.prog 4 = some false := by kernel_rfl
theorem ag_9_F23 : aggB Tryd.prog 9 = some false := by kernel_rfl
theorem bT_39_9_F23 : bytesT Tryd.prog 39 9 = some 5 := by kernel_rfl
theorem bd_14_F23 : bodied Tryd.prog 14 = true := by kernel_rfl
theorem bd_15_F23 : bodied Tryd.prog 15 = true := by kernel_rfl
theorem bd_16_F23 : bodied Tryd.prog 16 = true := by kernel_rfl
theorem bd_17_F23 : bodied Tryd.prog 17 = true := by kernel_rfl
theorem bd_18_F23 : bodied Tryd.prog 18 = true := by kernel_rfl
theorem bd_19_F23 : bodied Tryd.prog 19 = true := by kernel_rfl
theorem bd_20_F23 : bodied Tryd.prog 20 = true := by kernel_rfl
theorem bd_21_F23 : bodied Tryd.prog 21 = true := by kernel_rfl
theorem bd_22_F23 : bodied Tryd.prog 22 = true := by kernel_rfl
theorem bs_52_1_all_F23 : ∀ (x0 : Int) (w : World), (Instr.buildSlice 52 1 [(0, .int .i64 x0)].toArray).run Tryd.prog w = .ok (.slice (some ⟨w.heap.size, 0, none⟩) 1 1) { w with heap := w.heap.push (.cells [.int .i64 x0].toArray 3) } := fun _ _ => by kernel_rfl
theorem fo_23_0_F23 : fieldOff Tryd.prog 23 0 = some 0 := by kernel_rfl
theorem fo_23_1_F23 : fieldOff Tryd.prog 23 1 = some 1 := by kernel_rfl
theorem fo_29_0_F23 : fieldOff Tryd.prog 29 0 = some 0 := by kernel_rfl
theorem fo_29_1_F23 : fieldOff Tryd.prog 29 1 = some 2 := by kernel_rfl
theorem fo_29_2_F23 : fieldOff Tryd.prog 29 2 = some 3 := by kernel_rfl
theorem fo_29_3_F23 : fieldOff Tryd.prog 29 3 = some 4 := by kernel_rfl
theorem ik_51_F23 : intK Tryd.prog 51 = some .u64 := by kernel_rfl
theorem is_3_F23 : (Tryd.prog.underlying 3).isSome = true := by kernel_rfl
theorem nf_3_F23 : infoB Tryd.prog 3 = some (some [.int .i64 0], 1, 8) := by kernel_rfl
theorem se_30_F23 : sliceE Tryd.prog 30 = some 29 := by kernel_rfl
theorem se_52_F23 : sliceE Tryd.prog 52 = some 3 := by kernel_rfl
theorem sz_23_F23 : sizeB Tryd.prog 23 = some 2 := by kernel_rfl
theorem sz_29_F23 : sizeB Tryd.prog 29 = some 5 := by kernel_rfl
theorem sz_3_F23 : sizeB Tryd.prog 3 = some 1 := by kernel_rfl
theorem us_9_F23 : Tryd.prog.underlying 9 = some .string := by kernel_rfl
theorem zl_23_F23 : zeroL Tryd.prog 23 = some [.int .i64 0, str []] := by kernel_rfl
theorem zl_29_F23 : zeroL Tryd.prog 29 = some [.int .i64 0, str [], .bool false, .int .i64 0, .bool false] := by kernel_rfl

structure Itm where
  kind : Int
  data : List UInt8
  delta : Bool
  base : Int
  byName : Bool
def Itm.cells (x : Itm) : List Value := [.int .i64 x.kind, str x.data, .bool x.delta, .int .i64 x.base, .bool x.byName]
theorem itm_len (x : Itm) : x.cells.length = 5 := rfl
theorem itm_cells (x : Itm) : x.cells = [.int .i64 x.kind, str x.data, .bool x.delta, .int .i64 x.base, .bool x.byName] := rfl
def Itm.none : Itm := ⟨0, [], false, 0, false⟩
/-- a zlib frame of a text -/
def zw (s : List UInt8) : List UInt8 := [120, 1] ++ Defl.deflate s ++ Sums.big (Sums.adler s) 4
theorem zw_eq (s : List UInt8) : [120, 1] ++ Defl.deflate s ++ Sums.big (Sums.adler s) 4 = zw s := rfl
theorem zw_len (s : List UInt8) (h : s.length ≤ 65535) : (zw s).length ≤ 65700 := by
  have := Defl.deflate_len s h
  unfold zw; simp [Sums.big]; omega
def stepB (items : List Itm) (i : Nat) (x : Itm) (out : List UInt8) (ats : List Nat) : Pk.Res (List UInt8) :=
  if ocheck x.kind x.data ≠ 0 then .err (ocheck x.kind x.data) else
  if x.delta = true ∧ (x.base < 0 ∨ (i : Int) ≤ x.base) then .err 1 else
  if x.delta = true ∧ (items.getD x.base.toNat Itm.none).kind ≠ x.kind then .err 10 else
  if x.delta = false then .ok (out ++ (headL x.kind.toNat x.data.length ++ zw x.data)) else
  if 65000 < (Dlt.make (items.getD x.base.toNat Itm.none).data x.data).length then .err 2 else
  if x.byName = true then .ok (out ++ (headL 7 (Dlt.make (items.getD x.base.toNat Itm.none).data x.data).length ++ Sha.sum1 (encode (items.getD x.base.toNat Itm.none).kind (items.getD x.base.toNat Itm.none).data) ++ zw (Dlt.make (items.getD x.base.toNat Itm.none).data x.data)))
  else .ok (out ++ (headL 6 (Dlt.make (items.getD x.base.toNat Itm.none).data x.data).length ++ backL (out.length - ats.getD x.base.toNat 0) ++ zw (Dlt.make (items.getD x.base.toNat Itm.none).data x.data)))
def goB (items : List Itm) : Nat → Nat → List UInt8 → List Nat → Pk.Res (List UInt8)
  | 0, _, out, _ => .ok out
  | k + 1, i, out, ats => match items[i]? with
    | .none => .ok out
    | some x => match stepB items i x out ats with
      | .err e => .err e
      | .ok o => goB items k (i + 1) o (ats ++ [out.length])
def bR (r : Pk.Res (List UInt8)) : List UInt8 × Nat := match r with
  | .err e => ([], e)
  | .ok o => (o ++ Sha.sum1 o, 0)
def headO (n : Nat) : List UInt8 := [80, 65, 67, 75] ++ Sums.big 2 4 ++ Sums.big (n : Int) 4
/-- the pack, the error -/
def buildE (items : List Itm) : List UInt8 × Nat := if 1000 < items.length then ([], 2) else bR (goB items items.length 0 (headO items.length) [])
theorem digit_hex {n : Nat} (h : n < 16) : Sums.digit (Sums.hexDigit n) = (n : Int) := by
  have : ∀ k : _root_.Fin 16, Sums.digit (Sums.hexDigit k.val) = (k.val : Int) := by decide +kernel
  exact this ⟨n, h⟩
theorem unhexGo_hex (s : List UInt8) : ∀ out, Sums.unhexGo (Sums.hex s) out = some (out ++ s) := by
  induction s with
  | nil => intro out; simp [Sums.hex, Sums.unhexGo]
  | cons c s ih =>
    intro out
    have hc := c.toNat_lt
    have e : Sums.hex (c :: s) = Sums.hexDigit (c.toNat / 16) :: Sums.hexDigit (c.toNat % 16) :: Sums.hex s := rfl
    rw [e, Sums.unhexGo, digit_hex (by omega), digit_hex (by omega), if_neg (by omega), ih]
    have : u8i (((c.toNat / 16 : Nat) : Int) * 16 + ((c.toNat % 16 : Nat) : Int)) = c := by
      rw [show (((c.toNat / 16 : Nat) : Int) * 16 + ((c.toNat % 16 : Nat) : Int)) = (c.toNat : Int) by omega]; exact u8i_toNat c
    rw [this]; simp
theorem unhexV_hex (s : List UInt8) : unhexV (Sums.hex s) = #[str s, .bool true] := by
  unfold unhexV Sums.unhex; rw [unhexGo_hex]; rfl
theorem ocheck_kind {k : Int} {d : List UInt8} (h : ocheck k d = 0) : 1 ≤ k ∧ k ≤ 4 := by
  unfold ocheck at h
  split at h
  · cases h
  · rename_i h1
    rw [oname_nil] at h1; omega
theorem ats_ok {ats : List Nat} {out o : List UInt8} (h : ∀ a ∈ ats, a ≤ out.length) (ho : out.length ≤ o.length) : ∀ a ∈ ats ++ [out.length], a ≤ o.length := by
  intro a ha
  rcases List.mem_append.1 ha with h1 | h1
  · have := h a h1; omega
  · rw [List.mem_singleton.1 h1]; exact ho
theorem get_itm {items : List Itm} {j : Nat} {y : Itm} (h : items[j]? = some y) : items.getD j Itm.none = y := by rw [List.getD_eq_getElem?_getD, h]; rfl

attribute [local irreducible] cel own exS ownG tabH TabI Sums.hex Sha.sum1 zw headL backL Dlt.make encode ocheck Sums.big

set_option maxRecDepth 100000 in
set_option maxHeartbeats 1000000 in
theorem build_spec {tz : TypeId × Nat × Nat} (items : List Itm) (ad : Option Addr) (c0 : Nat) : Spec Tryd.prog 7 #[.slice ad items.length c0] [TabI tz, ownO 29 5 (.slice ad items.length c0) items.length (items.flatMap Itm.cells)] (Ret fun v hl => v = .tuple #[str (buildE items).1, .int .i64 ((buildE items).2 : Nat)] ∧ hl = [TabI tz, ownO 29 5 (.slice ad items.length c0) items.length (items.flatMap Itm.cells)]) := by
 have hz1 : (headO items.length).length = 12 := by simp [headO, Sums.big]
 refine Spec.enter Tryd.func7 rfl rfl rfl (fun F w0 => ?_)
 dsimp only [argL, List.cons_append, List.nil_append]
 refine CG.sr ?_
 refine G.as ?_
 refine G.as ?_
 refine G.nil ?_
 refine EN.ts ?_
 refine CG.sr ?_
 refine G.mv ?_
 refine G.q rfl rfl rfl rfl (q_len_sl rfl rfl se_30_F23) ?_
 refine G.q rfl rfl rfl rfl (q_gtr rfl rfl rfl) ?_
 refine G.nil ?_
 refine EN.then ?_
 refine CG.cond rfl (fun h17 => ?_) (fun h17 => ?_)
 ·
  have hE : buildE items = ([], 2) := if_pos oM
  refine CG.sr ?_
  refine G.as ?_
  refine G.as ?_
  refine G.nil ?_
  refine EN.then ?_
  refine CG.ret ?_
  refine EN.then_ret ?_
  exact fin_ret2 rfl rfl rfl tK sF (⟨by rw [hE] <;> rfl, rfl⟩) _ (.inl rfl)
 ·
  have hnl : items.length ≤ 1000 := by omega
  have hE0 : buildE items = bR (goB items items.length 0 (headO items.length) []) := if_neg oM
  refine CG.skip ?_
  refine EN.tsr ?_
  refine G.call (xs := [_, _]) rfl rfl (big_spec 2 4 oM oM) bd_14_F23 rfl rfl rfl rfl tK (fun _ _ _ _ _ _ => trivial) ?_
  rintro _ _ ⟨rfl, rfl⟩
  try dsimp only [List.cons_append, List.nil_append]
  refine G.q rfl rfl rfl rfl (q_add_s rfl rfl rfl (by simp [Sums.big])) ?_
  refine G.mv ?_
  refine G.q rfl rfl rfl rfl (q_len_sl rfl rfl se_30_F23) ?_
  first | refine G.q rfl rfl rfl rfl (q_conv_in rfl rfl is_3_F23 ik_51_F23 (wrapu_in (b := 64) rfl rfl oM)) ?_ | refine G.q rfl rfl rfl rfl (q_conv rfl rfl is_3_F23 ik_51_F23) ?_
  refine G.call (xs := [_, _]) rfl rfl (big_spec (items.length : Int) 4 oM oM) bd_14_F23 rfl rfl rfl rfl tK (fun _ _ _ _ _ _ => trivial) ?_
  rintro _ _ ⟨rfl, rfl⟩
  try dsimp only [List.cons_append, List.nil_append]
  refine G.q rfl rfl rfl rfl (q_add_s rfl rfl rfl (by simp [Sums.big])) ?_
  refine G.as ?_
  refine G.nil ?_
  refine EN.sub (sC 0 (sC 2 (sC 3 (sC 4 Sub.nil)))) ?_
  refine EN.tsr ?_
  refine G.as ?_
  refine G.nil ?_
  refine EN.ts ?_
  refine CG.sr ?_
  refine G.mv ?_
  refine G.q rfl rfl rfl rfl (q_len_sl rfl rfl se_30_F23) ?_
  refine G.mv ?_
  refine G.nil ?_
  refine EN.then ?_
  refine CG.block ?_
  refine CG.ownNil 3 1 ?_
  rw [show (80 :: 65 :: 67 :: 75 :: Sums.big 2 4 ++ Sums.big (items.length : Int) 4 : List UInt8) = headO items.length from rfl]
  refine CG.loopI (fun m L H => ∃ (i : Nat) (out : List UInt8) (ats : List Nat) (av : Value), i + m = items.length ∧ out.length ≤ 12 + 70000 * i ∧ ats.length = i ∧ (∀ a ∈ ats, a ≤ out.length) ∧ (∀ (j : Nat) (y : Itm), j < i → items[j]? = some y → ocheck y.kind y.data = 0) ∧ goB items m i out ats = goB items items.length 0 (headO items.length) [] ∧ L = [(0, .slice ad items.length c0), (4, str out), (5, av), (25, .slice ad items.length c0), (26, .int .i64 items.length), (27, .int .i64 i)] ∧ H = [TabI tz, ownO 29 5 (.slice ad items.length c0) items.length (items.flatMap Itm.cells), own 3 1 av ats.length (ats.map iv)] ++ F) (items.length) (hl := [_, _, _]) (⟨0, headO items.length, [], .slice none 0 0, by omega, by omega, rfl, fun a h => (by cases h), fun j y h => oM, rfl, rfl, rfl⟩) sB rfl tK sF ?_
  rintro m L H ⟨i, out, ats, av, him, hol, hal, hat, hck, hgo, rfl, rfl⟩
  try dsimp only [List.cons_append, List.nil_append]
  refine CG.sr ?_
  refine G.q rfl rfl rfl rfl (q_lss rfl rfl rfl) ?_
  refine G.nil ?_
  refine EN.ts ?_
  refine CG.cond rfl (fun h28 => ?_) (fun h28 => ?_)
  ·
   obtain ⟨m, rfl⟩ : ∃ j, m = j + 1 := ⟨m - 1, by omega⟩
   have hil : i < items.length := by omega
   refine CG.someO (z := false) tK1 oM (fun g off had => ?_)
   subst had
   obtain ⟨x, hx⟩ := get_some hil
   rw [goB, hx] at hgo
   simp only at hgo
   have ei : (i : Int) + 1 = ((i + 1 : Nat) : Int) := by omega
   refine CG.skip ?_
   refine EN.ts ?_
   refine CG.block ?_
   refine CG.sr ?_
   refine G.mv ?_
   refine G.q rfl rfl rfl rfl (q_ixaddr rfl rfl rfl se_30_F23 sz_29_F23 (hil)) ?_
   refine G.r rfl rfl rfl rfl (r_loadOA rfl rfl ag_29_F23 sz_29_F23 mB rfl (flat_whole (f := Itm.cells) itm_len hx)) ?_
   refine G.e rfl rfl rfl rfl (e_alloc rfl zl_29_F23) (fun _ _ _ _ _ _ => trivial) ?_
   rintro _ _ ⟨b7, rfl, rfl⟩
   refine G.as ?_
   first | refine G.sa0 sz_29_F23 ?_ | refine G.sg0 sz_29_F23 ?_
   refine G.nil ?_
   refine EN.ts ?_
   refine CG.sr ?_
   first | refine G.q rfl rfl rfl rfl (q_field0 rfl rfl fo_29_0_F23) ?_ | refine G.q rfl rfl rfl rfl (q_field rfl rfl fo_29_0_F23) ?_
   first | refine G.ldA ag_23_F23 sz_23_F23 ?_ | refine G.ldP ag_23_F23 sz_23_F23 ?_
   refine G.call (xs := [_]) rfl rfl (ocheck_spec x.kind x.data) bd_15_F23 rfl rfl rfl rfl tK (fun _ _ _ _ _ _ => trivial) ?_
   rintro _ _ ⟨rfl, rfl⟩
   try dsimp only [List.cons_append, List.nil_append]
   refine G.as ?_
   refine G.nil ?_
   refine EN.tsr ?_
   refine G.mv ?_
   refine G.q rfl rfl rfl rfl (q_neq rfl rfl rfl) ?_
   refine G.nil ?_
   refine EN.then ?_
   refine CG.cond rfl (fun h36 => ?_) (fun h36 => ?_)
   ·
    have hS : stepB items i x out ats = .err (ocheck x.kind x.data) := if_pos oM
    rw [hS] at hgo
    simp only at hgo
    have hE : buildE items = ([], ocheck x.kind x.data) := by rw [hE0, ← hgo]; rfl
    refine CG.sr ?_
    refine G.mv ?_
    refine G.as ?_
    refine G.as ?_
    refine G.nil ?_
    refine EN.sub (sC 0 (sC 2 (sC 3 (sC 4 (sC 5 (sC 6 (sC 7 (sC 25 (sC 26 (sC 27 Sub.nil)))))))))) ?_
    refine EN.then ?_
    refine CG.ret ?_
    refine EN.then_ret ?_
    refine EN.in_ret ?_
    refine EN.then_ret ?_
    refine EN.then_ret ?_
    refine EN.in_ret ?_
    refine EN.then_ret ?_
    exact fin_ret2 rfl rfl rfl tK sF (⟨by rw [hE] <;> rfl, rfl⟩) _ (.inl rfl)
   ·
    have hc0 : ocheck x.kind x.data = 0 := by omega
    have hxl := ocheck_len hc0
    have hxk := ocheck_kind hc0
    have hck2 : ∀ (j : Nat) (y : Itm), j < i + 1 → items[j]? = some y → ocheck y.kind y.data = 0 := fun j y hj hy => by
      rcases Nat.lt_or_ge j i with h | h
      · exact hck j y h hy
      · obtain rfl : j = i := by omega
        rw [hx] at hy; cases hy; exact hc0
    refine CG.skip ?_
    refine EN.ts ?_
    refine CG.seq ?_
    rw [itm_cells]
    cases hdl : x.delta
    ·
     have hn1 : ¬ (x.delta = true ∧ (x.base < 0 ∨ (i : Int) ≤ x.base)) := fun h => by rw [hdl] at h; exact absurd h.1 (by decide)
     have hn2 : ¬ (x.delta = true ∧ (items.getD x.base.toNat Itm.none).kind ≠ x.kind) := fun h => by rw [hdl] at h; exact absurd h.1 (by decide)
     refine CG.reg ?_
     first | refine G.q rfl rfl rfl rfl (q_field0 rfl rfl fo_29_1_F23) ?_ | refine G.q rfl rfl rfl rfl (q_field rfl rfl fo_29_1_F23) ?_
     refine G.ld ag_4_F23 ?_
     refine G.mv ?_
     refine G.skip rfl rfl rfl ?_
     refine G.skip rfl rfl rfl ?_
     refine G.skip rfl rfl rfl ?_
     refine G.skip rfl rfl rfl ?_
     refine G.skip rfl rfl rfl ?_
     refine G.skip rfl rfl rfl ?_
     refine G.skip rfl rfl rfl ?_
     refine G.skip rfl rfl rfl ?_
     refine G.skip rfl rfl rfl ?_
     refine G.q rfl rfl rfl rfl (q_pick_f rfl rfl rfl) ?_
     refine G.nil ?_
     refine EN.sub (sC 0 (sC 4 (sC 5 (sC 7 (sC 25 (sC 26 (sC 27 (sC 50 Sub.nil)))))))) ?_
     refine EN.then ?_
     refine CG.cond_f rfl ?_
     refine CG.skip ?_
     refine EN.ts ?_
     refine CG.seq ?_
     refine CG.regT [] mixed (by kernel_rfl) ?_
     first | refine G.q rfl rfl rfl rfl (q_field0 rfl rfl fo_29_1_F23) ?_ | refine G.q rfl rfl rfl rfl (q_field rfl rfl fo_29_1_F23) ?_
     refine G.ld ag_4_F23 ?_
     refine G.mv ?_
     refine G.skip rfl rfl rfl ?_
     refine G.skip rfl rfl rfl ?_
     refine G.skip rfl rfl rfl ?_
     try rw [hj]
     refine G.skip rfl rfl rfl ?_
     refine G.skip rfl rfl rfl ?_
     refine G.skip rfl rfl rfl ?_
     try rw [show off + j * 5 + 0 + 0 = off + j * 5 from rfl]
     refine G.skip rfl rfl rfl ?_
     refine G.skip rfl rfl rfl ?_
     refine G.skip rfl rfl rfl ?_
     refine G.skip rfl rfl rfl ?_
     refine G.skip rfl rfl rfl ?_
     refine G.q rfl rfl rfl rfl (q_pick_f rfl rfl rfl) ?_
     refine G.nil ?_
     refine EN.sub (sC 0 (sC 4 (sC 5 (sC 7 (sC 25 (sC 26 (sC 27 (sC 65 Sub.nil)))))))) ?_
     refine EN.then ?_
     refine CG.cond_f rfl ?_
     refine CG.skip ?_
     refine EN.ts ?_
     have hat2 : ∀ a ∈ ats, a ≤ out.length := hat
     refine CG.reg ?_
     refine G.mv ?_
     refine G.mv ?_
     refine G.q rfl rfl rfl rfl (q_len_str rfl rfl us_9_F23) ?_
     refine G.e rfl rfl rfl rfl (e_bslice rfl rfl (bs_52_1_all_F23 _)) (fun _ _ _ _ _ _ => trivial) ?_
     rintro _ _ ⟨b69, rfl, rfl⟩
     refine G.e rfl rfl rfl rfl (e_append rfl rfl rfl se_52_F23 nf_3_F23 rfl tK1 mB (by rfl) (by simp [Value.oneCell', str]) oM) (fun _ _ _ _ _ _ => trivial) ?_
     rintro _ _ rfl
     rw [own_snocI]
     refine G.as ?_
     refine G.nil ?_
     refine EN.ts ?_
     refine CG.sr ?_
     first | refine G.q rfl rfl rfl rfl (q_field0 rfl rfl fo_29_1_F23) ?_ | refine G.q rfl rfl rfl rfl (q_field rfl rfl fo_29_1_F23) ?_
     refine G.ld ag_4_F23 ?_
     refine G.q rfl rfl rfl rfl (q_not rfl rfl) ?_
     refine G.nil ?_
     refine EN.then ?_
     refine CG.cond_t rfl ?_
     refine CG.seq ?_
     have hkn : x.kind = (x.kind.toNat : Int) := by omega
     have hhl := headL_len (k := x.kind.toNat) (n := x.data.length) oM
     have hzl := zw_len x.data oM
     have hS : stepB items i x out ats = .ok (out ++ (headL x.kind.toNat x.data.length ++ zw x.data)) := by unfold stepB; rw [if_neg oM, if_neg hn1, if_neg hn2, if_pos hdl]
     rw [hS] at hgo
     simp only at hgo
     have hol2 : (out ++ (headL x.kind.toNat x.data.length ++ zw x.data)).length ≤ 12 + 70000 * (i + 1) := by simp only [List.length_append]; omega
     have hat2 := ats_ok (o := out ++ (headL x.kind.toNat x.data.length ++ zw x.data)) hat (by simp)
     refine CG.regA (.ask 9 13 (.ord [0, 1, 2, 3, 4, 5, 6, 7, 8, 9, 10, 11, 12, 13, 14, 15, 16]) (.ord [0, 1, 2, 3, 4, 5, 6, 7, 8, 10, 11, 12, 13, 9, 14, 15, 16])) [77, 80, 86] (Keeps _ [cel b7 29 [.int .i64 x.kind, str x.data, .bool false, .int .i64 x.base, .bool x.byName]]) mixed (by kernel_rfl) (fun w hw => Keeps.of hw tK) ?_
     intro o ho; simp only [Ask.orders, List.cons_append, List.nil_append, List.mem_cons, List.not_mem_nil, or_false] at ho
     rcases ho with rfl | rfl
     ·
      dsimp only [pick, nth]
      refine G.mv ?_
      first | refine G.q rfl rfl rfl rfl (q_field0 rfl rfl fo_29_0_F23) ?_ | refine G.q rfl rfl rfl rfl (q_field rfl rfl fo_29_0_F23) ?_
      first | refine G.q rfl rfl rfl rfl (q_field0 rfl rfl fo_23_0_F23) ?_ | refine G.q rfl rfl rfl rfl (q_field rfl rfl fo_23_0_F23) ?_
      refine G.rK rfl rfl rfl rfl rfl (fun R => r_load rfl rfl ag_3_F23 mB rfl) ?_
      first | refine G.q rfl rfl rfl rfl (q_field0 rfl rfl fo_29_0_F23) ?_ | refine G.q rfl rfl rfl rfl (q_field rfl rfl fo_29_0_F23) ?_
      first | refine G.q rfl rfl rfl rfl (q_field0 rfl rfl fo_23_1_F23) ?_ | refine G.q rfl rfl rfl rfl (q_field rfl rfl fo_23_1_F23) ?_
      refine G.rK rfl rfl rfl rfl rfl (fun R => r_load rfl rfl ag_9_F23 mB rfl) ?_
      refine G.q rfl rfl rfl rfl (q_len_str rfl rfl us_9_F23) ?_
      rw [hkn]
      refine G.call (xs := [_, _]) rfl rfl (headOf_spec x.kind.toNat x.data.length oM oM) bd_16_F23 rfl rfl rfl rfl tK (fun _ _ _ w hR hw => by subst hR; exact Keeps.of hw tK) ?_
      rintro hv82 _ rfl
      try dsimp only [List.cons_append, List.nil_append]
      refine G.r rfl rfl rfl rfl (r_b2s rfl rfl bT_39_9_F23 mB) ?_
      first | refine G.q rfl rfl rfl rfl (q_field0 rfl rfl fo_29_0_F23) ?_ | refine G.q rfl rfl rfl rfl (q_field rfl rfl fo_29_0_F23) ?_
      first | refine G.q rfl rfl rfl rfl (q_field0 rfl rfl fo_23_1_F23) ?_ | refine G.q rfl rfl rfl rfl (q_field rfl rfl fo_23_1_F23) ?_
      refine G.rK rfl rfl rfl rfl rfl (fun R => r_load rfl rfl ag_9_F23 mB rfl) ?_
      refine G.call (xs := [_]) rfl rfl (zwrite_spec x.data oM) bd_17_F23 rfl rfl rfl rfl tK (fun _ _ _ w hR hw => by obtain ⟨_, rfl⟩ := hR; exact Keeps.of hw tK) ?_
      rintro _ _ ⟨rfl, rfl⟩
      rw [zw_eq]
      try dsimp only [List.cons_append, List.nil_append]
      refine G.q rfl rfl rfl rfl (q_add_s rfl rfl rfl oM) ?_
      refine G.q rfl rfl rfl rfl (q_add_s rfl rfl rfl (by simp only [List.length_append]; omega)) ?_
      refine G.as ?_
      refine G.nil ?_
      refine EN.sub (sC 0 (sC 4 (sC 5 (sC 7 (sC 25 (sC 26 (sC 27 Sub.nil))))))) ?_
      refine EN.then ?_
      refine CG.exit ?_
      refine EN.then_exit ?_
      refine EN.in_here ?_
      refine EN.then ?_
      first | refine CG.closeOwn (g := g5) (sz := 1) (xs := (ats ++ [out.length]).map iv) tK1 hcap5 hmx5 hcr5 hct5 ?_ | skip
      refine CG.reg ?_
      first | refine G.q rfl rfl rfl rfl (q_add_i rfl rfl rfl oM) ?_ | refine G.q rfl rfl rfl rfl (q_add rfl rfl rfl) ?_
      rw [ei]
      refine G.mv ?_
      refine G.nil ?_
      exact EN.round (hl := [_, _, _]) (m) oM (⟨i + 1, _, ats ++ [out.length], _, by omega, hol2, by simp [hal], hat2, hck2, hgo, rfl, rfl⟩) sB rfl tK sF
     ·
      dsimp only [pick, nth]
      refine G.mv ?_
      first | refine G.q rfl rfl rfl rfl (q_field0 rfl rfl fo_29_0_F23) ?_ | refine G.q rfl rfl rfl rfl (q_field rfl rfl fo_29_0_F23) ?_
      first | refine G.q rfl rfl rfl rfl (q_field0 rfl rfl fo_23_0_F23) ?_ | refine G.q rfl rfl rfl rfl (q_field rfl rfl fo_23_0_F23) ?_
      refine G.rK rfl rfl rfl rfl rfl (fun R => r_load rfl rfl ag_3_F23 mB rfl) ?_
      first | refine G.q rfl rfl rfl rfl (q_field0 rfl rfl fo_29_0_F23) ?_ | refine G.q rfl rfl rfl rfl (q_field rfl rfl fo_29_0_F23) ?_
      first | refine G.q rfl rfl rfl rfl (q_field0 rfl rfl fo_23_1_F23) ?_ | refine G.q rfl rfl rfl rfl (q_field rfl rfl fo_23_1_F23) ?_
      refine G.rK rfl rfl rfl rfl rfl (fun R => r_load rfl rfl ag_9_F23 mB rfl) ?_
      refine G.q rfl rfl rfl rfl (q_len_str rfl rfl us_9_F23) ?_
      rw [hkn]
      refine G.call (xs := [_, _]) rfl rfl (headOf_spec x.kind.toNat x.data.length oM oM) bd_16_F23 rfl rfl rfl rfl tK (fun _ _ _ w hR hw => by subst hR; exact Keeps.of hw tK) ?_
      rintro hv82 _ rfl
      try dsimp only [List.cons_append, List.nil_append]
      first | refine G.q rfl rfl rfl rfl (q_field0 rfl rfl fo_29_0_F23) ?_ | refine G.q rfl rfl rfl rfl (q_field rfl rfl fo_29_0_F23) ?_
      first | refine G.q rfl rfl rfl rfl (q_field0 rfl rfl fo_23_1_F23) ?_ | refine G.q rfl rfl rfl rfl (q_field rfl rfl fo_23_1_F23) ?_
      refine G.rK rfl rfl rfl rfl rfl (fun R => r_load rfl rfl ag_9_F23 mB rfl) ?_
      refine G.call (xs := [_]) rfl rfl (zwrite_spec x.data oM) bd_17_F23 rfl rfl rfl rfl tK (fun _ _ _ w hR hw => by obtain ⟨_, rfl⟩ := hR; exact Keeps.of hw tK) ?_
      rintro _ _ ⟨rfl, rfl⟩
      rw [zw_eq]
      try dsimp only [List.cons_append, List.nil_append]
      refine G.r rfl rfl rfl rfl (r_b2s rfl rfl bT_39_9_F23 mB) ?_
      refine G.q rfl rfl rfl rfl (q_add_s rfl rfl rfl oM) ?_
      refine G.q rfl rfl rfl rfl (q_add_s rfl rfl rfl (by simp only [List.length_append]; omega)) ?_
      refine G.as ?_
      refine G.nil ?_
      refine EN.sub (sC 0 (sC 4 (sC 5 (sC 7 (sC 25 (sC 26 (sC 27 Sub.nil))))))) ?_
      refine EN.then ?_
      refine CG.exit ?_
      refine EN.then_exit ?_
      refine EN.in_here ?_
      refine EN.then ?_
      first | refine CG.closeOwn (g := g5) (sz := 1) (xs := (ats ++ [out.length]).map iv) tK1 hcap5 hmx5 hcr5 hct5 ?_ | skip
      refine CG.reg ?_
      first | refine G.q rfl rfl rfl rfl (q_add_i rfl rfl rfl oM) ?_ | refine G.q rfl rfl rfl rfl (q_add rfl rfl rfl) ?_
      rw [ei]
      refine G.mv ?_
      refine G.nil ?_
      exact EN.round (hl := [_, _, _]) (m) oM (⟨i + 1, _, ats ++ [out.length], _, by omega, hol2, by simp [hal], hat2, hck2, hgo, rfl, rfl⟩) sB rfl tK sF
    ·
     refine CG.reg ?_
     first | refine G.q rfl rfl rfl rfl (q_field0 rfl rfl fo_29_1_F23) ?_ | refine G.q rfl rfl rfl rfl (q_field rfl rfl fo_29_1_F23) ?_
     refine G.ld ag_4_F23 ?_
     refine G.mv ?_
     first | refine G.q rfl rfl rfl rfl (q_field0 rfl rfl fo_29_2_F23) ?_ | refine G.q rfl rfl rfl rfl (q_field rfl rfl fo_29_2_F23) ?_
     refine G.ld ag_3_F23 ?_
     refine G.q rfl rfl rfl rfl (q_lss rfl rfl rfl) ?_
     refine G.mv ?_
     refine G.split (t := 44) rfl (fun g44 => ?_) (fun g44 => ?_)
     ·
      have hS : stepB items i x out ats = .err 1 := by unfold stepB; rw [if_neg oM, if_pos ⟨hdl, .inl oM⟩]
      rw [hS] at hgo
      simp only at hgo
      have hE : buildE items = ([], 1) := by rw [hE0, ← hgo]; rfl
      refine G.skip rfl rfl rfl ?_
      refine G.skip rfl rfl rfl ?_
      refine G.skip rfl rfl rfl ?_
      refine G.skip rfl rfl rfl ?_
      refine G.q rfl rfl rfl rfl (q_pick_t rfl rfl rfl) ?_
      refine G.q rfl rfl rfl rfl (q_pick_t rfl rfl rfl) ?_
      refine G.nil ?_
      refine EN.sub (sC 0 (sC 4 (sC 5 (sC 7 (sC 25 (sC 26 (sC 27 (sC 50 Sub.nil)))))))) ?_
      refine EN.then ?_
      refine CG.cond_t rfl ?_
      refine CG.sr ?_
      refine G.as ?_
      refine G.as ?_
      refine G.nil ?_
      refine EN.then ?_
      refine CG.ret ?_
      refine EN.then_ret ?_
      refine EN.in_ret ?_
      refine EN.then_ret ?_
      refine EN.then_ret ?_
      refine EN.in_ret ?_
      refine EN.then_ret ?_
      exact fin_ret2 rfl rfl rfl tK sF (⟨by rw [hE] <;> rfl, rfl⟩) _ (.inl rfl)
     ·
      first | refine G.q rfl rfl rfl rfl (q_field0 rfl rfl fo_29_2_F23) ?_ | refine G.q rfl rfl rfl rfl (q_field rfl rfl fo_29_2_F23) ?_
      refine G.ld ag_3_F23 ?_
      refine G.mv ?_
      refine G.q rfl rfl rfl rfl (q_geq rfl rfl rfl) ?_
      refine G.q rfl rfl rfl rfl (q_pick_f rfl rfl rfl) ?_
      refine G.q rfl rfl rfl rfl (q_pick_t rfl rfl rfl) ?_
      refine G.nil ?_
      refine EN.sub (sC 0 (sC 4 (sC 5 (sC 7 (sC 25 (sC 26 (sC 27 (sC 50 Sub.nil)))))))) ?_
      refine EN.then ?_
      refine CG.cond rfl (fun h50 => ?_) (fun h50 => ?_)
      ·
       have hS : stepB items i x out ats = .err 1 := by unfold stepB; rw [if_neg oM, if_pos ⟨hdl, .inr oM⟩]
       rw [hS] at hgo
       simp only at hgo
       have hE : buildE items = ([], 1) := by rw [hE0, ← hgo]; rfl
       refine CG.sr ?_
       refine G.as ?_
       refine G.as ?_
       refine G.nil ?_
       refine EN.then ?_
       refine CG.ret ?_
       refine EN.then_ret ?_
       refine EN.in_ret ?_
       refine EN.then_ret ?_
       refine EN.then_ret ?_
       refine EN.in_ret ?_
       refine EN.then_ret ?_
       exact fin_ret2 rfl rfl rfl tK sF (⟨by rw [hE] <;> rfl, rfl⟩) _ (.inl rfl)
      ·
       have hb0 : 0 ≤ x.base ∧ x.base < i := by omega
       obtain ⟨j, hj⟩ := Int.eq_ofNat_of_zero_le hb0.1
       obtain ⟨y, hy⟩ := get_some (l := items) (k := j) oM
       have hgy := get_itm hy
       have hjl : j < items.length := by omega
       have hjt : x.base.toNat = j := by omega
       have hyc := hck j y oM hy
       have hyl := ocheck_len hyc
       have hn1 : ¬ (x.delta = true ∧ (x.base < 0 ∨ (i : Int) ≤ x.base)) := fun h => by omega
       refine CG.skip ?_
       refine EN.ts ?_
       refine CG.seq ?_
       refine CG.regT [] mixed (by kernel_rfl) ?_
       first | refine G.q rfl rfl rfl rfl (q_field0 rfl rfl fo_29_1_F23) ?_ | refine G.q rfl rfl rfl rfl (q_field rfl rfl fo_29_1_F23) ?_
       refine G.ld ag_4_F23 ?_
       refine G.mv ?_
       refine G.mv ?_
       first | refine G.q rfl rfl rfl rfl (q_field0 rfl rfl fo_29_2_F23) ?_ | refine G.q rfl rfl rfl rfl (q_field rfl rfl fo_29_2_F23) ?_
       refine G.ld ag_3_F23 ?_
       try rw [hj]
       refine G.q rfl rfl rfl rfl (q_ixaddr rfl rfl rfl se_30_F23 sz_29_F23 (hjl)) ?_
       first | refine G.q rfl rfl rfl rfl (q_field0 rfl rfl fo_29_0_F23) ?_ | refine G.q rfl rfl rfl rfl (q_field rfl rfl fo_29_0_F23) ?_
       first | refine G.q rfl rfl rfl rfl (q_field0 rfl rfl fo_23_0_F23) ?_ | refine G.q rfl rfl rfl rfl (q_field rfl rfl fo_23_0_F23) ?_
       try rw [show off + j * 5 + 0 + 0 = off + j * 5 from rfl]
       refine G.r rfl rfl rfl rfl (r_loadO rfl rfl ag_3_F23 mB (flat_nth (f := Itm.cells) (k := 0) itm_len hy rfl)) ?_
       first | refine G.q rfl rfl rfl rfl (q_field0 rfl rfl fo_29_0_F23) ?_ | refine G.q rfl rfl rfl rfl (q_field rfl rfl fo_29_0_F23) ?_
       first | refine G.q rfl rfl rfl rfl (q_field0 rfl rfl fo_23_0_F23) ?_ | refine G.q rfl rfl rfl rfl (q_field rfl rfl fo_23_0_F23) ?_
       refine G.ld ag_3_F23 ?_
       refine G.q rfl rfl rfl rfl (q_neq rfl rfl rfl) ?_
       refine G.q rfl rfl rfl rfl (q_pick_t rfl rfl rfl) ?_
       refine G.nil ?_
       refine EN.sub (sC 0 (sC 4 (sC 5 (sC 7 (sC 25 (sC 26 (sC 27 (sC 65 Sub.nil)))))))) ?_
       refine EN.then ?_
       refine CG.cond rfl (fun h65 => ?_) (fun h65 => ?_)
       ·
        have hS : stepB items i x out ats = .err 10 := by unfold stepB; rw [if_neg oM, if_neg hn1, hjt, hgy, if_pos ⟨hdl, h65⟩]
        rw [hS] at hgo
        simp only at hgo
        have hE : buildE items = ([], 10) := by rw [hE0, ← hgo]; rfl
        refine CG.sr ?_
        refine G.as ?_
        refine G.as ?_
        refine G.nil ?_
        refine EN.then ?_
        refine CG.ret ?_
        refine EN.then_ret ?_
        refine EN.in_ret ?_
        refine EN.then_ret ?_
        refine EN.then_ret ?_
        refine EN.in_ret ?_
        refine EN.then_ret ?_
        exact fin_ret2 rfl rfl rfl tK sF (⟨by rw [hE] <;> rfl, rfl⟩) _ (.inl rfl)
       ·
        have hn2 : ¬ (x.delta = true ∧ (items.getD x.base.toNat Itm.none).kind ≠ x.kind) := fun h => by rw [hjt, hgy] at h; exact h65 h.2
        refine CG.skip ?_
        refine EN.ts ?_
        have hat2 : ∀ a ∈ ats, a ≤ out.length := hat
        refine CG.reg ?_
        refine G.mv ?_
        refine G.mv ?_
        refine G.q rfl rfl rfl rfl (q_len_str rfl rfl us_9_F23) ?_
        refine G.e rfl rfl rfl rfl (e_bslice rfl rfl (bs_52_1_all_F23 _)) (fun _ _ _ _ _ _ => trivial) ?_
        rintro _ _ ⟨b69, rfl, rfl⟩
        refine G.e rfl rfl rfl rfl (e_append rfl rfl rfl se_52_F23 nf_3_F23 rfl tK1 mB (by rfl) (by simp [Value.oneCell', str]) oM) (fun _ _ _ _ _ _ => trivial) ?_
        rintro _ _ rfl
        rw [own_snocI]
        refine G.as ?_
        refine G.nil ?_
        refine EN.ts ?_
        refine CG.sr ?_
        first | refine G.q rfl rfl rfl rfl (q_field0 rfl rfl fo_29_1_F23) ?_ | refine G.q rfl rfl rfl rfl (q_field rfl rfl fo_29_1_F23) ?_
        refine G.ld ag_4_F23 ?_
        refine G.q rfl rfl rfl rfl (q_not rfl rfl) ?_
        refine G.nil ?_
        refine EN.then ?_
        refine CG.cond_f rfl ?_
        refine CG.skip ?_
        refine EN.tsr ?_
        refine G.mv ?_
        first | refine G.q rfl rfl rfl rfl (q_field0 rfl rfl fo_29_2_F23) ?_ | refine G.q rfl rfl rfl rfl (q_field rfl rfl fo_29_2_F23) ?_
        refine G.ld ag_3_F23 ?_
        try rw [hj]
        refine G.q rfl rfl rfl rfl (q_ixaddr rfl rfl rfl se_30_F23 sz_29_F23 (hjl)) ?_
        first | refine G.q rfl rfl rfl rfl (q_field0 rfl rfl fo_29_0_F23) ?_ | refine G.q rfl rfl rfl rfl (q_field rfl rfl fo_29_0_F23) ?_
        rw [show off + j * 5 + 0 = off + j * 5 from rfl]
        refine G.r rfl rfl rfl rfl (r_loadOA (cs := [.int .i64 y.kind, str y.data]) rfl rfl ag_23_F23 sz_23_F23 mB rfl (flat_part (f := Itm.cells) itm_len hy (k := 0) (n := 2))) ?_
        refine G.e rfl rfl rfl rfl (e_alloc rfl zl_23_F23) (fun _ _ _ _ _ _ => trivial) ?_
        rintro _ _ ⟨b9, rfl, rfl⟩
        first | refine G.sa0 sz_23_F23 ?_ | refine G.sg0 sz_23_F23 ?_
        refine G.nil ?_
        refine EN.sub (sC 0 (sC 4 (sC 5 (sC 7 (sC 9 (sC 25 (sC 26 (sC 27 Sub.nil)))))))) ?_
        refine EN.tsr ?_
        first | refine G.q rfl rfl rfl rfl (q_field0 rfl rfl fo_23_1_F23) ?_ | refine G.q rfl rfl rfl rfl (q_field rfl rfl fo_23_1_F23) ?_
        refine G.ld ag_9_F23 ?_
        first | refine G.q rfl rfl rfl rfl (q_field0 rfl rfl fo_29_0_F23) ?_ | refine G.q rfl rfl rfl rfl (q_field rfl rfl fo_29_0_F23) ?_
        first | refine G.q rfl rfl rfl rfl (q_field0 rfl rfl fo_23_1_F23) ?_ | refine G.q rfl rfl rfl rfl (q_field rfl rfl fo_23_1_F23) ?_
        refine G.ld ag_9_F23 ?_
        refine G.call (xs := [_, _]) rfl rfl (make_spec y.data x.data oM oM) bd_18_F23 rfl rfl rfl rfl tK (fun _ _ _ _ _ _ => trivial) ?_
        rintro _ _ ⟨rfl, rfl⟩
        try dsimp only [List.cons_append, List.nil_append]
        refine G.as ?_
        refine G.nil ?_
        refine EN.ts ?_
        refine CG.sr ?_
        refine G.mv ?_
        refine G.q rfl rfl rfl rfl (q_len_str rfl rfl us_9_F23) ?_
        refine G.q rfl rfl rfl rfl (q_gtr rfl rfl rfl) ?_
        refine G.nil ?_
        refine EN.then ?_
        refine CG.cond rfl (fun h104 => ?_) (fun h104 => ?_)
        ·
         have hS : stepB items i x out ats = .err 2 := by unfold stepB; rw [if_neg oM, if_neg hn1, if_neg hn2, if_neg (by rw [hdl]; decide), hjt, hgy, if_pos oM]
         rw [hS] at hgo
         simp only at hgo
         have hE : buildE items = ([], 2) := by rw [hE0, ← hgo]; rfl
         refine CG.sr ?_
         refine G.as ?_
         refine G.as ?_
         refine G.nil ?_
         refine EN.sub (sC 0 (sC 2 (sC 3 (sC 4 (sC 5 (sC 7 (sC 9 (sC 10 (sC 25 (sC 26 (sC 27 Sub.nil))))))))))) ?_
         refine EN.then ?_
         refine CG.ret ?_
         refine EN.then_ret ?_
         refine EN.in_ret ?_
         refine EN.then_ret ?_
         refine EN.then_ret ?_
         refine EN.in_ret ?_
         refine EN.then_ret ?_
         exact fin_ret2 rfl rfl rfl tK sF (⟨by rw [hE] <;> rfl, rfl⟩) _ (.inl rfl)
        ·
         obtain ⟨d, hd⟩ : ∃ d, Dlt.make y.data x.data = d := ⟨_, rfl⟩
         have hzl := zw_len (Dlt.make y.data x.data) oM
         have hgj : ats.getD j 0 ≤ out.length := by
           obtain ⟨a, ha⟩ := get_some (l := ats) (k := j) oM
           rw [List.getD_eq_getElem?_getD, ha]; exact hat a (List.mem_of_getElem? ha)
         have hb1 := backL_len (n := out.length - ats.getD j 0) oM
         have hs20 := sum1_len (encode y.kind y.data)
         have hh40 := Sums.hex_len (Sha.sum1 (encode y.kind y.data))
         refine CG.skip ?_
         refine EN.tsr ?_
         first | refine G.q rfl rfl rfl rfl (q_field0 rfl rfl fo_29_3_F23) ?_ | refine G.q rfl rfl rfl rfl (q_field rfl rfl fo_29_3_F23) ?_
         refine G.ld ag_4_F23 ?_
         refine G.nil ?_
         refine EN.sub (sC 0 (sC 4 (sC 5 (sC 7 (sC 9 (sC 10 (sC 25 (sC 26 (sC 27 (sC 106 Sub.nil)))))))))) ?_
         refine EN.then ?_
         refine CG.condB rfl (fun h106 => ?_) (fun h106 => ?_)
         ·
          have hhl := headL_len (k := 7) (n := (Dlt.make y.data x.data).length) oM
          have hS : stepB items i x out ats = .ok (out ++ (headL 7 (Dlt.make y.data x.data).length ++ Sha.sum1 (encode y.kind y.data) ++ zw (Dlt.make y.data x.data))) := by unfold stepB; rw [if_neg oM, if_neg hn1, if_neg hn2, if_neg (by rw [hdl]; decide), hjt, hgy, if_neg oM, if_pos h106]
          rw [hS] at hgo
          simp only at hgo
          have hol2 : (out ++ (headL 7 (Dlt.make y.data x.data).length ++ Sha.sum1 (encode y.kind y.data) ++ zw (Dlt.make y.data x.data))).length ≤ 12 + 70000 * (i + 1) := by simp only [List.length_append]; omega
          have hat2 := ats_ok (o := out ++ (headL 7 (Dlt.make y.data x.data).length ++ Sha.sum1 (encode y.kind y.data) ++ zw (Dlt.make y.data x.data))) hat (by simp)
          refine CG.sr ?_
          first | refine G.ldA ag_23_F23 sz_23_F23 ?_ | refine G.ldP ag_23_F23 sz_23_F23 ?_
          refine G.call (xs := [_]) rfl rfl (oid_spec y.kind y.data) bd_19_F23 rfl rfl rfl rfl tK (fun _ _ _ _ _ _ => trivial) ?_
          rintro _ _ ⟨rfl, rfl⟩
          rw [show idV y.kind y.data = .tuple #[str (Sums.hex (Sha.sum1 (encode y.kind y.data))), .int .i64 0] from if_pos hyc]
          try dsimp only [List.cons_append, List.nil_append]
          refine G.mv ?_
          refine G.q rfl rfl rfl rfl (q_extract rfl rfl rfl) ?_
          refine G.q rfl rfl rfl rfl (q_extract rfl rfl rfl) ?_
          refine G.as ?_
          refine G.as ?_
          refine G.nil ?_
          refine EN.sub (sC 0 (sC 4 (sC 5 (sC 10 (sC 11 (sC 25 (sC 26 (sC 27 Sub.nil)))))))) ?_
          refine EN.tsr ?_
          refine G.mv ?_
          refine G.call (xs := [_]) rfl rfl (unhex_spec (Sums.hex (Sha.sum1 (encode y.kind y.data))) oM) bd_20_F23 rfl rfl rfl rfl tK (fun _ _ _ _ _ _ => trivial) ?_
          rintro _ _ ⟨rfl, rfl⟩
          rw [unhexV_hex]
          try dsimp only [List.cons_append, List.nil_append]
          refine G.mv ?_
          refine G.q rfl rfl rfl rfl (q_extract rfl rfl rfl) ?_
          refine G.q rfl rfl rfl rfl (q_extract rfl rfl rfl) ?_
          refine G.as ?_
          refine G.as ?_
          refine G.nil ?_
          refine EN.then ?_
          refine CG.regA (.ask 4 8 (.ord [0, 1, 2, 3, 4, 5, 6, 7, 8, 9, 10, 11]) (.ord [0, 1, 2, 3, 5, 7, 8, 4, 6, 9, 10, 11])) [] (fun _ => True) mixed (by kernel_rfl) (fun w hw => trivial) ?_
          intro o ho; simp only [Ask.orders, List.cons_append, List.nil_append, List.mem_cons, List.not_mem_nil, or_false] at ho
          rcases ho with rfl | rfl
          ·
           dsimp only [pick, nth]
           refine G.mv ?_
           refine G.mv ?_
           refine G.q rfl rfl rfl rfl (q_len_str rfl rfl us_9_F23) ?_
           refine G.call (xs := [_, _]) rfl rfl (headOf_spec 7 (Dlt.make y.data x.data).length oM oM) bd_16_F23 rfl rfl rfl rfl tK (fun _ _ _ _ _ _ => trivial) ?_
           rintro hv _ rfl
           try dsimp only [List.cons_append, List.nil_append]
           refine G.r rfl rfl rfl rfl (r_b2s rfl rfl bT_39_9_F23 mB) ?_
           refine G.mv ?_
           refine G.q rfl rfl rfl rfl (q_add_s rfl rfl rfl oM) ?_
           refine G.mv ?_
           refine G.call (xs := [_]) rfl rfl (zwrite_spec (Dlt.make y.data x.data) oM) bd_17_F23 rfl rfl rfl rfl tK (fun _ _ _ _ _ _ => trivial) ?_
           rintro _ _ ⟨rfl, rfl⟩
           rw [zw_eq]
           try dsimp only [List.cons_append, List.nil_append]
           refine G.q rfl rfl rfl rfl (q_add_s rfl rfl rfl (by simp only [List.length_append]; omega)) ?_
           refine G.q rfl rfl rfl rfl (q_add_s rfl rfl rfl (by simp only [List.length_append]; omega)) ?_
           refine G.as ?_
           refine G.nil ?_
           refine EN.sub (sC 0 (sC 4 (sC 5 (sC 25 (sC 26 (sC 27 Sub.nil)))))) ?_
           refine EN.in_normal ?_
           refine EN.then ?_
           first | refine CG.closeOwn (g := g5) (sz := 1) (xs := (ats ++ [out.length]).map iv) tK1 hcap5 hmx5 hcr5 hct5 ?_ | skip
           refine CG.reg ?_
           first | refine G.q rfl rfl rfl rfl (q_add_i rfl rfl rfl oM) ?_ | refine G.q rfl rfl rfl rfl (q_add rfl rfl rfl) ?_
           rw [ei]
           refine G.mv ?_
           refine G.nil ?_
           exact EN.round (hl := [_, _, _]) (m) oM (⟨i + 1, _, ats ++ [out.length], _, by omega, hol2, by simp [hal], hat2, hck2, hgo, rfl, rfl⟩) sB rfl tK sF
          ·
           dsimp only [pick, nth]
           refine G.mv ?_
           refine G.mv ?_
           refine G.q rfl rfl rfl rfl (q_len_str rfl rfl us_9_F23) ?_
           refine G.call (xs := [_, _]) rfl rfl (headOf_spec 7 (Dlt.make y.data x.data).length oM oM) bd_16_F23 rfl rfl rfl rfl tK (fun _ _ _ _ _ _ => trivial) ?_
           rintro hv _ rfl
           try dsimp only [List.cons_append, List.nil_append]
           refine G.mv ?_
           refine G.mv ?_
           refine G.call (xs := [_]) rfl rfl (zwrite_spec (Dlt.make y.data x.data) oM) bd_17_F23 rfl rfl rfl rfl tK (fun _ _ _ _ _ _ => trivial) ?_
           rintro _ _ ⟨rfl, rfl⟩
           rw [zw_eq]
           try dsimp only [List.cons_append, List.nil_append]
           refine G.r rfl rfl rfl rfl (r_b2s rfl rfl bT_39_9_F23 mB) ?_
           refine G.q rfl rfl rfl rfl (q_add_s rfl rfl rfl oM) ?_
           refine G.q rfl rfl rfl rfl (q_add_s rfl rfl rfl (by simp only [List.length_append]; omega)) ?_
           refine G.q rfl rfl rfl rfl (q_add_s rfl rfl rfl (by simp only [List.length_append]; omega)) ?_
           refine G.as ?_
           refine G.nil ?_
           refine EN.sub (sC 0 (sC 4 (sC 5 (sC 25 (sC 26 (sC 27 Sub.nil)))))) ?_
           refine EN.in_normal ?_
           refine EN.then ?_
           first | refine CG.closeOwn (g := g5) (sz := 1) (xs := (ats ++ [out.length]).map iv) tK1 hcap5 hmx5 hcr5 hct5 ?_ | skip
           refine CG.reg ?_
           first | refine G.q rfl rfl rfl rfl (q_add_i rfl rfl rfl oM) ?_ | refine G.q rfl rfl rfl rfl (q_add rfl rfl rfl) ?_
           rw [ei]
           refine G.mv ?_
           refine G.nil ?_
           exact EN.round (hl := [_, _, _]) (m) oM (⟨i + 1, _, ats ++ [out.length], _, by omega, hol2, by simp [hal], hat2, hck2, hgo, rfl, rfl⟩) sB rfl tK sF
         ·
          have hhl := headL_len (k := 6) (n := (Dlt.make y.data x.data).length) oM
          have hS : stepB items i x out ats = .ok (out ++ (headL 6 (Dlt.make y.data x.data).length ++ backL (out.length - ats.getD j 0) ++ zw (Dlt.make y.data x.data))) := by unfold stepB; rw [if_neg oM, if_neg hn1, if_neg hn2, if_neg (by rw [hdl]; decide), hjt, hgy, if_neg oM, if_neg (by rw [h106]; decide)]
          rw [hS] at hgo
          simp only at hgo
          have hol2 : (out ++ (headL 6 (Dlt.make y.data x.data).length ++ backL (out.length - ats.getD j 0) ++ zw (Dlt.make y.data x.data))).length ≤ 12 + 70000 * (i + 1) := by simp only [List.length_append]; omega
          have hat2 := ats_ok (o := out ++ (headL 6 (Dlt.make y.data x.data).length ++ backL (out.length - ats.getD j 0) ++ zw (Dlt.make y.data x.data))) hat (by simp)
          refine CG.openOwn (T := 3) (sz := 1) (n := (ats ++ [out.length]).length) tK1 (by simp) (fun g5 cap5 cur5 hv5 hcap5 hmx5 hcr5 hct5 => ?_)
          subst hv5
          have hj5 : j < (ats ++ [out.length]).length := by simp; omega
          have hld5 : nth cur5 j = some (.int .i64 ((ats.getD j 0 : Nat) : Int)) := nth_take hct5 (by
            obtain ⟨a, ha⟩ := get_some (l := ats) (k := j) oM
            rw [List.getElem?_map, List.getElem?_append_left oM, List.getD_eq_getElem?_getD, ha]; rfl)
          refine CG.regA (.ask 4 13 (.ask 14 17 (.ord [0, 1, 2, 3, 4, 5, 6, 7, 8, 9, 10, 11, 12, 13, 14, 15, 16, 17, 18, 19, 20]) (.ord [0, 1, 2, 3, 4, 5, 6, 7, 8, 9, 10, 11, 12, 13, 16, 17, 14, 15, 18, 19, 20])) (.ask 4 17 (.ask 14 17 (.ord [0, 1, 2, 3, 5, 6, 7, 8, 9, 10, 11, 12, 13, 4, 14, 15, 16, 17, 18, 19, 20]) (.ord [0, 1, 2, 3, 5, 6, 7, 8, 9, 10, 11, 12, 13, 4, 16, 17, 14, 15, 18, 19, 20])) (.ask 14 17 (.ord [0, 1, 2, 3, 5, 6, 7, 8, 9, 10, 11, 12, 13, 14, 16, 17, 4, 15, 18, 19, 20]) (.ord [0, 1, 2, 3, 5, 6, 7, 8, 9, 10, 11, 12, 13, 16, 17, 4, 14, 15, 18, 19, 20])))) [137, 139] (Keeps _ [cel b7 29 [.int .i64 x.kind, str x.data, .bool true, .int .i64 (j : Nat), .bool x.byName], cel g5 3 cur5]) mixed (by kernel_rfl) (fun w hw => Keeps.of hw tK) ?_
          intro o ho; simp only [Ask.orders, List.cons_append, List.nil_append, List.mem_cons, List.not_mem_nil, or_false] at ho
          rcases ho with rfl | rfl | rfl | rfl | rfl | rfl
          ·
           dsimp only [pick, nth]
           refine G.mv ?_
           refine G.mv ?_
           refine G.q rfl rfl rfl rfl (q_len_str rfl rfl us_9_F23) ?_
           refine G.call (xs := [_, _]) rfl rfl (headOf_spec 6 (Dlt.make y.data x.data).length oM oM) bd_16_F23 rfl rfl rfl rfl tK (fun _ _ _ w hR hw => by subst hR; exact Keeps.of hw tK) ?_
           rintro hv _ rfl
           try dsimp only [List.cons_append, List.nil_append]
           refine G.r rfl rfl rfl rfl (r_b2s rfl rfl bT_39_9_F23 mB) ?_
           refine G.mv ?_
           refine G.q rfl rfl rfl rfl (q_len_str rfl rfl us_9_F23) ?_
           refine G.mv ?_
           first | refine G.q rfl rfl rfl rfl (q_field0 rfl rfl fo_29_2_F23) ?_ | refine G.q rfl rfl rfl rfl (q_field rfl rfl fo_29_2_F23) ?_
           refine G.rK rfl rfl rfl rfl rfl (fun R => r_load rfl rfl ag_3_F23 mB rfl) ?_
           first | refine G.q rfl rfl rfl rfl (q_ixaddr1 rfl rfl rfl se_52_F23 sz_3_F23 (hj5)) ?_ | refine G.q rfl rfl rfl rfl (q_ixaddr rfl rfl rfl se_52_F23 sz_3_F23 (hj5)) ?_
           refine G.rK rfl rfl rfl rfl rfl (fun R => r_load rfl rfl ag_3_F23 mB (hld5)) ?_
           first | refine G.q rfl rfl rfl rfl (q_sub_i rfl rfl rfl oM) ?_ | refine G.q rfl rfl rfl rfl (q_sub rfl rfl rfl) ?_
           rw [show (out.length : Int) - ((ats.getD j 0 : Nat) : Int) = ((out.length - ats.getD j 0 : Nat) : Int) by omega]
           refine G.call (xs := [_]) rfl rfl (backOf_spec (out.length - ats.getD j 0) oM) bd_21_F23 rfl rfl rfl rfl tK (fun _ _ _ w hR hw => by subst hR; exact Keeps.of hw tK) ?_
           rintro bv _ rfl
           try dsimp only [List.cons_append, List.nil_append]
           refine G.r rfl rfl rfl rfl (r_b2s rfl rfl bT_39_9_F23 mB) ?_
           refine G.q rfl rfl rfl rfl (q_add_s rfl rfl rfl oM) ?_
           refine G.mv ?_
           refine G.call (xs := [_]) rfl rfl (zwrite_spec (Dlt.make y.data x.data) oM) bd_17_F23 rfl rfl rfl rfl tK (fun _ _ _ w hR hw => by obtain ⟨_, rfl⟩ := hR; exact Keeps.of hw tK) ?_
           rintro _ _ ⟨rfl, rfl⟩
           rw [zw_eq]
           try dsimp only [List.cons_append, List.nil_append]
           refine G.q rfl rfl rfl rfl (q_add_s rfl rfl rfl (by simp only [List.length_append]; omega)) ?_
           refine G.q rfl rfl rfl rfl (q_add_s rfl rfl rfl (by simp only [List.length_append]; omega)) ?_
           refine G.as ?_
           refine G.nil ?_
           refine EN.sub (sC 0 (sC 4 (sC 5 (sC 25 (sC 26 (sC 27 Sub.nil)))))) ?_
           refine EN.in_normal ?_
           refine EN.then ?_
           first | refine CG.closeOwn (g := g5) (sz := 1) (xs := (ats ++ [out.length]).map iv) tK1 hcap5 hmx5 hcr5 hct5 ?_ | skip
           refine CG.reg ?_
           first | refine G.q rfl rfl rfl rfl (q_add_i rfl rfl rfl oM) ?_ | refine G.q rfl rfl rfl rfl (q_add rfl rfl rfl) ?_
           rw [ei]
           refine G.mv ?_
           refine G.nil ?_
           exact EN.round (hl := [_, _, _]) (m) oM (⟨i + 1, _, ats ++ [out.length], _, by omega, hol2, by simp [hal], hat2, hck2, hgo, rfl, rfl⟩) sB rfl tK sF
          ·
           dsimp only [pick, nth]
           refine G.mv ?_
           refine G.mv ?_
           refine G.q rfl rfl rfl rfl (q_len_str rfl rfl us_9_F23) ?_
           refine G.call (xs := [_, _]) rfl rfl (headOf_spec 6 (Dlt.make y.data x.data).length oM oM) bd_16_F23 rfl rfl rfl rfl tK (fun _ _ _ w hR hw => by subst hR; exact Keeps.of hw tK) ?_
           rintro hv _ rfl
           try dsimp only [List.cons_append, List.nil_append]
           refine G.r rfl rfl rfl rfl (r_b2s rfl rfl bT_39_9_F23 mB) ?_
           refine G.mv ?_
           refine G.q rfl rfl rfl rfl (q_len_str rfl rfl us_9_F23) ?_
           refine G.mv ?_
           first | refine G.q rfl rfl rfl rfl (q_field0 rfl rfl fo_29_2_F23) ?_ | refine G.q rfl rfl rfl rfl (q_field rfl rfl fo_29_2_F23) ?_
           refine G.rK rfl rfl rfl rfl rfl (fun R => r_load rfl rfl ag_3_F23 mB rfl) ?_
           first | refine G.q rfl rfl rfl rfl (q_ixaddr1 rfl rfl rfl se_52_F23 sz_3_F23 (hj5)) ?_ | refine G.q rfl rfl rfl rfl (q_ixaddr rfl rfl rfl se_52_F23 sz_3_F23 (hj5)) ?_
           refine G.rK rfl rfl rfl rfl rfl (fun R => r_load rfl rfl ag_3_F23 mB (hld5)) ?_
           first | refine G.q rfl rfl rfl rfl (q_sub_i rfl rfl rfl oM) ?_ | refine G.q rfl rfl rfl rfl (q_sub rfl rfl rfl) ?_
           rw [show (out.length : Int) - ((ats.getD j 0 : Nat) : Int) = ((out.length - ats.getD j 0 : Nat) : Int) by omega]
           refine G.call (xs := [_]) rfl rfl (backOf_spec (out.length - ats.getD j 0) oM) bd_21_F23 rfl rfl rfl rfl tK (fun _ _ _ w hR hw => by subst hR; exact Keeps.of hw tK) ?_
           rintro bv _ rfl
           try dsimp only [List.cons_append, List.nil_append]
           refine G.mv ?_
           refine G.call (xs := [_]) rfl rfl (zwrite_spec (Dlt.make y.data x.data) oM) bd_17_F23 rfl rfl rfl rfl tK (fun _ _ _ w hR hw => by obtain ⟨_, rfl⟩ := hR; exact Keeps.of hw tK) ?_
           rintro _ _ ⟨rfl, rfl⟩
           rw [zw_eq]
           try dsimp only [List.cons_append, List.nil_append]
           refine G.r rfl rfl rfl rfl (r_b2s rfl rfl bT_39_9_F23 mB) ?_
           refine G.q rfl rfl rfl rfl (q_add_s rfl rfl rfl oM) ?_
           refine G.q rfl rfl rfl rfl (q_add_s rfl rfl rfl (by simp only [List.length_append]; omega)) ?_
           refine G.q rfl rfl rfl rfl (q_add_s rfl rfl rfl (by simp only [List.length_append]; omega)) ?_
           refine G.as ?_
           refine G.nil ?_
           refine EN.sub (sC 0 (sC 4 (sC 5 (sC 25 (sC 26 (sC 27 Sub.nil)))))) ?_
           refine EN.in_normal ?_
           refine EN.then ?_
           first | refine CG.closeOwn (g := g5) (sz := 1) (xs := (ats ++ [out.length]).map iv) tK1 hcap5 hmx5 hcr5 hct5 ?_ | skip
           refine CG.reg ?_
           first | refine G.q rfl rfl rfl rfl (q_add_i rfl rfl rfl oM) ?_ | refine G.q rfl rfl rfl rfl (q_add rfl rfl rfl) ?_
           rw [ei]
           refine G.mv ?_
           refine G.nil ?_
           exact EN.round (hl := [_, _, _]) (m) oM (⟨i + 1, _, ats ++ [out.length], _, by omega, hol2, by simp [hal], hat2, hck2, hgo, rfl, rfl⟩) sB rfl tK sF
          ·
           dsimp only [pick, nth]
           refine G.mv ?_
           refine G.mv ?_
           refine G.q rfl rfl rfl rfl (q_len_str rfl rfl us_9_F23) ?_
           refine G.call (xs := [_, _]) rfl rfl (headOf_spec 6 (Dlt.make y.data x.data).length oM oM) bd_16_F23 rfl rfl rfl rfl tK (fun _ _ _ w hR hw => by subst hR; exact Keeps.of hw tK) ?_
           rintro hv _ rfl
           try dsimp only [List.cons_append, List.nil_append]
           refine G.mv ?_
           refine G.q rfl rfl rfl rfl (q_len_str rfl rfl us_9_F23) ?_
           refine G.mv ?_
           first | refine G.q rfl rfl rfl rfl (q_field0 rfl rfl fo_29_2_F23) ?_ | refine G.q rfl rfl rfl rfl (q_field rfl rfl fo_29_2_F23) ?_
           refine G.rK rfl rfl rfl rfl rfl (fun R => r_load rfl rfl ag_3_F23 mB rfl) ?_
           first | refine G.q rfl rfl rfl rfl (q_ixaddr1 rfl rfl rfl se_52_F23 sz_3_F23 (hj5)) ?_ | refine G.q rfl rfl rfl rfl (q_ixaddr rfl rfl rfl se_52_F23 sz_3_F23 (hj5)) ?_
           refine G.rK rfl rfl rfl rfl rfl (fun R => r_load rfl rfl ag_3_F23 mB (hld5)) ?_
           first | refine G.q rfl rfl rfl rfl (q_sub_i rfl rfl rfl oM) ?_ | refine G.q rfl rfl rfl rfl (q_sub rfl rfl rfl) ?_
           rw [show (out.length : Int) - ((ats.getD j 0 : Nat) : Int) = ((out.length - ats.getD j 0 : Nat) : Int) by omega]
           refine G.call (xs := [_]) rfl rfl (backOf_spec (out.length - ats.getD j 0) oM) bd_21_F23 rfl rfl rfl rfl tK (fun _ _ _ w hR hw => by subst hR; exact Keeps.of hw tK) ?_
           rintro bv _ rfl
           try dsimp only [List.cons_append, List.nil_append]
           refine G.r rfl rfl rfl rfl (r_b2s rfl rfl bT_39_9_F23 mB) ?_
           refine G.r rfl rfl rfl rfl (r_b2s rfl rfl bT_39_9_F23 mB) ?_
           refine G.q rfl rfl rfl rfl (q_add_s rfl rfl rfl oM) ?_
           refine G.mv ?_
           refine G.call (xs := [_]) rfl rfl (zwrite_spec (Dlt.make y.data x.data) oM) bd_17_F23 rfl rfl rfl rfl tK (fun _ _ _ w hR hw => by obtain ⟨_, rfl⟩ := hR; exact Keeps.of hw tK) ?_
           rintro _ _ ⟨rfl, rfl⟩
           rw [zw_eq]
           try dsimp only [List.cons_append, List.nil_append]
           refine G.q rfl rfl rfl rfl (q_add_s rfl rfl rfl (by simp only [List.length_append]; omega)) ?_
           refine G.q rfl rfl rfl rfl (q_add_s rfl rfl rfl (by simp only [List.length_append]; omega)) ?_
           refine G.as ?_
           refine G.nil ?_
           refine EN.sub (sC 0 (sC 4 (sC 5 (sC 25 (sC 26 (sC 27 Sub.nil)))))) ?_
           refine EN.in_normal ?_
           refine EN.then ?_
           first | refine CG.closeOwn (g := g5) (sz := 1) (xs := (ats ++ [out.length]).map iv) tK1 hcap5 hmx5 hcr5 hct5 ?_ | skip
           refine CG.reg ?_
           first | refine G.q rfl rfl rfl rfl (q_add_i rfl rfl rfl oM) ?_ | refine G.q rfl rfl rfl rfl (q_add rfl rfl rfl) ?_
           rw [ei]
           refine G.mv ?_
           refine G.nil ?_
           exact EN.round (hl := [_, _, _]) (m) oM (⟨i + 1, _, ats ++ [out.length], _, by omega, hol2, by simp [hal], hat2, hck2, hgo, rfl, rfl⟩) sB rfl tK sF
          ·
           dsimp only [pick, nth]
           refine G.mv ?_
           refine G.mv ?_
           refine G.q rfl rfl rfl rfl (q_len_str rfl rfl us_9_F23) ?_
           refine G.call (xs := [_, _]) rfl rfl (headOf_spec 6 (Dlt.make y.data x.data).length oM oM) bd_16_F23 rfl rfl rfl rfl tK (fun _ _ _ w hR hw => by subst hR; exact Keeps.of hw tK) ?_
           rintro hv _ rfl
           try dsimp only [List.cons_append, List.nil_append]
           refine G.mv ?_
           refine G.q rfl rfl rfl rfl (q_len_str rfl rfl us_9_F23) ?_
           refine G.mv ?_
           first | refine G.q rfl rfl rfl rfl (q_field0 rfl rfl fo_29_2_F23) ?_ | refine G.q rfl rfl rfl rfl (q_field rfl rfl fo_29_2_F23) ?_
           refine G.rK rfl rfl rfl rfl rfl (fun R => r_load rfl rfl ag_3_F23 mB rfl) ?_
           first | refine G.q rfl rfl rfl rfl (q_ixaddr1 rfl rfl rfl se_52_F23 sz_3_F23 (hj5)) ?_ | refine G.q rfl rfl rfl rfl (q_ixaddr rfl rfl rfl se_52_F23 sz_3_F23 (hj5)) ?_
           refine G.rK rfl rfl rfl rfl rfl (fun R => r_load rfl rfl ag_3_F23 mB (hld5)) ?_
           first | refine G.q rfl rfl rfl rfl (q_sub_i rfl rfl rfl oM) ?_ | refine G.q rfl rfl rfl rfl (q_sub rfl rfl rfl) ?_
           rw [show (out.length : Int) - ((ats.getD j 0 : Nat) : Int) = ((out.length - ats.getD j 0 : Nat) : Int) by omega]
           refine G.call (xs := [_]) rfl rfl (backOf_spec (out.length - ats.getD j 0) oM) bd_21_F23 rfl rfl rfl rfl tK (fun _ _ _ w hR hw => by subst hR; exact Keeps.of hw tK) ?_
           rintro bv _ rfl
           try dsimp only [List.cons_append, List.nil_append]
           refine G.r rfl rfl rfl rfl (r_b2s rfl rfl bT_39_9_F23 mB) ?_
           refine G.mv ?_
           refine G.call (xs := [_]) rfl rfl (zwrite_spec (Dlt.make y.data x.data) oM) bd_17_F23 rfl rfl rfl rfl tK (fun _ _ _ w hR hw => by obtain ⟨_, rfl⟩ := hR; exact Keeps.of hw tK) ?_
           rintro _ _ ⟨rfl, rfl⟩
           rw [zw_eq]
           try dsimp only [List.cons_append, List.nil_append]
           refine G.r rfl rfl rfl rfl (r_b2s rfl rfl bT_39_9_F23 mB) ?_
           refine G.q rfl rfl rfl rfl (q_add_s rfl rfl rfl oM) ?_
           refine G.q rfl rfl rfl rfl (q_add_s rfl rfl rfl (by simp only [List.length_append]; omega)) ?_
           refine G.q rfl rfl rfl rfl (q_add_s rfl rfl rfl (by simp only [List.length_append]; omega)) ?_
           refine G.as ?_
           refine G.nil ?_
           refine EN.sub (sC 0 (sC 4 (sC 5 (sC 25 (sC 26 (sC 27 Sub.nil)))))) ?_
           refine EN.in_normal ?_
           refine EN.then ?_
           first | refine CG.closeOwn (g := g5) (sz := 1) (xs := (ats ++ [out.length]).map iv) tK1 hcap5 hmx5 hcr5 hct5 ?_ | skip
           refine CG.reg ?_
           first | refine G.q rfl rfl rfl rfl (q_add_i rfl rfl rfl oM) ?_ | refine G.q rfl rfl rfl rfl (q_add rfl rfl rfl) ?_
           rw [ei]
           refine G.mv ?_
           refine G.nil ?_
           exact EN.round (hl := [_, _, _]) (m) oM (⟨i + 1, _, ats ++ [out.length], _, by omega, hol2, by simp [hal], hat2, hck2, hgo, rfl, rfl⟩) sB rfl tK sF
          ·
           dsimp only [pick, nth]
           refine G.mv ?_
           refine G.mv ?_
           refine G.q rfl rfl rfl rfl (q_len_str rfl rfl us_9_F23) ?_
           refine G.call (xs := [_, _]) rfl rfl (headOf_spec 6 (Dlt.make y.data x.data).length oM oM) bd_16_F23 rfl rfl rfl rfl tK (fun _ _ _ w hR hw => by subst hR; exact Keeps.of hw tK) ?_
           rintro hv _ rfl
           try dsimp only [List.cons_append, List.nil_append]
           refine G.mv ?_
           refine G.q rfl rfl rfl rfl (q_len_str rfl rfl us_9_F23) ?_
           refine G.mv ?_
           first | refine G.q rfl rfl rfl rfl (q_field0 rfl rfl fo_29_2_F23) ?_ | refine G.q rfl rfl rfl rfl (q_field rfl rfl fo_29_2_F23) ?_
           refine G.rK rfl rfl rfl rfl rfl (fun R => r_load rfl rfl ag_3_F23 mB rfl) ?_
           first | refine G.q rfl rfl rfl rfl (q_ixaddr1 rfl rfl rfl se_52_F23 sz_3_F23 (hj5)) ?_ | refine G.q rfl rfl rfl rfl (q_ixaddr rfl rfl rfl se_52_F23 sz_3_F23 (hj5)) ?_
           refine G.rK rfl rfl rfl rfl rfl (fun R => r_load rfl rfl ag_3_F23 mB (hld5)) ?_
           first | refine G.q rfl rfl rfl rfl (q_sub_i rfl rfl rfl oM) ?_ | refine G.q rfl rfl rfl rfl (q_sub rfl rfl rfl) ?_
           rw [show (out.length : Int) - ((ats.getD j 0 : Nat) : Int) = ((out.length - ats.getD j 0 : Nat) : Int) by omega]
           refine G.call (xs := [_]) rfl rfl (backOf_spec (out.length - ats.getD j 0) oM) bd_21_F23 rfl rfl rfl rfl tK (fun _ _ _ w hR hw => by subst hR; exact Keeps.of hw tK) ?_
           rintro bv _ rfl
           try dsimp only [List.cons_append, List.nil_append]
           refine G.r rfl rfl rfl rfl (r_b2s rfl rfl bT_39_9_F23 mB) ?_
           refine G.mv ?_
           refine G.call (xs := [_]) rfl rfl (zwrite_spec (Dlt.make y.data x.data) oM) bd_17_F23 rfl rfl rfl rfl tK (fun _ _ _ w hR hw => by obtain ⟨_, rfl⟩ := hR; exact Keeps.of hw tK) ?_
           rintro _ _ ⟨rfl, rfl⟩
           rw [zw_eq]
           try dsimp only [List.cons_append, List.nil_append]
           refine G.r rfl rfl rfl rfl (r_b2s rfl rfl bT_39_9_F23 mB) ?_
           refine G.q rfl rfl rfl rfl (q_add_s rfl rfl rfl oM) ?_
           refine G.q rfl rfl rfl rfl (q_add_s rfl rfl rfl (by simp only [List.length_append]; omega)) ?_
           refine G.q rfl rfl rfl rfl (q_add_s rfl rfl rfl (by simp only [List.length_append]; omega)) ?_
           refine G.as ?_
           refine G.nil ?_
           refine EN.sub (sC 0 (sC 4 (sC 5 (sC 25 (sC 26 (sC 27 Sub.nil)))))) ?_
           refine EN.in_normal ?_
           refine EN.then ?_
           first | refine CG.closeOwn (g := g5) (sz := 1) (xs := (ats ++ [out.length]).map iv) tK1 hcap5 hmx5 hcr5 hct5 ?_ | skip
           refine CG.reg ?_
           first | refine G.q rfl rfl rfl rfl (q_add_i rfl rfl rfl oM) ?_ | refine G.q rfl rfl rfl rfl (q_add rfl rfl rfl) ?_
           rw [ei]
           refine G.mv ?_
           refine G.nil ?_
           exact EN.round (hl := [_, _, _]) (m) oM (⟨i + 1, _, ats ++ [out.length], _, by omega, hol2, by simp [hal], hat2, hck2, hgo, rfl, rfl⟩) sB rfl tK sF
          ·
           dsimp only [pick, nth]
           refine G.mv ?_
           refine G.mv ?_
           refine G.q rfl rfl rfl rfl (q_len_str rfl rfl us_9_F23) ?_
           refine G.call (xs := [_, _]) rfl rfl (headOf_spec 6 (Dlt.make y.data x.data).length oM oM) bd_16_F23 rfl rfl rfl rfl tK (fun _ _ _ w hR hw => by subst hR; exact Keeps.of hw tK) ?_
           rintro hv _ rfl
           try dsimp only [List.cons_append, List.nil_append]
           refine G.mv ?_
           refine G.q rfl rfl rfl rfl (q_len_str rfl rfl us_9_F23) ?_
           refine G.mv ?_
           first | refine G.q rfl rfl rfl rfl (q_field0 rfl rfl fo_29_2_F23) ?_ | refine G.q rfl rfl rfl rfl (q_field rfl rfl fo_29_2_F23) ?_
           refine G.rK rfl rfl rfl rfl rfl (fun R => r_load rfl rfl ag_3_F23 mB rfl) ?_
           first | refine G.q rfl rfl rfl rfl (q_ixaddr1 rfl rfl rfl se_52_F23 sz_3_F23 (hj5)) ?_ | refine G.q rfl rfl rfl rfl (q_ixaddr rfl rfl rfl se_52_F23 sz_3_F23 (hj5)) ?_
           refine G.rK rfl rfl rfl rfl rfl (fun R => r_load rfl rfl ag_3_F23 mB (hld5)) ?_
           first | refine G.q rfl rfl rfl rfl (q_sub_i rfl rfl rfl oM) ?_ | refine G.q rfl rfl rfl rfl (q_sub rfl rfl rfl) ?_
           rw [show (out.length : Int) - ((ats.getD j 0 : Nat) : Int) = ((out.length - ats.getD j 0 : Nat) : Int) by omega]
           refine G.call (xs := [_]) rfl rfl (backOf_spec (out.length - ats.getD j 0) oM) bd_21_F23 rfl rfl rfl rfl tK (fun _ _ _ w hR hw => by subst hR; exact Keeps.of hw tK) ?_
           rintro bv _ rfl
           try dsimp only [List.cons_append, List.nil_append]
           refine G.mv ?_
           refine G.call (xs := [_]) rfl rfl (zwrite_spec (Dlt.make y.data x.data) oM) bd_17_F23 rfl rfl rfl rfl tK (fun _ _ _ w hR hw => by obtain ⟨_, rfl⟩ := hR; exact Keeps.of hw tK) ?_
           rintro _ _ ⟨rfl, rfl⟩
           rw [zw_eq]
           try dsimp only [List.cons_append, List.nil_append]
           refine G.r rfl rfl rfl rfl (r_b2s rfl rfl bT_39_9_F23 mB) ?_
           refine G.r rfl rfl rfl rfl (r_b2s rfl rfl bT_39_9_F23 mB) ?_
           refine G.q rfl rfl rfl rfl (q_add_s rfl rfl rfl oM) ?_
           refine G.q rfl rfl rfl rfl (q_add_s rfl rfl rfl (by simp only [List.length_append]; omega)) ?_
           refine G.q rfl rfl rfl rfl (q_add_s rfl rfl rfl (by simp only [List.length_append]; omega)) ?_
           refine G.as ?_
           refine G.nil ?_
           refine EN.sub (sC 0 (sC 4 (sC 5 (sC 25 (sC 26 (sC 27 Sub.nil)))))) ?_
           refine EN.in_normal ?_
           refine EN.then ?_
           first | refine CG.closeOwn (g := g5) (sz := 1) (xs := (ats ++ [out.length]).map iv) tK1 hcap5 hmx5 hcr5 hct5 ?_ | skip
           refine CG.reg ?_
           first | refine G.q rfl rfl rfl rfl (q_add_i rfl rfl rfl oM) ?_ | refine G.q rfl rfl rfl rfl (q_add rfl rfl rfl) ?_
           rw [ei]
           refine G.mv ?_
           refine G.nil ?_
           exact EN.round (hl := [_, _, _]) (m) oM (⟨i + 1, _, ats ++ [out.length], _, by omega, hol2, by simp [hal], hat2, hck2, hgo, rfl, rfl⟩) sB rfl tK sF
  ·
   obtain rfl : m = 0 := by omega
   rw [goB] at hgo
   have hE : buildE items = (out ++ Sha.sum1 out, 0) := by rw [hE0, ← hgo]; rfl
   have hs20 := sum1_len out
   refine CG.exit ?_
   refine EN.then_exit ?_
   refine EN.then_exit ?_
   refine EN.in_here ?_
   refine EN.tsr ?_
   refine G.mv ?_
   refine G.mv ?_
   refine G.call (xs := [_]) rfl rfl (sum1_spec out oM) bd_22_F23 rfl rfl rfl rfl tK (fun _ _ _ _ _ _ => trivial) ?_
   rintro _ _ ⟨rfl, rfl⟩
   try dsimp only [List.cons_append, List.nil_append]
   refine G.q rfl rfl rfl rfl (q_add_s rfl rfl rfl oM) ?_
   refine G.as ?_
   refine G.as ?_
   refine G.nil ?_
   refine EN.sub (sC 2 (sC 3 Sub.nil)) ?_
   refine EN.then ?_
   refine CG.ret ?_
   exact fin_ret2 rfl rfl rfl tK sF (⟨by rw [hE] <;> rfl, rfl⟩) _ (.inl rfl)

end Go.Eng
/-
  Laws of packs: awake, PackOne.
-/
set_option linter.unusedVariables false
set_option linter.unusedSimpArgs false
namespace Go.Eng
open Go.Proofs
theorem ag_23_F24 : aggB Tryd.prog 23 = some true := by kernel_rfl
theorem ag_3_F24 : aggB Tryd.prog 3 = some false := by kernel_rfl
theorem ag_9_F24 : aggB Tryd.prog 9 = some false := by kernel_rfl
theorem bd_13_F24 : bodied Tryd.prog 13 = true := by kernel_rfl
theorem bd_6_F24 : bodied Tryd.prog 6 = true := by kernel_rfl
theorem bd_7_F24 : bodied Tryd.prog 7 = true := by kernel_rfl
theorem bd_8_F24 : bodied Tryd.prog 8 = true := by kernel_rfl
theorem bd_9_F24 : bodied Tryd.prog 9 = true := by kernel_rfl
theorem bs_30_1_all_F24 : ∀ (x0_0_0 : Int) (x0_0_1 : List UInt8) (x0_1 : Bool) (x0_2 : Int) (x0_3 : Bool) (w : World), (Instr.buildSlice 30 1 [(0, .agg [.int .i64 x0_0_0, str x0_0_1, .bool x0_1, .int .i64 x0_2, .bool x0_3].toArray)].toArray).run Tryd.prog w = .ok (.slice (some ⟨w.heap.size, 0, none⟩) 1 1) { w with heap := w.heap.push (.cells [.int .i64 x0_0_0, str x0_0_1, .bool x0_1, .int .i64 x0_2, .bool x0_3].toArray 29) } := fun _ _ _ _ _ _ => by kernel_rfl
theorem bu_29_0_F24 : ∀ (x0_0 : Int) (x0_1 : List UInt8) (w : World), (Instr.build 29 [(0, .agg [.int .i64 x0_0, str x0_1].toArray)].toArray).run Tryd.prog w = .ok (.agg [.int .i64 x0_0, str x0_1, .bool false, .int .i64 0, .bool false].toArray) w := fun _ _ _ => by kernel_rfl
theorem fo_23_0_F24 : fieldOff Tryd.prog 23 0 = some 0 := by kernel_rfl
theorem fo_23_1_F24 : fieldOff Tryd.prog 23 1 = some 1 := by kernel_rfl
theorem fo_34_1_F24 : fieldOff Tryd.prog 34 1 = some 1 := by kernel_rfl
theorem fo_34_2_F24 : fieldOff Tryd.prog 34 2 = some 2 := by kernel_rfl
theorem fo_34_3_F24 : fieldOff Tryd.prog 34 3 = some 3 := by kernel_rfl
theorem fo_34_4_F24 : fieldOff Tryd.prog 34 4 = some 4 := by kernel_rfl
theorem fo_34_5_F24 : fieldOff Tryd.prog 34 5 = some 5 := by kernel_rfl
theorem sz_23_F24 : sizeB Tryd.prog 23 = some 2 := by kernel_rfl
theorem sz_34_F24 : sizeB Tryd.prog 34 = some 7 := by kernel_rfl
theorem sz_9_F24 : sizeB Tryd.prog 9 = some 1 := by kernel_rfl
theorem us_9_F24 : Tryd.prog.underlying 9 = some .string := by kernel_rfl
theorem zl_34_F24 : zeroL Tryd.prog 34 = some [.int .i64 0, .int .i64 0, .int .i64 0, str [], .int .i64 0, str [], .int .u32 0] := by kernel_rfl

/-- the empty pack -/
def pk0 : List UInt8 := headO 0 ++ Sha.sum1 (headO 0)
theorem pk0_b : buildE [] = (pk0, 0) := rfl
theorem pk0_len : pk0.length = 32 := by unfold pk0; simp [sum1_len, headO, Sums.big]
theorem head0 : headO 0 = [80, 65, 67, 75, 0, 0, 0, 2, 0, 0, 0, 0] := by decide +kernel
theorem pk0_take : pk0.take 12 = headO 0 := by unfold pk0; rw [List.take_append_of_le_length (by rw [head0]; decide), List.take_of_length_le (by rw [head0]; decide)]
theorem pk0_body : pk0.take (pk0.length - 20) = headO 0 := by rw [pk0_len]; exact pk0_take
theorem pk0_c : countE pk0 = (0, 0) := by
  unfold countE
  have h4 : pk0.take 4 = [80, 65, 67, 75] := by rw [show pk0.take 4 = (pk0.take 12).take 4 by rw [List.take_take]; rfl, pk0_take, head0]; rfl
  have h8 : (pk0.take 8).drop 4 = [0, 0, 0, 2] := by rw [show pk0.take 8 = (pk0.take 12).take 8 by rw [List.take_take]; rfl, pk0_take, head0]; rfl
  have h12 : (pk0.take 12).drop 8 = [0, 0, 0, 0] := by rw [pk0_take, head0]; rfl
  have f2 : Sums.fromBig [0, 0, 0, 2] = 2 := by decide +kernel
  have f0 : Sums.fromBig [0, 0, 0, 0] = 0 := by decide +kernel
  have hd : pk0.drop (pk0.length - 20) = Sha.sum1 (headO 0) := by rw [pk0_len]; unfold pk0; rw [List.drop_append_of_le_length (by rw [head0]; decide), List.drop_of_length_le (by rw [head0]; decide)]; rfl
  rw [if_neg (by rw [pk0_len]; decide), h4, h8, h12, f2, f0, pk0_body, hd, if_neg (by simp), if_neg (by decide), if_neg (by simp)]; rfl
theorem pk0_r : readE pk0 12 = (.zero, 6) := by
  have := readE_in (s := pk0) (a := 12) (by omega) (by rw [pk0_len]; omega)
  rw [show ((12 : Nat) : Int) = 12 from rfl] at this
  rw [this, pk0_body, head0]; rfl
def OneLaw : Prop := ∀ (k : Nat) (d : List UInt8), 1 ≤ k → k ≤ 4 → d.length ≤ 400 → ∀ s, s = headO 1 ++ (headL k d.length ++ zw d) → ∃ c, readE (s ++ Sha.sum1 s) 12 = (⟨12, (s.length : Nat), k, d, 0, [], c⟩, 0)
theorem read_end (s : List UInt8) (h : 12 ≤ s.length) : readE (s ++ Sha.sum1 s) ((s.length : Nat) : Int) = (.zero, 6) := by
  have hs := sum1_len s
  rw [readE_in (by omega) (by rw [List.length_append, hs]; omega)]
  have : (s ++ Sha.sum1 s).take ((s ++ Sha.sum1 s).length - 20) = s := by rw [List.length_append, hs, Nat.add_sub_cancel, List.take_append_of_le_length (Nat.le_refl _), List.take_length]
  rw [this]
  unfold Pk.head; rw [List.getElem?_eq_none (Nat.le_refl _)]; rfl
theorem read_low (s : List UInt8) (a : Int) (h : a < 12) : readE s a = (.zero, 1) := by unfold readE; rw [if_pos (.inl h)]
theorem build1 {k : Int} {d : List UInt8} (hd : d.length ≤ 400) : buildE [⟨k, d, false, 0, false⟩] = if 1 ≤ k ∧ k ≤ 4 then ((headO 1 ++ (headL k.toNat d.length ++ zw d)) ++ Sha.sum1 (headO 1 ++ (headL k.toNat d.length ++ zw d)), 0) else ([], 10) := by
  obtain ⟨x, hx⟩ : ∃ x : Itm, x = ⟨k, d, false, 0, false⟩ := ⟨_, rfl⟩
  have x1 : x.kind = k := by rw [hx]
  have x2 : x.data = d := by rw [hx]
  have x3 : x.delta = false := by rw [hx]
  rw [← hx]
  have hE : buildE [x] = bR (goB [x] 1 0 (headO 1) []) := if_neg (by simp)
  rw [hE, goB, List.getElem?_cons_zero]
  dsimp only
  have hs : ∀ h : ocheck k d = 0, stepB [x] 0 x (headO 1) [] = .ok (headO 1 ++ (headL k.toNat d.length ++ zw d)) := fun h => by
    unfold stepB
    rw [x1, x2, x3, if_neg (by omega), if_neg (by simp), if_neg (by simp), if_pos rfl]
  by_cases hk : 1 ≤ k ∧ k ≤ 4
  · have hc : ocheck k d = 0 := by unfold ocheck; rw [if_neg (by rw [oname_nil]; omega), if_neg (by omega)]
    rw [hs hc, if_pos hk]; dsimp only; rw [goB]; rfl
  · have hc : ocheck k d = 10 := by unfold ocheck; rw [if_pos (by rw [oname_nil]; omega)]
    have : stepB [x] 0 x (headO 1) [] = .err 10 := by unfold stepB; rw [x1, x2, hc, if_pos (by omega)]
    rw [this, if_neg hk]; rfl


attribute [local irreducible] cel own exS ownG tabH TabI Sums.hex Sha.sum1 zw headL backL Dlt.make encode ocheck Sums.big readE buildE countE headO pk0

set_option maxRecDepth 100000 in
set_option maxHeartbeats 1000000 in
theorem awake_spec {tz : TypeId × Nat × Nat}  : Spec Tryd.prog 8 #[] [TabI tz] (Ret fun v hl => v = .bool true ∧ hl = [TabI tz]) := by
 refine Spec.enter Tryd.func8 rfl rfl rfl (fun F w0 => ?_)
 dsimp only [argL, List.cons_append, List.nil_append]
 refine CG.sr ?_
 refine G.as ?_
 refine G.nil ?_
 refine EN.ts ?_
 refine CG.ownNil 29 5 ?_
 refine CG.imp Take.here (q := ownO 29 5 (.slice none 0 0) 0 []) (fun h hh => ownG_weak (own_G.1 hh)) ?_
 refine CG.reg ?_
 refine G.call (xs := [_]) rfl rfl (build_spec [] none 0) bd_7_F24 rfl rfl rfl rfl tK (fun _ _ _ _ _ _ => trivial) ?_
 rintro _ _ ⟨rfl, rfl⟩
 rw [pk0_b]
 try dsimp only [List.cons_append, List.nil_append]
 refine G.mv ?_
 refine G.q rfl rfl rfl rfl (q_extract rfl rfl rfl) ?_
 refine G.q rfl rfl rfl rfl (q_extract rfl rfl rfl) ?_
 refine G.as ?_
 refine G.as ?_
 refine G.nil ?_
 refine EN.tsr ?_
 refine G.mv ?_
 refine G.call (xs := [_]) rfl rfl (count_spec pk0 (by rw [pk0_len]; decide)) bd_13_F24 rfl rfl rfl rfl tK (fun _ _ _ _ _ _ => trivial) ?_
 rintro _ _ ⟨rfl, rfl⟩
 rw [pk0_c]
 try dsimp only [List.cons_append, List.nil_append]
 refine G.mv ?_
 refine G.q rfl rfl rfl rfl (q_extract rfl rfl rfl) ?_
 refine G.q rfl rfl rfl rfl (q_extract rfl rfl rfl) ?_
 refine G.as ?_
 refine G.as ?_
 refine G.nil ?_
 refine EN.sub (sC 0 (sC 1 (sC 2 (sC 3 (sC 4 Sub.nil))))) ?_
 refine EN.tsr ?_
 refine G.mv ?_
 refine G.call (xs := [_, _]) rfl rfl (pread_spec pk0 12 (by rw [pk0_len]; decide)) bd_9_F24 rfl rfl rfl rfl tK (fun _ _ _ _ _ _ => trivial) ?_
 rintro _ _ ⟨rfl, rfl⟩
 rw [pk0_r]
 try dsimp only [List.cons_append, List.nil_append]
 refine G.mv ?_
 refine G.q rfl rfl rfl rfl (q_extract rfl rfl rfl) ?_
 refine G.q rfl rfl rfl rfl (q_extract rfl rfl rfl) ?_
 refine G.e rfl rfl rfl rfl (e_alloc rfl zl_34_F24) (fun _ _ _ _ _ _ => trivial) ?_
 rintro _ _ ⟨b5, rfl, rfl⟩
 first | refine G.sa0 sz_34_F24 ?_ | refine G.sg0 sz_34_F24 ?_
 refine G.as ?_
 refine G.nil ?_
 refine EN.tsr ?_
 refine G.mv ?_
 refine G.q rfl rfl rfl rfl (q_eql rfl rfl rfl) ?_
 refine G.mv ?_
 refine G.split (t := 23) rfl (fun g23 => ?_) (fun g23 => absurd (rfl) g23)
 refine G.mv ?_
 refine G.q rfl rfl rfl rfl (q_eql rfl rfl rfl) ?_
 refine G.q rfl rfl rfl rfl (q_pick_t rfl rfl rfl) ?_
 refine G.mv ?_
 refine G.split (t := 27) rfl (fun g27 => ?_) (fun g27 => absurd (rfl) g27)
 refine G.mv ?_
 refine G.q rfl rfl rfl rfl (q_eql rfl rfl rfl) ?_
 refine G.q rfl rfl rfl rfl (q_pick_t rfl rfl rfl) ?_
 refine G.mv ?_
 refine G.split (t := 31) rfl (fun g31 => ?_) (fun g31 => absurd (rfl) g31)
 refine G.mv ?_
 refine G.q rfl rfl rfl rfl (q_eql rfl rfl rfl) ?_
 refine G.q rfl rfl rfl rfl (q_pick_t rfl rfl rfl) ?_
 refine G.mv ?_
 refine G.split (t := 35) rfl (fun g35 => ?_) (fun g35 => absurd (rfl) g35)
 refine G.mv ?_
 refine G.q rfl rfl rfl rfl (q_len_str rfl rfl us_9_F24) ?_
 refine G.q rfl rfl rfl rfl (q_eql rfl rfl rfl) ?_
 refine G.q rfl rfl rfl rfl (q_pick_t rfl rfl rfl) ?_
 refine G.mv ?_
 refine G.split (t := 40) rfl (fun g40 => ?_) (fun g40 => absurd (by rw [pk0_len]; rfl) g40)
 refine G.mv ?_
 refine G.q rfl rfl rfl rfl (q_slice_hi rfl rfl rfl us_9_F24 (by rw [pk0_len]; decide)) ?_
 rw [pk0_take, head0]
 refine G.q rfl rfl rfl rfl (q_eql_s rfl rfl rfl) ?_
 refine G.q rfl rfl rfl rfl (q_pick_t rfl rfl rfl) ?_
 refine G.as ?_
 refine G.nil ?_
 refine EN.sub (sC 0 Sub.nil) ?_
 refine EN.then ?_
 refine CG.ret ?_
 exact fin_ret1 rfl rfl tK sF (⟨by simp, rfl⟩) _ (.inl rfl)

set_option maxRecDepth 100000 in
set_option maxHeartbeats 1000000 in
theorem packOne_spec {tz : TypeId × Nat × Nat} (hone : OneLaw) (k : Int) (d : List UInt8) : Spec Tryd.prog 3 #[.agg #[.int .i64 k, str d]] [TabI tz] (Ret fun v hl => v = .bool true ∧ hl = [TabI tz]) := by
 refine Spec.enter Tryd.func3 rfl rfl rfl (fun F w0 => ?_)
 dsimp only [argL, List.cons_append, List.nil_append]
 refine CG.sr ?_
 refine G.e rfl rfl rfl rfl (e_box rfl rfl) (fun _ _ _ _ _ _ => trivial) ?_
 rintro _ _ ⟨b1, rfl, rfl⟩
 refine G.as ?_
 refine G.nil ?_
 refine EN.tsr ?_
 first | refine G.q rfl rfl rfl rfl (q_field0 rfl rfl fo_23_1_F24) ?_ | refine G.q rfl rfl rfl rfl (q_field rfl rfl fo_23_1_F24) ?_
 refine G.ld ag_9_F24 ?_
 refine G.call (xs := [_, _]) rfl rfl (few_spec d 400) bd_6_F24 rfl rfl rfl rfl tK (fun _ _ _ _ _ _ => trivial) ?_
 rintro _ _ ⟨rfl, rfl⟩
 obtain ⟨t, ht⟩ : ∃ t, d.take 400 = t := ⟨_, rfl⟩
 have htl : t.length ≤ 400 := by rw [← ht]; simp; omega
 rw [ht]
 try dsimp only [List.cons_append, List.nil_append]
 first | refine G.q rfl rfl rfl rfl (q_field0 rfl rfl fo_23_1_F24) ?_ | refine G.q rfl rfl rfl rfl (q_field rfl rfl fo_23_1_F24) ?_
 refine G.st0 sz_9_F24 ?_
 refine G.nil ?_
 refine EN.tsr ?_
 first | refine G.ldA ag_23_F24 sz_23_F24 ?_ | refine G.ldP ag_23_F24 sz_23_F24 ?_
 refine G.q rfl rfl rfl rfl (q_build rfl rfl (bu_29_0_F24 _ _)) ?_
 refine G.e rfl rfl rfl rfl (e_bslice rfl rfl (bs_30_1_all_F24 _ _ _ _ _)) (fun _ _ _ _ _ _ => trivial) ?_
 rintro _ _ ⟨b18, rfl, rfl⟩
 refine G.closeOwn (g := b18) (sz := 5) (n := 1) (cap := 1) (xs := ([⟨k, t, false, 0, false⟩] : List Itm).flatMap Itm.cells) tK1 (by decide) (by decide) rfl rfl ?_
 refine G.imp Take.here (q := ownO 29 5 (.slice (some ⟨b18, 0, none⟩) 1 1) 1 (([⟨k, t, false, 0, false⟩] : List Itm).flatMap Itm.cells)) (fun h hh => ownG_weak (own_G.1 hh)) ?_
 refine G.call (xs := [_]) rfl rfl (build_spec [⟨k, t, false, 0, false⟩] (some ⟨b18, 0, none⟩) 1) bd_7_F24 rfl rfl rfl rfl tK (fun _ _ _ _ _ _ => trivial) ?_
 rintro _ _ ⟨rfl, rfl⟩
 obtain ⟨r, hr⟩ : ∃ r, buildE [⟨k, t, false, 0, false⟩] = r := ⟨_, rfl⟩
 rw [hr]
 try dsimp only [List.cons_append, List.nil_append]
 refine G.mv ?_
 refine G.q rfl rfl rfl rfl (q_extract rfl rfl rfl) ?_
 refine G.q rfl rfl rfl rfl (q_extract rfl rfl rfl) ?_
 refine G.as ?_
 refine G.as ?_
 refine G.nil ?_
 refine EN.sub (sC 1 (sC 2 (sC 3 (sC 4 Sub.nil)))) ?_
 refine EN.ts ?_
 refine CG.sr ?_
 refine G.mv ?_
 refine G.q rfl rfl rfl rfl (q_neq rfl rfl rfl) ?_
 refine G.nil ?_
 refine EN.then ?_
 refine CG.cond rfl (fun h23 => ?_) (fun h23 => ?_)
 ·
  have hnk : ¬ (1 ≤ k ∧ k ≤ 4) := fun h => by rw [build1 htl, if_pos h] at hr; rw [← hr] at h23; exact h23 rfl
  rw [build1 htl, if_neg hnk] at hr
  subst hr
  try dsimp only
  refine CG.sr ?_
  refine G.call (xs := []) rfl rfl (awake_spec) bd_8_F24 rfl rfl rfl rfl tK (fun _ _ _ _ _ _ => trivial) ?_
  rintro _ _ ⟨rfl, rfl⟩
  try dsimp only [List.cons_append, List.nil_append]
  refine G.mv ?_
  first | refine G.q rfl rfl rfl rfl (q_field0 rfl rfl fo_23_0_F24) ?_ | refine G.q rfl rfl rfl rfl (q_field rfl rfl fo_23_0_F24) ?_
  refine G.ld ag_3_F24 ?_
  refine G.q rfl rfl rfl rfl (q_lss rfl rfl rfl) ?_
  refine G.mv ?_
  refine G.split (t := 29) rfl (fun g29 => ?_) (fun g29 => ?_)
  ·
   refine G.skip rfl rfl rfl ?_
   refine G.skip rfl rfl rfl ?_
   refine G.skip rfl rfl rfl ?_
   refine G.q rfl rfl rfl rfl (q_pick_t rfl rfl rfl) ?_
   refine G.q rfl rfl rfl rfl (q_pick_t rfl rfl rfl) ?_
   refine G.mv ?_
   refine G.mv ?_
   refine G.q rfl rfl rfl rfl (q_eql rfl rfl rfl) ?_
   refine G.q rfl rfl rfl rfl (q_pick_t rfl rfl rfl) ?_
   refine G.mv ?_
   refine G.split (t := 39) rfl (fun g39 => ?_) (fun g39 => absurd (rfl) g39)
   refine G.mv ?_
   refine G.q rfl rfl rfl rfl (q_eql_s rfl rfl rfl) ?_
   refine G.q rfl rfl rfl rfl (q_pick_t rfl rfl rfl) ?_
   refine G.as ?_
   refine G.nil ?_
   refine EN.sub (sC 1 (sC 2 (sC 3 Sub.nil))) ?_
   refine EN.then ?_
   refine CG.ret ?_
   refine EN.then_ret ?_
   exact fin_ret1 rfl rfl tK sF (⟨by simp, rfl⟩) _ (.inl rfl)
  ·
   first | refine G.q rfl rfl rfl rfl (q_field0 rfl rfl fo_23_0_F24) ?_ | refine G.q rfl rfl rfl rfl (q_field rfl rfl fo_23_0_F24) ?_
   refine G.ld ag_3_F24 ?_
   refine G.q rfl rfl rfl rfl (q_gtr rfl rfl rfl) ?_
   refine G.q rfl rfl rfl rfl (q_pick_f rfl rfl rfl) ?_
   refine G.q rfl rfl rfl rfl (q_pick_t rfl rfl rfl) ?_
   refine G.mv ?_
   refine G.split (t := 35) rfl (fun g35 => ?_) (fun g35 => absurd oM g35)
   refine G.mv ?_
   refine G.q rfl rfl rfl rfl (q_eql rfl rfl rfl) ?_
   refine G.q rfl rfl rfl rfl (q_pick_t rfl rfl rfl) ?_
   refine G.mv ?_
   refine G.split (t := 39) rfl (fun g39 => ?_) (fun g39 => absurd (rfl) g39)
   refine G.mv ?_
   refine G.q rfl rfl rfl rfl (q_eql_s rfl rfl rfl) ?_
   refine G.q rfl rfl rfl rfl (q_pick_t rfl rfl rfl) ?_
   refine G.as ?_
   refine G.nil ?_
   refine EN.sub (sC 1 (sC 2 (sC 3 Sub.nil))) ?_
   refine EN.then ?_
   refine CG.ret ?_
   refine EN.then_ret ?_
   exact fin_ret1 rfl rfl tK sF (⟨by simp, rfl⟩) _ (.inl rfl)
 ·
  have hk : 1 ≤ k ∧ k ≤ 4 := Decidable.byContradiction fun h => h23 (by rw [build1 htl, if_neg h] at hr; rw [← hr]; decide)
  rw [build1 htl, if_pos hk] at hr
  obtain ⟨s, hs⟩ : ∃ s, headO 1 ++ (headL k.toNat t.length ++ zw t) = s := ⟨_, rfl⟩
  have hsl : 12 ≤ s.length ∧ s.length ≤ 70000 := by
    have h1 : (headO 1).length = 12 := by simp [headO, Sums.big]
    have h2 := headL_len (k := k.toNat) (n := t.length) oM
    have h3 := zw_len t oM
    rw [← hs]; simp only [List.length_append]; omega
  rw [hs] at hr
  subst hr
  try dsimp only
  obtain ⟨k, rfl⟩ := Int.eq_ofNat_of_zero_le (by omega : 0 ≤ k)
  obtain ⟨c, hc⟩ := hone k t oM oM htl s hs.symm
  have hss : (s ++ Sha.sum1 s).length = s.length + 20 := by rw [List.length_append, sum1_len]
  obtain ⟨p, hp⟩ : ∃ p, s ++ Sha.sum1 s = p := ⟨_, rfl⟩
  have he := read_end s hsl.1
  rw [hp] at hc hss he
  rw [hp]
  refine CG.skip ?_
  refine EN.tsr ?_
  refine G.mv ?_
  refine G.call (xs := [_, _]) rfl rfl (pread_spec p 12 oM) bd_9_F24 rfl rfl rfl rfl tK (fun _ _ _ _ _ _ => trivial) ?_
  rintro _ _ ⟨rfl, rfl⟩
  rw [hc]
  simp only [Pk.Ent.cells]
  try dsimp only [List.cons_append, List.nil_append]
  refine G.mv ?_
  refine G.q rfl rfl rfl rfl (q_extract rfl rfl rfl) ?_
  refine G.q rfl rfl rfl rfl (q_extract rfl rfl rfl) ?_
  refine G.e rfl rfl rfl rfl (e_alloc rfl zl_34_F24) (fun _ _ _ _ _ _ => trivial) ?_
  rintro _ _ ⟨b5, rfl, rfl⟩
  first | refine G.sa0 sz_34_F24 ?_ | refine G.sg0 sz_34_F24 ?_
  refine G.as ?_
  refine G.nil ?_
  refine EN.tsr ?_
  refine G.mv ?_
  refine G.mv ?_
  refine G.q rfl rfl rfl rfl (q_len_str rfl rfl us_9_F24) ?_
  first | refine G.q rfl rfl rfl rfl (q_sub_i rfl rfl rfl oM) ?_ | refine G.q rfl rfl rfl rfl (q_sub rfl rfl rfl) ?_
  rw [show (p.length : Int) - 20 = ((s.length : Nat) : Int) by omega]
  refine G.call (xs := [_, _]) rfl rfl (pread_spec p s.length oM) bd_9_F24 rfl rfl rfl rfl tK (fun _ _ _ _ _ _ => trivial) ?_
  rintro _ _ ⟨rfl, rfl⟩
  rw [he]
  simp only [Pk.Ent.zero, Pk.Ent.cells]
  try dsimp only [List.cons_append, List.nil_append]
  refine G.mv ?_
  refine G.q rfl rfl rfl rfl (q_extract rfl rfl rfl) ?_
  refine G.q rfl rfl rfl rfl (q_extract rfl rfl rfl) ?_
  refine G.e rfl rfl rfl rfl (e_alloc rfl zl_34_F24) (fun _ _ _ _ _ _ => trivial) ?_
  rintro _ _ ⟨b7, rfl, rfl⟩
  first | refine G.sa0 sz_34_F24 ?_ | refine G.sg0 sz_34_F24 ?_
  refine G.as ?_
  refine G.nil ?_
  refine EN.sub (sC 1 (sC 2 (sC 3 (sC 5 (sC 6 (sC 8 Sub.nil)))))) ?_
  refine EN.tsr ?_
  refine G.mv ?_
  refine G.call (xs := [_, _]) rfl rfl (pread_spec p 11 oM) bd_9_F24 rfl rfl rfl rfl tK (fun _ _ _ _ _ _ => trivial) ?_
  rintro _ _ ⟨rfl, rfl⟩
  rw [read_low p 11 oM]
  simp only [Pk.Ent.zero, Pk.Ent.cells]
  try dsimp only [List.cons_append, List.nil_append]
  refine G.mv ?_
  refine G.q rfl rfl rfl rfl (q_extract rfl rfl rfl) ?_
  refine G.q rfl rfl rfl rfl (q_extract rfl rfl rfl) ?_
  refine G.e rfl rfl rfl rfl (e_alloc rfl zl_34_F24) (fun _ _ _ _ _ _ => trivial) ?_
  rintro _ _ ⟨b9, rfl, rfl⟩
  first | refine G.sa0 sz_34_F24 ?_ | refine G.sg0 sz_34_F24 ?_
  refine G.as ?_
  refine G.nil ?_
  refine EN.tsr ?_
  refine G.call (xs := []) rfl rfl (awake_spec) bd_8_F24 rfl rfl rfl rfl tK (fun _ _ _ _ _ _ => trivial) ?_
  rintro _ _ ⟨rfl, rfl⟩
  try dsimp only [List.cons_append, List.nil_append]
  refine G.mv ?_
  refine G.mv ?_
  refine G.q rfl rfl rfl rfl (q_eql rfl rfl rfl) ?_
  refine G.q rfl rfl rfl rfl (q_pick_t rfl rfl rfl) ?_
  refine G.mv ?_
  refine G.split (t := 66) rfl (fun g66 => ?_) (fun g66 => absurd (rfl) g66)
  first | refine G.q rfl rfl rfl rfl (q_field0 rfl rfl fo_34_2_F24) ?_ | refine G.q rfl rfl rfl rfl (q_field rfl rfl fo_34_2_F24) ?_
  refine G.ld ag_3_F24 ?_
  first | refine G.q rfl rfl rfl rfl (q_field0 rfl rfl fo_23_0_F24) ?_ | refine G.q rfl rfl rfl rfl (q_field rfl rfl fo_23_0_F24) ?_
  refine G.ld ag_3_F24 ?_
  refine G.q rfl rfl rfl rfl (q_eql rfl rfl rfl) ?_
  refine G.q rfl rfl rfl rfl (q_pick_t rfl rfl rfl) ?_
  refine G.mv ?_
  refine G.split (t := 73) rfl (fun g73 => ?_) (fun g73 => absurd (rfl) g73)
  first | refine G.q rfl rfl rfl rfl (q_field0 rfl rfl fo_34_3_F24) ?_ | refine G.q rfl rfl rfl rfl (q_field rfl rfl fo_34_3_F24) ?_
  refine G.ld ag_9_F24 ?_
  first | refine G.q rfl rfl rfl rfl (q_field0 rfl rfl fo_23_1_F24) ?_ | refine G.q rfl rfl rfl rfl (q_field rfl rfl fo_23_1_F24) ?_
  refine G.ld ag_9_F24 ?_
  refine G.q rfl rfl rfl rfl (q_eql_s rfl rfl rfl) ?_
  refine G.q rfl rfl rfl rfl (q_pick_t rfl rfl rfl) ?_
  refine G.mv ?_
  refine G.split (t := 80) rfl (fun g80 => ?_) (fun g80 => absurd (rfl) g80)
  first | refine G.q rfl rfl rfl rfl (q_field0 rfl rfl fo_34_4_F24) ?_ | refine G.q rfl rfl rfl rfl (q_field rfl rfl fo_34_4_F24) ?_
  refine G.ld ag_3_F24 ?_
  refine G.q rfl rfl rfl rfl (q_eql rfl rfl rfl) ?_
  refine G.q rfl rfl rfl rfl (q_pick_t rfl rfl rfl) ?_
  refine G.mv ?_
  refine G.split (t := 85) rfl (fun g85 => ?_) (fun g85 => absurd (rfl) g85)
  first | refine G.q rfl rfl rfl rfl (q_field0 rfl rfl fo_34_5_F24) ?_ | refine G.q rfl rfl rfl rfl (q_field rfl rfl fo_34_5_F24) ?_
  refine G.ld ag_9_F24 ?_
  refine G.q rfl rfl rfl rfl (q_eql_s rfl rfl rfl) ?_
  refine G.q rfl rfl rfl rfl (q_pick_t rfl rfl rfl) ?_
  refine G.mv ?_
  refine G.split (t := 90) rfl (fun g90 => ?_) (fun g90 => absurd (rfl) g90)
  first | refine G.q rfl rfl rfl rfl (q_field0 rfl rfl fo_34_1_F24) ?_ | refine G.q rfl rfl rfl rfl (q_field rfl rfl fo_34_1_F24) ?_
  refine G.ld ag_3_F24 ?_
  refine G.mv ?_
  refine G.q rfl rfl rfl rfl (q_len_str rfl rfl us_9_F24) ?_
  first | refine G.q rfl rfl rfl rfl (q_sub_i rfl rfl rfl oM) ?_ | refine G.q rfl rfl rfl rfl (q_sub rfl rfl rfl) ?_
  refine G.q rfl rfl rfl rfl (q_eql rfl rfl rfl) ?_
  refine G.q rfl rfl rfl rfl (q_pick_t rfl rfl rfl) ?_
  refine G.mv ?_
  refine G.split (t := 98) rfl (fun g98 => ?_) (fun g98 => absurd oM g98)
  refine G.mv ?_
  refine G.q rfl rfl rfl rfl (q_eql rfl rfl rfl) ?_
  refine G.q rfl rfl rfl rfl (q_pick_t rfl rfl rfl) ?_
  refine G.mv ?_
  refine G.split (t := 102) rfl (fun g102 => ?_) (fun g102 => absurd (rfl) g102)
  refine G.mv ?_
  refine G.q rfl rfl rfl rfl (q_eql rfl rfl rfl) ?_
  refine G.q rfl rfl rfl rfl (q_pick_t rfl rfl rfl) ?_
  refine G.as ?_
  refine G.nil ?_
  refine EN.sub (sC 2 Sub.nil) ?_
  refine EN.then ?_
  refine CG.ret ?_
  exact fin_ret1 rfl rfl tK sF (⟨by simp, rfl⟩) _ (.inl rfl)

end Go.Eng
/-
  Plain: what Build wrote is read (no program in sight).
-/
set_option linter.unusedVariables false
set_option linter.unusedSimpArgs false
namespace Go.Eng
open Go.Proofs


theorem drop_app {α : Type} {pre x : List α} {k : Nat} (h : k = pre.length) : (pre ++ x).drop k = x := by rw [h, List.drop_left]
theorem get_app {α : Type} {pre x : List α} {k j : Nat} (h : k = pre.length + j) : (pre ++ x)[k]? = x[j]? := by rw [h, List.getElem?_append_right (by omega), Nat.add_sub_cancel_left]
theorem fromBig_big {x : Int} (h0 : 0 ≤ x) (h : x < 4294967296) : Sums.fromBig (Sums.big x 4) = x := by
  obtain ⟨n, rfl⟩ := Int.eq_ofNat_of_zero_le h0
  have e : Sums.big (n : Int) 4 = [u8i ((n / 16777216 : Nat) : Int), u8i ((n / 65536 : Nat) : Int), u8i ((n / 256 : Nat) : Int), u8i (n : Int)] := by
    simp [Sums.big, List.range_succ]
  rw [e]
  simp only [Sums.fromBig, List.foldl]
  rw [Defl.u8i_mod, Defl.u8i_mod, Defl.u8i_mod, Defl.u8i_mod]
  omega
theorem zhead_1 : zhead 120 1 = true := by decide +kernel
/-- a frame is read as its text -/
theorem zread_zw (t pre post : List UInt8) (most : Nat) (hm : t.length ≤ most) (h16 : t.length ≤ 65535) (hl : (pre ++ (zw t ++ post)).length ≤ 140737488351232) : zread (pre ++ (zw t ++ post)) pre.length most = (t, (zw t).length, 0) := by
  obtain ⟨S, hS⟩ : ∃ S, pre ++ (zw t ++ post) = S := ⟨_, rfl⟩
  obtain ⟨B, hB⟩ : ∃ B, Sums.big (Sums.adler t) 4 = B := ⟨_, rfl⟩
  have hBl : B.length = 4 := by rw [← hB]; simp [Sums.big]
  have hz : zw t = [120, 1] ++ (Defl.deflate t ++ B) := by rw [← hB]; unfold zw; rw [List.append_assoc]
  have e2 : S = (pre ++ [120, 1]) ++ (Defl.deflate t ++ (B ++ post)) := by rw [← hS, hz]; simp only [List.append_assoc]
  have e3 : S = (pre ++ [120, 1] ++ Defl.deflate t) ++ (B ++ post) := by rw [e2]; simp only [List.append_assoc]
  have hSl : S.length = pre.length + 2 + (Defl.deflate t).length + 4 + post.length := by rw [e3]; simp only [List.length_append, List.length_cons, List.length_nil, hBl]; omega
  have hzl : (zw t).length = (Defl.deflate t).length + 6 := by rw [hz]; simp only [List.length_append, List.length_cons, List.length_nil, hBl]; omega
  have g0 : S.getD pre.length 0 = 120 := by rw [List.getD_eq_getElem?_getD, e2, List.append_assoc, get_app (j := 0) (by omega)]; rfl
  have g1 : S.getD (pre.length + 1) 0 = 1 := by rw [List.getD_eq_getElem?_getD, e2, List.append_assoc, get_app (j := 1) (by omega)]; rfl
  have hi := Defl.deflate_infl t (pre ++ [120, 1]) (B ++ post) most hm h16 (by rw [← e2, ← hS]; exact hl)
  rw [← e2, List.length_append, show ([120, 1] : List UInt8).length = 2 from rfl] at hi
  have hb : (S.take (pre.length + 2 + (Defl.deflate t).length + 4)).drop (pre.length + 2 + (Defl.deflate t).length) = B := by
    rw [List.drop_take, e3, drop_app (by simp; omega), show pre.length + 2 + (Defl.deflate t).length + 4 - (pre.length + 2 + (Defl.deflate t).length) = B.length by omega, List.take_left]
  have hlt := Sums.adler_lt t
  have hfb : Sums.fromBig B = Sums.adler t := by rw [← hB]; exact fromBig_big hlt.1 hlt.2
  rw [hS]
  unfold zread
  rw [if_neg (by omega), g0, g1, if_neg (by rw [zhead_1]; decide), hi]
  dsimp only
  rw [if_neg (by simp), if_neg (by omega), hb, hfb, if_neg (by simp), hzl]
theorem u8_nat {n : Nat} (h : n < 256) : (UInt8.ofNat n).toNat = n := by simp; omega
/-- what stands behind a byte of a number -/
def moreL (m : Nat) : List UInt8 := if m = 0 then [] else headGo (m % 128) (m / 128)
theorem headGo_eq (c m : Nat) : headGo c m = UInt8.ofNat (if m = 0 then c else c + 128) :: moreL m := by
  rw [headGo]
  by_cases h : m = 0
  · rw [dif_pos h, if_pos h]; unfold moreL; rw [if_pos h]
  · rw [dif_neg h, if_neg h]; unfold moreL; rw [if_neg h]
theorem headGo_read (s : List UInt8) (m : Nat) : ∀ (f c acc sh a : Nat) (post : List UInt8), c < 128 → s.drop a = moreL m ++ post → m * 2 ^ sh < 2 ^ 25 → (moreL m).length < f → Pk.headGo s f (if m = 0 then c else c + 128) acc sh a = .ok (acc + m * 2 ^ sh, a + (moreL m).length) := by
  induction m using Nat.strongRecOn with
  | _ m ih =>
    intro f c acc sh a post hc hd hm hf
    obtain ⟨f, rfl⟩ : ∃ k, f = k + 1 := ⟨f - 1, by omega⟩
    unfold Pk.headGo
    by_cases h : m = 0
    · subst h
      rw [if_pos rfl, if_pos hc]; simp [moreL]
    · have hmore : moreL m = UInt8.ofNat (if m / 128 = 0 then m % 128 else m % 128 + 128) :: moreL (m / 128) := by
        conv => lhs; unfold moreL
        rw [if_neg h, headGo_eq]
      rw [if_neg h, if_neg (by omega)]
      rw [hmore] at hd hf ⊢
      have hg : s[a]? = some (UInt8.ofNat (if m / 128 = 0 then m % 128 else m % 128 + 128)) := by
        have := congrArg (fun l => l[0]?) hd
        simpa using this
      have hd2 : s.drop (a + 1) = moreL (m / 128) ++ post := by rw [← List.drop_drop, hd]; rfl
      have hsh : ¬ 25 < sh := fun h2 => by
        have h3 : 2 ^ 25 ≤ 2 ^ sh := Nat.pow_le_pow_right (by omega) (by omega)
        have h4 : 1 * 2 ^ sh ≤ m * 2 ^ sh := Nat.mul_le_mul_right _ (by omega)
        omega
      have hp : 2 ^ (sh + 7) = 128 * 2 ^ sh := by rw [Nat.pow_add, Nat.mul_comm]
      have hm2 : m / 128 * 2 ^ (sh + 7) + m % 128 * 2 ^ sh = m * 2 ^ sh := by
        rw [hp, ← Nat.mul_assoc, ← Nat.add_mul, show m / 128 * 128 + m % 128 = m by omega]
      have hb : (UInt8.ofNat (if m / 128 = 0 then m % 128 else m % 128 + 128)).toNat = if m / 128 = 0 then m % 128 else m % 128 + 128 := u8_nat (by split <;> omega)
      rw [hg]
      dsimp only
      rw [if_neg hsh, hb]
      have := ih (m / 128) (by omega) f (m % 128) (acc + (if m / 128 = 0 then m % 128 else m % 128 + 128) % 128 * 2 ^ sh) (sh + 7) (a + 1) post (by omega) hd2 (by omega) (by simpa using hf)
      rw [this]
      have h7 : (if m / 128 = 0 then m % 128 else m % 128 + 128) % 128 = m % 128 := by split <;> omega
      rw [h7, List.length_cons, Nat.add_assoc, Nat.add_comm (m % 128 * 2 ^ sh), hm2, Nat.add_assoc, Nat.add_comm 1]
/-- kind and size are read as they were written -/
theorem head_read {k n : Nat} (hk : k ≤ 7) (hn : n ≤ 1000000) (pre post : List UInt8) : Pk.head (pre ++ (headL k n ++ post)) pre.length = .ok (k, n, pre.length + (headL k n).length) := by
  obtain ⟨S, hS⟩ : ∃ S, pre ++ (headL k n ++ post) = S := ⟨_, rfl⟩
  have hL : headL k n = UInt8.ofNat (if n / 16 = 0 then k * 16 + n % 16 else k * 16 + n % 16 + 128) :: moreL (n / 16) := by
    unfold headL; rw [headGo_eq]
  have hb : (UInt8.ofNat (if n / 16 = 0 then k * 16 + n % 16 else k * 16 + n % 16 + 128)).toNat = if n / 16 = 0 then k * 16 + n % 16 else k * 16 + n % 16 + 128 := u8_nat (by split <;> omega)
  have hg : S[pre.length]? = some (UInt8.ofNat (if n / 16 = 0 then k * 16 + n % 16 else k * 16 + n % 16 + 128)) := by rw [← hS, get_app (j := 0) (by omega), hL]; rfl
  have hd : S.drop (pre.length + 1) = moreL (n / 16) ++ post := by rw [← hS, ← List.drop_drop, List.drop_left, hL]; rfl
  have hll : (moreL (n / 16)).length < S.length + 1 := by
    have := congrArg List.length hd
    rw [List.length_drop, List.length_append] at this; omega
  have := headGo_read S (n / 16) (S.length + 1) (k * 16 + n % 16) ((if n / 16 = 0 then k * 16 + n % 16 else k * 16 + n % 16 + 128) % 16) 4 (pre.length + 1) post (by omega) hd (by omega) hll
  rw [hS]
  unfold Pk.head
  rw [hg]
  dsimp only
  rw [hb, this]
  dsimp only
  have h16 : (if n / 16 = 0 then k * 16 + n % 16 else k * 16 + n % 16 + 128) % 16 = n % 16 := by split <;> omega
  have hk8 : (if n / 16 = 0 then k * 16 + n % 16 else k * 16 + n % 16 + 128) / 16 % 8 = k := by split <;> omega
  rw [h16, hk8, hL, List.length_cons]
  rw [show n % 16 + n / 16 * 2 ^ 4 = n by omega, show pre.length + 1 + (moreL (n / 16)).length = pre.length + ((moreL (n / 16)).length + 1) by omega]
/-- an entry that stands for itself -/
theorem read_whole {k : Nat} {d pre post s : List UInt8} (hk : 1 ≤ k ∧ k ≤ 4) (hd : d.length ≤ 65000) (h12 : 12 ≤ pre.length) (hs : s = pre ++ (headL k d.length ++ (zw d ++ post))) (hl : s.length ≤ 1000000000) :
    readE (s ++ Sha.sum1 s) (pre.length : Nat) = (⟨pre.length, (pre.length + (headL k d.length).length + (zw d).length : Nat), k, d, 0, [], crc32 ((s.take (pre.length + (headL k d.length).length + (zw d).length)).drop pre.length)⟩, 0) := by
  have hsum := sum1_len s
  have hbody : (s ++ Sha.sum1 s).take ((s ++ Sha.sum1 s).length - 20) = s := by rw [List.length_append, hsum, Nat.add_sub_cancel, List.take_append_of_le_length (Nat.le_refl _), List.take_length]
  have hpl : pre.length ≤ s.length := by rw [hs]; simp
  rw [readE_in (by omega) (by rw [List.length_append, hsum]; omega), hbody]
  have hh : Pk.head s pre.length = .ok (k, d.length, pre.length + (headL k d.length).length) := by rw [hs]; exact head_read (by omega) (by omega) pre (zw d ++ post)
  rw [hh]
  unfold readH
  dsimp only
  have hr : Pk.refs s pre.length k (pre.length + (headL k d.length).length) = .ok (0, [], pre.length + (headL k d.length).length) := if_pos (by omega)
  rw [hr]
  unfold readR
  dsimp only
  rw [if_neg (by omega)]
  have e2 : s = (pre ++ headL k d.length) ++ (zw d ++ post) := by rw [hs, List.append_assoc]
  have hz := zread_zw d (pre ++ headL k d.length) post d.length (Nat.le_refl _) (by omega) (by rw [← e2]; omega)
  rw [← e2, List.length_append] at hz
  rw [hz]
  have ze : zerr d.length (d, (zw d).length, 0) = 0 := by unfold zerr; simp
  unfold readZ
  rw [if_neg (by rw [ze]; simp)]
  rfl
theorem oneLaw : OneLaw := by
  intro k d hk1 hk4 hd s hs
  have h1 : (headO 1).length = 12 := by simp [headO, Sums.big]
  have h2 := headL_len (k := k) (n := d.length) (by omega)
  have h3 := zw_len d (by omega)
  have e : s = headO 1 ++ (headL k d.length ++ (zw d ++ [])) := by rw [hs]; simp
  have hl : s.length = 12 + ((headL k d.length).length + (zw d).length) := by rw [hs]; simp only [List.length_append, h1]
  have := read_whole ⟨hk1, hk4⟩ (by omega) (by omega) e (by omega)
  rw [h1] at this
  exact ⟨_, by rw [show (12 : Int) = ((12 : Nat) : Int) from rfl, this, hl, Nat.add_assoc]⟩

end Go.Eng
/-
  A caller's slice, read only; several blocks kept. Speaks of no program.
-/
set_option linter.unusedVariables false
set_option linter.unusedSimpArgs false
namespace Go.Eng
/-- n elements of sz cells of a caller's slice, in the block o -/
def rowR (ad : Option Addr) (n sz : Nat) (xs : List Value) (o : Obj) : HP := fun h =>
  xs.length = n * sz ∧ (n = 0 ∨ ∃ g off cur T z, ad = some ⟨g, off, none⟩ ∧ o = .cells cur T z ∧ h g = some o ∧ (cur.toList.drop off).take (n * sz) = xs)
section
variable {P : Program} {w0 : World} {N : Nat} {Q : Exit → Act → World → Prop} {D : List Deferred} {L : List (Nat × Value)} {H H1 : List HP} {o : Oper}
theorem rowR_cell {g off n sz i : Nat} {xs : List Value} {ob : Obj} {v : Value} {S : Nat → Prop} {w : World} (hh : rowR (some ⟨g, off, none⟩) n sz xs ob (res S w)) (hi : nth xs i = some v) : w.cell? ⟨g, off + i, none⟩ = some v := by
  obtain ⟨hl, e0 | ⟨g', off', cur, T, z, e, rfl, hg, h8⟩⟩ := hh
  · subst e0
    rw [nth_eq] at hi
    have := (List.getElem?_eq_some_iff.1 hi).1
    omega
  · cases e
    have hg := (res_pt hg).2
    rw [nth_eq, ← h8, List.getElem?_take] at hi
    split at hi
    · rw [List.getElem?_drop, Array.getElem?_toList] at hi
      simp [World.cell?, hg, hi]
    · cases hi
/-- an element (or a part of it) of a caller's slice -/
theorem r_loadRA {x : Operand} {T sz n g off i k : Nat} {xs cs : List Value} {ob : Obj} (ho : o.op = .load T x) (hx : ev L x = some (.pointer (some ⟨g, off + i, none⟩))) (hT : aggB P T = some true) (hz : sizeB P T = some k) (hm : Mem (rowR (some ⟨g, off, none⟩) n sz xs ob) H) (hl : cs.length = k) (hv : ∀ (j : Nat) (v : Value), cs[j]? = some v → nth xs (i + j) = some v) : ROp P L H o (.agg cs.toArray) := by
  intro N D a w w0 hf hw
  obtain ⟨S, hh⟩ := hw.get hm
  have hrun : (loadCells ⟨g, off + i, none⟩ k).run P w = .ok cs.toArray w := by
    have := run_loadCells_list (P := P) w ⟨g, off + i, none⟩ cs (fun j v hj => by
      rw [Addr.add_lit, Nat.add_assoc]; exact rowR_cell hh (hv j v hj))
    rw [hl] at this; exact this
  unfold execOp; rw [ho]
  simp [hf.ev hx, Instr.loadAt, Instr.sureAddr, loadVar, run_isAgg hT, run_sizeOf hz, hrun]
theorem CG.someR {c : Code} {sz n : Nat} {ad : Option Addr} {xs : List Value} {ob : Obj} (ht : Take H (rowR ad n sz xs ob) H1) (hn : 0 < n) (k : ∀ g off, ad = some ⟨g, off, none⟩ → CG P w0 N c Q D L H) : CG P w0 N c Q D L H := by
  refine CG.fact (α := ∃ g off, ad = some ⟨g, off, none⟩) ht (fun h hh => ?_) (fun ⟨g, off, e⟩ => k g off e)
  obtain ⟨_, h0 | ⟨g, off, _, _, _, e, _⟩⟩ := hh
  · omega
  · exact ⟨g, off, e⟩
end
section
variable {P : Program} {f : FuncId} {args : Array Value} {v : Value}
/-- a contract's call leaves all that stood as it stood: one block and one caller's slice -/
theorem Spec.kept2 {g : Nat} {l : List Value} {tz : TypeId × Nat × Nat} {ad : Option Addr} {n sz : Nat} {xs : List Value} {ob : Obj} {W : World} (h : Spec P f args [tabH g l tz, rowR ad n sz xs ob] (Ret fun u hl => u = v ∧ hl = [tabH g l tz, rowR ad n sz xs ob])) (hg : W.heap[g]? = some (.cells l.toArray tz.1 tz.2))
    (hx : xs.length = n * sz) (hr : n = 0 ∨ ∃ g' off cur T z, ad = some ⟨g', off, none⟩ ∧ ob = .cells cur T z ∧ W.heap[g']? = some ob ∧ (cur.toList.drop off).take (n * sz) = xs ∧ g' ≠ g) :
    Calls P f args W fun e w' => e = .returned v ∧ w'.os = W.os ∧ w'.output = W.output ∧ w'.tape = W.tape ∧ ∀ i, i < W.heap.size → w'.heap[i]? = W.heap[i]? := by
  obtain ⟨b, hb⟩ : ∃ b : Option Nat, b = if n = 0 then none else ad.map (·.block) := ⟨_, rfl⟩
  refine (h [fun h => ∀ k, k < W.heap.size → k ≠ g → some k ≠ b → h k = W.heap[k]?] W W ⟨⟨fun k => if k = g then 0 else if some k = b then 1 else 2, fun i p hp => ?_⟩, rfl, rfl, rfl⟩).mono ?_
  · rcases i with _ | _ | _ | i
    · cases hp
      show (if (if g = g then 0 else if some g = b then 1 else 2) = 0 then W.heap[g]? else none) = _
      simp [hg]
    · cases hp
      refine ⟨hx, ?_⟩
      rcases hr with h0 | ⟨g', off, cur, T, z, had, hob, hg', ht, hne⟩
      · exact .inl h0
      · by_cases hn : n = 0
        · exact .inl hn
        · refine .inr ⟨g', off, cur, T, z, had, hob, ?_, ht⟩
          have hb' : b = some g' := by rw [hb, if_neg hn, had]; rfl
          show (if (if g' = g then 0 else if some g' = b then 1 else 2) = 0 + 1 then W.heap[g']? else none) = _
          simp [hne, hb', hg']
    · cases hp
      intro k hk h1 h2
      show (if (if k = g then 0 else if some k = b then 1 else 2) = 0 + 1 + 1 then W.heap[k]? else none) = _
      simp [h1, h2]
    · simp at hp
  · intro e w' he
    obtain ⟨hl, h1, h2⟩ := he
    cases e with
    | returned u =>
      obtain ⟨rfl, rfl⟩ := h1
      refine ⟨rfl, h2.os, h2.output, h2.tape, fun i hi => ?_⟩
      by_cases hig : i = g
      · subst hig
        obtain ⟨S, h3⟩ := h2.get (.here)
        rw [hg]; exact (res_pt h3).2
      · by_cases hib : some i = b
        · have hn : n ≠ 0 := fun h0 => by rw [hb, if_pos h0] at hib; cases hib
          rcases hr with h0 | ⟨g', off, cur, T, z, had, hob, hg', ht, hne⟩
          · exact absurd h0 hn
          · rw [hb, if_neg hn, had] at hib
            obtain rfl : i = g' := by simpa using hib
            obtain ⟨S, _, h0 | ⟨g2, off2, cur2, T2, z2, had2, hob2, h3, _⟩⟩ := h2.get (.there .here)
            · exact absurd h0 hn
            · rw [had] at had2; cases had2
              rw [hg']; exact (res_pt h3).2
        · obtain ⟨S, h3⟩ := h2.get (.there (.there .here))
          have h4 := h3 i hi hig hib
          obtain ⟨o, ho⟩ : ∃ o, W.heap[i]? = some o := ⟨_, Array.getElem?_eq_getElem hi⟩
          rw [ho] at h4 ⊢; exact (res_pt h4).2
    | _ => exact h1.elim
end
end Go.Eng
/-
  Laws of packs: Short.
-/
set_option linter.unusedVariables false
set_option linter.unusedSimpArgs false
namespace Go.Eng
open Go.Proofs
theorem ag_29_F26 : aggB Tryd.prog 29 = some true := by kernel_rfl
theorem ag_9_F26 : aggB Tryd.prog 9 = some false := by kernel_rfl
theorem bd_6_F26 : bodied Tryd.prog 6 = true := by kernel_rfl
theorem bs_30_0_all_F26 : ∀ (w : World), (Instr.buildSlice 30 0 [].toArray).run Tryd.prog w = .ok (.slice (some ⟨w.heap.size, 0, none⟩) 0 0) { w with heap := w.heap.push (.cells [].toArray 29) } := fun _ => by kernel_rfl
theorem bs_30_1_all_F26 : ∀ (x0_0_0 : Int) (x0_0_1 : List UInt8) (x0_1 : Bool) (x0_2 : Int) (x0_3 : Bool) (w : World), (Instr.buildSlice 30 1 [(0, .agg [.int .i64 x0_0_0, str x0_0_1, .bool x0_1, .int .i64 x0_2, .bool x0_3].toArray)].toArray).run Tryd.prog w = .ok (.slice (some ⟨w.heap.size, 0, none⟩) 1 1) { w with heap := w.heap.push (.cells [.int .i64 x0_0_0, str x0_0_1, .bool x0_1, .int .i64 x0_2, .bool x0_3].toArray 29) } := fun _ _ _ _ _ _ => by kernel_rfl
theorem fo_23_1_F26 : fieldOff Tryd.prog 23 1 = some 1 := by kernel_rfl
theorem fo_29_0_F26 : fieldOff Tryd.prog 29 0 = some 0 := by kernel_rfl
theorem nf_29_F26 : infoB Tryd.prog 29 = some (some [.int .i64 0, str [], .bool false, .int .i64 0, .bool false], 5, 48) := by kernel_rfl
theorem se_30_F26 : sliceE Tryd.prog 30 = some 29 := by kernel_rfl
theorem sz_29_F26 : sizeB Tryd.prog 29 = some 5 := by kernel_rfl
theorem sz_9_F26 : sizeB Tryd.prog 9 = some 1 := by kernel_rfl
theorem zl_29_F26 : zeroL Tryd.prog 29 = some [.int .i64 0, str [], .bool false, .int .i64 0, .bool false] := by kernel_rfl

def few (x : Itm) : Itm := ⟨x.kind, x.data.take 400, x.delta, x.base, x.byName⟩
def shortL (items : List Itm) (m : Nat) : List Itm := (items.take m).map few
theorem few_cells (x : Itm) : [.int .i64 x.kind, str (x.data.take 400), .bool x.delta, .int .i64 x.base, .bool x.byName] = (few x).cells := rfl
theorem short_snoc {items : List Itm} {k : Nat} {x : Itm} (h : items[k]? = some x) : shortL items (k + 1) = shortL items k ++ [few x] := by
  unfold shortL; rw [take_snoc h, List.map_append]; rfl
theorem short_len (items : List Itm) (m : Nat) : (shortL items m).length = min m items.length := by simp [shortL]
theorem short_end {items : List Itm} {k m : Nat} (hk : k ≤ m) (hl : k ≤ items.length) (h : ¬ (k < items.length ∧ k < m)) : shortL items k = shortL items m := by
  unfold shortL
  rcases Nat.lt_or_ge k m with h1 | h1
  · have : items.length ≤ k := by omega
    rw [List.take_of_length_le this, List.take_of_length_le (by omega)]
  · rw [show k = m by omega]

attribute [local irreducible] cel own exS ownG tabH TabI rowR shortL

set_option maxRecDepth 100000 in
set_option maxHeartbeats 1000000 in
theorem short_spec (items : List Itm) (m : Nat) (ad : Option Addr) (c0 : Nat) (ob : Obj) (hm : m ≤ 1000) : Spec Tryd.prog 10 #[.slice ad items.length c0, .int .i64 m] [rowR ad items.length 5 (items.flatMap Itm.cells) ob] (Ret fun v hl => hl = [rowR ad items.length 5 (items.flatMap Itm.cells) ob, own 29 5 v (shortL items m).length ((shortL items m).flatMap Itm.cells)]) := by
 have h00 : shortL items 0 = [] := by unfold shortL; rfl
 have e00 : ∀ b8, own 29 5 (.slice (some ⟨b8, 0, none⟩) 0 0) 0 [] = own 29 5 (.slice (some ⟨b8, 0, none⟩) 0 0) (shortL items 0).length ((shortL items 0).flatMap Itm.cells) := fun b8 => by rw [h00]; rfl
 have hsl : ∀ k, k ≤ m → k ≤ items.length → (shortL items k).length = k := fun k h1 h2 => by rw [short_len]; omega
 refine Spec.enter Tryd.func10 rfl rfl rfl (fun F w0 => ?_)
 dsimp only [argL, List.cons_append, List.nil_append]
 refine CG.sr ?_
 refine G.as ?_
 refine G.nil ?_
 refine EN.tsr ?_
 refine G.e rfl rfl rfl rfl (e_bslice rfl rfl (bs_30_0_all_F26)) (fun _ _ _ _ _ _ => trivial) ?_
 rintro _ _ ⟨b8, rfl, rfl⟩
 refine G.as ?_
 refine G.nil ?_
 refine EN.ts ?_
 refine CG.sr ?_
 refine G.as ?_
 refine G.nil ?_
 refine EN.then ?_
 refine CG.block ?_
 refine CG.closeOwn (g := b8) (sz := 5) (n := 0) (cap := 0) (xs := []) tK1 (by decide) (by decide) rfl rfl ?_
 rw [e00 b8]
 refine CG.loopI (fun n L H => ∃ (k : Nat) (v : Value), k ≤ m ∧ k ≤ items.length ∧ n = m - k ∧ L = [(0, .slice ad items.length c0), (1, .int .i64 m), (5, v), (6, .int .i64 k)] ∧ H = [rowR ad items.length 5 (items.flatMap Itm.cells) ob, own 29 5 v (shortL items k).length ((shortL items k).flatMap Itm.cells)] ++ F) (m - 0) (hl := [_, _]) (⟨0, _, Nat.zero_le _, Nat.zero_le _, rfl, rfl, rfl⟩) sB rfl tK sF ?_
 rintro n L H ⟨k, v, hkm, hkl, rfl, rfl, rfl⟩
 have hk0 := hsl k hkm hkl
 try dsimp only [List.cons_append, List.nil_append]
 refine CG.seq ?_
 refine CG.sr ?_
 refine G.mv ?_
 refine G.mv ?_
 refine G.q rfl rfl rfl rfl (q_len_sl rfl rfl se_30_F26) ?_
 refine G.q rfl rfl rfl rfl (q_lss rfl rfl rfl) ?_
 refine G.mv ?_
 refine G.split (t := 13) rfl (fun g13 => ?_) (fun g13 => ?_)
 ·
  refine G.mv ?_
  refine G.mv ?_
  refine G.q rfl rfl rfl rfl (q_lss rfl rfl rfl) ?_
  refine G.q rfl rfl rfl rfl (q_pick_t rfl rfl rfl) ?_
  refine G.nil ?_
  refine EN.then ?_
  refine CG.cond rfl (fun h17 => ?_) (fun h17 => ?_)
  ·
   refine CG.someR tK1 oM (fun g off had => ?_)
   subst had
   obtain ⟨x, hx⟩ := get_some (l := items) (k := k) oM
   refine CG.skip ?_
   refine EN.ts ?_
   refine CG.block ?_
   refine CG.sr ?_
   refine G.mv ?_
   refine G.mv ?_
   refine G.q rfl rfl rfl rfl (q_ixaddr rfl rfl rfl se_30_F26 sz_29_F26 oM) ?_
   refine G.r rfl rfl rfl rfl (r_loadRA rfl rfl ag_29_F26 sz_29_F26 mB rfl (flat_whole (f := Itm.cells) itm_len hx)) ?_
   rw [itm_cells]
   refine G.e rfl rfl rfl rfl (e_alloc rfl zl_29_F26) (fun _ _ _ _ _ _ => trivial) ?_
   rintro _ _ ⟨b7, rfl, rfl⟩
   first | refine G.sa0 sz_29_F26 ?_ | refine G.sg0 sz_29_F26 ?_
   refine G.nil ?_
   refine EN.sub (sC 0 (sC 1 (sC 5 (sC 6 (sC 7 Sub.nil))))) ?_
   refine EN.tsr ?_
   first | refine G.q rfl rfl rfl rfl (q_field0 rfl rfl fo_29_0_F26) ?_ | refine G.q rfl rfl rfl rfl (q_field rfl rfl fo_29_0_F26) ?_
   first | refine G.q rfl rfl rfl rfl (q_field0 rfl rfl fo_23_1_F26) ?_ | refine G.q rfl rfl rfl rfl (q_field rfl rfl fo_23_1_F26) ?_
   refine G.ld ag_9_F26 ?_
   refine G.call (xs := [_, _]) rfl rfl (few_spec x.data 400) bd_6_F26 rfl rfl rfl rfl tK (fun _ _ _ _ _ _ => trivial) ?_
   rintro _ _ ⟨rfl, rfl⟩
   try dsimp only [List.cons_append, List.nil_append]
   first | refine G.q rfl rfl rfl rfl (q_field0 rfl rfl fo_29_0_F26) ?_ | refine G.q rfl rfl rfl rfl (q_field rfl rfl fo_29_0_F26) ?_
   first | refine G.q rfl rfl rfl rfl (q_field0 rfl rfl fo_23_1_F26) ?_ | refine G.q rfl rfl rfl rfl (q_field rfl rfl fo_23_1_F26) ?_
   refine G.st0 sz_9_F26 ?_
   refine G.nil ?_
   refine EN.tr ?_
   refine G.mv ?_
   first | refine G.ldA ag_29_F26 sz_29_F26 ?_ | refine G.ldP ag_29_F26 sz_29_F26 ?_
   refine G.e rfl rfl rfl rfl (e_bslice rfl rfl (bs_30_1_all_F26 _ _ _ _ _)) (fun _ _ _ _ _ _ => trivial) ?_
   rintro _ _ ⟨b32, rfl, rfl⟩
   refine G.e rfl rfl rfl rfl (e_append rfl rfl rfl se_30_F26 nf_29_F26 rfl tK1 mB (by rfl) (by simp [Value.oneCell', str]) oM) (fun _ _ _ _ _ _ => trivial) ?_
   rintro _ _ rfl
   rw [few_cells, own_flat, ← short_snoc hx]
   refine G.as ?_
   refine G.nil ?_
   refine EN.sub (sC 0 (sC 1 (sC 5 (sC 6 Sub.nil)))) ?_
   refine EN.in_normal ?_
   refine EN.tr ?_
   refine G.mv ?_
   first | refine G.q rfl rfl rfl rfl (q_add_i rfl rfl rfl oM) ?_ | refine G.q rfl rfl rfl rfl (q_add rfl rfl rfl) ?_
   refine G.as ?_
   refine G.nil ?_
   exact EN.round (hl := [_, _]) (m - (k + 1)) oM (⟨k + 1, _, by omega, by omega, rfl, rfl, rfl⟩) sB rfl tK sF
  ·
   have he : shortL items k = shortL items m := short_end hkm hkl oM
   refine CG.exit ?_
   refine EN.then_exit ?_
   refine EN.then_exit ?_
   refine EN.in_here ?_
   refine EN.tsr ?_
   refine G.mv ?_
   refine G.as ?_
   refine G.nil ?_
   refine EN.sub (sC 4 Sub.nil) ?_
   refine EN.then ?_
   refine CG.ret ?_
   first | rw [he] | skip
   exact fin_ret1 rfl rfl tK sF (rfl) _ (.inl rfl)
 ·
  have he : shortL items k = shortL items m := short_end hkm hkl oM
  refine G.skip rfl rfl rfl ?_
  refine G.skip rfl rfl rfl ?_
  refine G.skip rfl rfl rfl ?_
  refine G.q rfl rfl rfl rfl (q_pick_f rfl rfl rfl) ?_
  refine G.nil ?_
  refine EN.then ?_
  refine CG.cond_f rfl ?_
  refine CG.exit ?_
  refine EN.then_exit ?_
  refine EN.then_exit ?_
  refine EN.in_here ?_
  refine EN.tsr ?_
  refine G.mv ?_
  refine G.as ?_
  refine G.nil ?_
  refine EN.sub (sC 4 Sub.nil) ?_
  refine EN.then ?_
  refine CG.ret ?_
  first | rw [he] | skip
  exact fin_ret1 rfl rfl tK sF (rfl) _ (.inl rfl)

end Go.Eng
/-
  Laws of packs: PackPlaces.
-/
set_option linter.unusedVariables false
set_option linter.unusedSimpArgs false
namespace Go.Eng
open Go.Proofs
theorem ag_34_F27 : aggB Tryd.prog 34 = some true := by kernel_rfl
theorem ag_3_F27 : aggB Tryd.prog 3 = some false := by kernel_rfl
theorem ag_9_F27 : aggB Tryd.prog 9 = some false := by kernel_rfl
theorem bd_10_F27 : bodied Tryd.prog 10 = true := by kernel_rfl
theorem bd_11_F27 : bodied Tryd.prog 11 = true := by kernel_rfl
theorem bd_13_F27 : bodied Tryd.prog 13 = true := by kernel_rfl
theorem bd_6_F27 : bodied Tryd.prog 6 = true := by kernel_rfl
theorem bd_7_F27 : bodied Tryd.prog 7 = true := by kernel_rfl
theorem bd_8_F27 : bodied Tryd.prog 8 = true := by kernel_rfl
theorem bd_9_F27 : bodied Tryd.prog 9 = true := by kernel_rfl
theorem bs_46_2_all_F27 : ∀ (x0 : List UInt8) (x1 : List UInt8) (w : World), (Instr.buildSlice 46 2 [(0, str x0), (1, str x1)].toArray).run Tryd.prog w = .ok (.slice (some ⟨w.heap.size, 0, none⟩) 2 2) { w with heap := w.heap.push (.cells [str x0, str x1].toArray 9) } := fun _ _ _ => by kernel_rfl
theorem fo_34_0_F27 : fieldOff Tryd.prog 34 0 = some 0 := by kernel_rfl
theorem fo_34_1_F27 : fieldOff Tryd.prog 34 1 = some 1 := by kernel_rfl
theorem se_40_F27 : sliceE Tryd.prog 40 = some 34 := by kernel_rfl
theorem se_46_F27 : sliceE Tryd.prog 46 = some 9 := by kernel_rfl
theorem sz_34_F27 : sizeB Tryd.prog 34 = some 7 := by kernel_rfl
theorem sz_9_F27 : sizeB Tryd.prog 9 = some 1 := by kernel_rfl
theorem us_9_F27 : Tryd.prog.underlying 9 = some .string := by kernel_rfl
theorem zl_34_F27 : zeroL Tryd.prog 34 = some [.int .i64 0, .int .i64 0, .int .i64 0, str [], .int .i64 0, str [], .int .u32 0] := by kernel_rfl

theorem headGo_err (s : List UInt8) : ∀ (f c n sh a e : Nat), Pk.headGo s f c n sh a = .err e → e ≠ 0
  | 0, _, _, _, _, _, h => by cases h; decide
  | f + 1, c, n, sh, a, e, h => by
    unfold Pk.headGo at h
    split at h
    · cases h
    · split at h
      · cases h; decide
      · split at h
        · cases h; decide
        · exact headGo_err s f _ _ _ _ e h
theorem head_err {s : List UInt8} {a e : Nat} (h : Pk.head s a = .err e) : e ≠ 0 := by
  unfold Pk.head at h
  split at h
  · cases h; decide
  · split at h
    · rename_i hq; cases h; exact headGo_err s _ _ _ _ _ _ hq
    · cases h
theorem backGo_err (s : List UInt8) : ∀ (f c n a e : Nat), Pk.backGo s f c n a = .err e → e ≠ 0
  | 0, _, _, _, _, h => by cases h; decide
  | f + 1, c, n, a, e, h => by
    unfold Pk.backGo at h
    split at h
    · cases h
    · split at h
      · cases h; decide
      · split at h
        · cases h; decide
        · exact backGo_err s f _ _ _ e h
theorem back_err {s : List UInt8} {a e : Nat} (h : Pk.back s a = .err e) : e ≠ 0 := by
  unfold Pk.back at h
  split at h
  · cases h; decide
  · exact backGo_err s _ _ _ _ _ h
theorem refs_err {b : List UInt8} {a k a1 e : Nat} (h : Pk.refs b a k a1 = .err e) : e ≠ 0 := by
  unfold Pk.refs at h
  split at h
  · cases h
  · split at h
    · split at h
      · rename_i hq; cases h; exact back_err hq
      · split at h
        · cases h; decide
        · cases h
    · split at h
      · split at h
        · cases h; decide
        · cases h
      · cases h; decide
theorem readE_ok {s : List UInt8} {a : Int} (h : (readE s a).2 = 0) : (readE s a).1.at_ = a ∧ a < (readE s a).1.nx := by
  unfold readE at h ⊢
  split at h
  · cases h
  · rename_i c1
    rw [if_neg c1]
    obtain ⟨n, rfl⟩ := Int.eq_ofNat_of_zero_le (by omega : 0 ≤ a)
    rw [Int.toNat_natCast] at h ⊢
    revert h
    cases hp : Pk.head (s.take (s.length - 20)) n with
    | err e => intro h; exact absurd h (by
        have := head_err hp
        unfold readH; simpa using this)
    | ok p =>
      have hpa := Pk.head_at hp
      unfold readH; dsimp only
      cases hq : Pk.refs (s.take (s.length - 20)) n p.1 p.2.2 with
      | err e => intro h; exact absurd h (by
          have := refs_err hq
          unfold readR; simpa using this)
      | ok q =>
        have hqa := Pk.refs_at hpa.2 hq
        unfold readR; dsimp only
        split
        · intro h; cases h
        · unfold readZ
          split
          · rename_i hz; intro h; exact absurd h hz
          · intro h; refine ⟨rfl, ?_⟩; simp only; omega
/-- entries that stand one behind the other -/
def Chain (s : List UInt8) : Int → List Pk.Ent → Int → Prop
  | a, [], b => a = b
  | a, y :: r, b => readE s a = (y, 0) ∧ y.at_ = a ∧ a < y.nx ∧ Chain s y.nx r b
theorem allGo_chain (s : List UInt8) : ∀ (k : Nat) (a : Int) (l : List Pk.Ent) (q : List Pk.Ent × Int), allGo s k a l = .ok q → ∃ r, q.1 = l ++ r ∧ r.length = k ∧ Chain s a r q.2
  | 0, a, l, q, h => by cases h; exact ⟨[], by simp, rfl, rfl⟩
  | k + 1, a, l, q, h => by
    unfold allGo at h
    split at h
    · cases h
    · rename_i h0
      have h0 : (readE s a).2 = 0 := by omega
      obtain ⟨r, h1, h2, h3⟩ := allGo_chain s k _ _ q h
      have := readE_ok h0
      exact ⟨(readE s a).1 :: r, by rw [h1]; simp, by simp [h2], by rw [← h0], this.1, this.2, h3⟩
theorem allGo_err (s : List UInt8) : ∀ (k : Nat) (a : Int) (l : List Pk.Ent) (e : Nat), allGo s k a l = .err e → e ≠ 0
  | 0, _, _, _, h => by cases h
  | k + 1, a, l, e, h => by
    unfold allGo at h
    split at h
    · rename_i h0; cases h; exact h0
    · exact allGo_err s k _ _ e h
theorem all_err {s : List UInt8} (h : (allE s).2 ≠ 0) : (allE s).1 = [] := by
  unfold allE at h ⊢
  split
  · rfl
  · rename_i c; rw [if_neg c] at h
    revert h
    cases allGo s (countE s).1 12 [] with
    | err e => intro _; rfl
    | ok q =>
      unfold allR; dsimp only
      split
      · intro _; rfl
      · intro h; exact absurd rfl h
theorem all_ok {s : List UInt8} (h : (allE s).2 = 0) : (countE s).2 = 0 ∧ (allE s).1.length = (countE s).1 ∧ Chain s 12 (allE s).1 ((s.length : Int) - 20) := by
  unfold allE at h ⊢
  split at h
  · rename_i c; exact absurd h c
  · rename_i c
    rw [if_neg c]
    have hc : (countE s).2 = 0 := by omega
    revert h
    cases hg : allGo s (countE s).1 12 [] with
    | err e => intro h; exact absurd h (allGo_err s _ _ _ e hg)
    | ok q =>
      obtain ⟨r, h1, h2, h3⟩ := allGo_chain s _ _ _ q hg
      unfold allR; dsimp only
      split
      · intro h; cases h
      · rename_i hq
        intro _
        have hq2 : q.2 = (s.length : Int) - 20 := by omega
        rw [hq2] at h3
        rw [List.nil_append] at h1
        exact ⟨hc, by rw [h1]; exact h2, by rw [h1]; exact h3⟩
theorem stepB_len {items : List Itm} {i : Nat} {x : Itm} {out : List UInt8} {ats : List Nat} {o : List UInt8} (ho : out.length ≤ 900000000) (h : stepB items i x out ats = .ok o) : o.length ≤ out.length + 70000 ∧ ocheck x.kind x.data = 0 := by
  unfold stepB at h
  split at h
  · cases h
  rename_i hc
  have hc : ocheck x.kind x.data = 0 := by omega
  have hl := ocheck_len hc
  have hk := ocheck_kind hc
  refine ⟨?_, hc⟩
  split at h
  · cases h
  split at h
  · cases h
  split at h
  · cases h
    have h1 := headL_len (k := x.kind.toNat) (n := x.data.length) (by omega)
    have h2 := zw_len x.data (by omega)
    simp only [List.length_append]; omega
  split at h
  · cases h
  rename_i hm
  split at h
  · cases h
    have h1 := headL_len (k := 7) (n := (Dlt.make (items.getD x.base.toNat Itm.none).data x.data).length) (by omega)
    have h2 := zw_len (Dlt.make (items.getD x.base.toNat Itm.none).data x.data) (by omega)
    have h3 := sum1_len (encode (items.getD x.base.toNat Itm.none).kind (items.getD x.base.toNat Itm.none).data)
    simp only [List.length_append]; omega
  · cases h
    have h1 := headL_len (k := 6) (n := (Dlt.make (items.getD x.base.toNat Itm.none).data x.data).length) (by omega)
    have h2 := zw_len (Dlt.make (items.getD x.base.toNat Itm.none).data x.data) (by omega)
    have h3 := backL_len (n := out.length - ats.getD x.base.toNat 0) (by omega)
    simp only [List.length_append]; omega
theorem stepB_err {items : List Itm} {i : Nat} {x : Itm} {out : List UInt8} {ats : List Nat} {e : Nat} (h : stepB items i x out ats = .err e) : e ≠ 0 := by
  unfold stepB at h
  repeat' split at h
  all_goals first | (cases h; first | assumption | decide) | cases h
theorem goB_len (items : List Itm) : ∀ (m i : Nat) (out : List UInt8) (ats : List Nat) (o : List UInt8), out.length + 70000 * m ≤ 900000000 → goB items m i out ats = .ok o → o.length ≤ out.length + 70000 * m
  | 0, _, _, _, _, _, h => by cases h; omega
  | m + 1, i, out, ats, o, hb, h => by
    unfold goB at h
    split at h
    · cases h; omega
    · split at h
      · cases h
      · rename_i hs
        have h1 := (stepB_len (by omega) hs).1
        have := goB_len items m _ _ _ o (by omega) h
        omega
theorem goB_err (items : List Itm) : ∀ (m i : Nat) (out : List UInt8) (ats : List Nat) (e : Nat), goB items m i out ats = .err e → e ≠ 0
  | 0, _, _, _, _, h => by cases h
  | m + 1, i, out, ats, e, h => by
    unfold goB at h
    split at h
    · cases h
    · split at h
      · rename_i hs; cases h; exact stepB_err hs
      · exact goB_err items m _ _ _ e h
theorem build_facts (items : List Itm) : (buildE items).1.length ≤ 100000000 ∧ ((buildE items).2 = 0 ↔ (buildE items).1 ≠ []) := by
  unfold buildE
  split
  · simp
  · rename_i hn
    have h12 : (headO items.length).length = 12 := by simp [headO, Sums.big]
    cases hg : goB items items.length 0 (headO items.length) [] with
    | err e => have := goB_err items _ _ _ _ e hg; simp [bR, this]
    | ok o =>
      have h1 := goB_len items _ _ _ _ o (by omega) hg
      have h2 := sum1_len o
      unfold bR
      refine ⟨by simp only [List.length_append]; omega, ?_⟩
      simp only [true_iff]
      intro e
      have := congrArg List.length e
      rw [List.length_append, h2] at this; simp at this
theorem stood_ent : Tryd.prog.stoodInHeld 34 = false := by kernel_rfl
theorem guard_ent : Tryd.prog.eqGuardType Tryd.prog.depth 34 = false := by kernel_rfl
theorem neq_ent (x : Pk.Ent) (a b : Operand) (w : World) : ((do eqGuard .neq 34 a b (.agg x.cells.toArray) (.agg x.cells.toArray); binOp .neq 34 (.agg x.cells.toArray) (.agg x.cells.toArray)) : Sem Value).run Tryd.prog w = .ok (.bool false) w := by
  have hs : Tryd.prog.underlying 34 = some (.struct (Tryd.prog.fieldsOf 34)) := by unfold Program.fieldsOf; rw [Tryd.underlying34]
  rw [Sem.run_bind, run_eqGuard_agg w .neq 34 a b _ _ guard_ent]
  simp only [Result.andThen_ok]
  rw [run_neq_struct, run_equalIn_agg w 9999 34 _ _ hs stood_ent]
  unfold Program.fieldsOf
  rw [Tryd.underlying34]
  have i3 := fun (w : World) (a b : Int) => run_equalIn_int (P := Tryd.prog) w 9998 3 .i64 .i64 a b Tryd.underlying3
  have s9 := fun (w : World) (a b : ByteArray) => run_equalIn_string (P := Tryd.prog) w 9998 9 a b Tryd.underlying9
  have i32 := fun (w : World) (a b : Int) => run_equalIn_int (P := Tryd.prog) w 9998 32 .u32 .u32 a b Tryd.underlying32
  simp only [Nat.reduceAdd] at i3 s9 i32
  simp [Op.eqFields, Pk.Ent.cells, str, Go.part, Go.isAgg, run_underlying Tryd.underlying3, run_underlying Tryd.underlying9, run_underlying Tryd.underlying32, i3, s9, i32]
theorem chain_cons {s : List UInt8} {a b : Int} {l : List Pk.Ent} {k : Nat} {y : Pk.Ent} (hy : l[k]? = some y) (h : Chain s a (l.drop k) b) : readE s a = (y, 0) ∧ y.at_ = a ∧ a < y.nx ∧ Chain s y.nx (l.drop (k + 1)) b := by
  obtain ⟨hk, rfl⟩ := List.getElem?_eq_some_iff.1 hy
  rw [List.drop_eq_getElem_cons hk] at h
  exact h
theorem chain_end {s : List UInt8} {a b : Int} {l : List Pk.Ent} {k : Nat} (hk : l.length ≤ k) (h : Chain s a (l.drop k) b) : a = b := by
  rw [List.drop_of_length_le hk] at h; exact h
theorem two_str {u v : List UInt8} {k : Nat} (hk : k < 2) (hu : u.length ≤ 800000000) (hv : v.length ≤ 800000000) : ∃ x : List UInt8, nth [str u, str v] k = some (str x) ∧ x.length ≤ 800000000 := by
  rcases k with _ | _ | k
  · exact ⟨u, rfl, hu⟩
  · exact ⟨v, rfl, hv⟩
  · omega

attribute [local irreducible] cel own exS ownG tabH TabI rowR shortL buildE allE countE readE

set_option maxRecDepth 100000 in
set_option maxHeartbeats 1000000 in
theorem packPlaces_spec {tz : TypeId × Nat × Nat} (s : List UInt8) (items : List Itm) (ad : Option Addr) (c0 : Nat) (ob : Obj) : Spec Tryd.prog 5 #[str s, .slice ad items.length c0] [TabI tz, rowR ad items.length 5 (items.flatMap Itm.cells) ob] (Ret fun v hl => v = .bool true ∧ hl = [TabI tz, rowR ad items.length 5 (items.flatMap Itm.cells) ob]) := by
 refine Spec.enter Tryd.func5 rfl rfl rfl (fun F w0 => ?_)
 dsimp only [argL, List.cons_append, List.nil_append]
 refine CG.sr ?_
 refine G.as ?_
 refine G.nil ?_
 refine EN.tsr ?_
 refine G.mv ?_
 refine G.call (xs := [_, _]) rfl rfl (short_spec items 15 ad c0 ob oM) bd_10_F27 rfl rfl rfl rfl tK (fun _ _ _ _ _ _ => trivial) ?_
 rintro v hl rfl
 try dsimp only [List.cons_append, List.nil_append]
 obtain ⟨S, hS⟩ : ∃ S, shortL items 15 = S := ⟨_, rfl⟩
 rw [hS]
 refine G.fact (p := own 29 5 v S.length (S.flatMap Itm.cells)) (α := ∃ ad1 c1, v = .slice ad1 S.length c1) tK1 (fun h hh => (by obtain ⟨_, _, ad1, c1, e, _⟩ := own_shape hh; exact ⟨ad1, c1, e⟩)) (fun hv => ?_)
 obtain ⟨ad1, c1, rfl⟩ := hv
 refine G.imp (p := own 29 5 (.slice ad1 S.length c1) S.length (S.flatMap Itm.cells)) (q := ownO 29 5 (.slice ad1 S.length c1) S.length (S.flatMap Itm.cells)) tK1 (fun h hh => ownG_weak (own_G.1 hh)) ?_
 refine G.call (xs := [_]) rfl rfl (build_spec S ad1 c1) bd_7_F27 rfl rfl rfl rfl tK (fun _ _ _ _ _ _ => trivial) ?_
 rintro _ _ ⟨rfl, rfl⟩
 have hbf := build_facts S
 obtain ⟨r, hr⟩ : ∃ r, buildE S = r := ⟨_, rfl⟩
 rw [hr] at hbf ⊢
 try dsimp only [List.cons_append, List.nil_append]
 refine G.mv ?_
 refine G.q rfl rfl rfl rfl (q_extract rfl rfl rfl) ?_
 refine G.q rfl rfl rfl rfl (q_extract rfl rfl rfl) ?_
 refine G.as ?_
 refine G.as ?_
 refine G.nil ?_
 refine EN.ts ?_
 refine CG.sr ?_
 refine G.mv ?_
 refine G.call (xs := [_, _]) rfl rfl (few_spec s 700) bd_6_F27 rfl rfl rfl rfl tK (fun _ _ _ _ _ _ => trivial) ?_
 rintro _ _ ⟨rfl, rfl⟩
 obtain ⟨u, hu⟩ : ∃ u, s.take 700 = u := ⟨_, rfl⟩
 have hul : u.length ≤ 700 := by rw [← hu]; simp; omega
 rw [hu]
 try dsimp only [List.cons_append, List.nil_append]
 refine G.mv ?_
 refine G.e rfl rfl rfl rfl (e_bslice rfl rfl (bs_46_2_all_F27 _ _)) (fun _ _ _ _ _ _ => trivial) ?_
 rintro _ _ ⟨b27, rfl, rfl⟩
 refine G.q rfl rfl rfl rfl (q_len_sl rfl rfl se_46_F27) ?_
 refine G.mv ?_
 refine G.nil ?_
 refine EN.sub (sC 4 (sC 5 (sC 6 (sC 27 (sC 28 (sC 29 Sub.nil)))))) ?_
 refine EN.then ?_
 refine CG.block ?_
 refine CG.loopI (fun n L H => ∃ k : Nat, k ≤ 2 ∧ n = 2 - k ∧ L = [(5, str r.1), (6, .int .i64 (r.2 : Nat)), (27, .slice (some ⟨b27, 0, none⟩) 2 2), (28, .int .i64 2), (29, .int .i64 k)] ∧ H = [TabI tz, rowR ad items.length 5 (items.flatMap Itm.cells) ob, cel b27 9 [str u, str r.1]] ++ F) (2 - 0) (hl := [_, _, _]) (⟨0, Nat.zero_le _, rfl, rfl, rfl⟩) sB rfl tK sF ?_
 rintro n L H ⟨k, hk2, rfl, rfl, rfl⟩
 try dsimp only [List.cons_append, List.nil_append]
 refine CG.sr ?_
 refine G.q rfl rfl rfl rfl (q_lss rfl rfl rfl) ?_
 refine G.nil ?_
 refine EN.ts ?_
 refine CG.cond rfl (fun h30 => ?_) (fun h30 => ?_)
 ·
  have hk : k < 2 := by omega
  obtain ⟨x, hx, hxl⟩ := two_str (u := u) (v := r.1) hk oM oM
  refine CG.skip ?_
  refine EN.ts ?_
  refine CG.block ?_
  refine CG.sr ?_
  first | refine G.q rfl rfl rfl rfl (q_ixaddr1 rfl rfl rfl se_46_F27 sz_9_F27 (hk)) ?_ | refine G.q rfl rfl rfl rfl (q_ixaddr rfl rfl rfl se_46_F27 sz_9_F27 (hk)) ?_
  first | refine G.r rfl rfl rfl rfl (r_load rfl rfl ag_9_F27 .here (hx)) ?_ | refine G.r rfl rfl rfl rfl (r_load rfl rfl ag_9_F27 (.there .here) (hx)) ?_ | refine G.r rfl rfl rfl rfl (r_load rfl rfl ag_9_F27 (.there (.there .here)) (hx)) ?_ | refine G.r rfl rfl rfl rfl (r_load rfl rfl ag_9_F27 (.there (.there (.there .here))) (hx)) ?_ | refine G.r rfl rfl rfl rfl (r_load rfl rfl ag_9_F27 (.there (.there (.there (.there .here)))) (hx)) ?_
  refine G.as ?_
  refine G.nil ?_
  refine EN.tsr ?_
  refine G.mv ?_
  refine G.call (xs := [_]) rfl rfl (all_spec x hxl) bd_11_F27 rfl rfl rfl rfl tK (fun _ _ _ _ _ _ => trivial) ?_
  rintro _ _ ⟨sv, rfl, rfl⟩
  have hae := @all_err x
  have hao := @all_ok x
  obtain ⟨p, hp⟩ : ∃ p, allE x = p := ⟨_, rfl⟩
  rw [hp] at hae hao ⊢
  try dsimp only [List.cons_append, List.nil_append]
  refine G.fact (p := own 34 7 sv p.1.length (p.1.flatMap Pk.Ent.cells)) (α := ∃ ad2 c2, sv = .slice ad2 p.1.length c2) tK1 (fun h hh => (by obtain ⟨_, _, ad2, c2, e, _⟩ := own_shape hh; exact ⟨ad2, c2, e⟩)) (fun hv => ?_)
  obtain ⟨ad2, c2, rfl⟩ := hv
  refine G.imp (p := own 34 7 (.slice ad2 p.1.length c2) p.1.length (p.1.flatMap Pk.Ent.cells)) (q := ownO 34 7 (.slice ad2 p.1.length c2) p.1.length (p.1.flatMap Pk.Ent.cells)) tK1 (fun h hh => ownG_weak (own_G.1 hh)) ?_
  refine G.mv ?_
  refine G.q rfl rfl rfl rfl (q_extract rfl rfl rfl) ?_
  refine G.q rfl rfl rfl rfl (q_extract rfl rfl rfl) ?_
  refine G.as ?_
  refine G.as ?_
  refine G.nil ?_
  refine EN.ts ?_
  refine CG.sr ?_
  refine G.mv ?_
  refine G.q rfl rfl rfl rfl (q_neq rfl rfl rfl) ?_
  refine G.nil ?_
  refine EN.sub (sC 5 (sC 6 (sC 8 (sC 9 (sC 27 (sC 28 (sC 29 (sC 39 Sub.nil)))))))) ?_
  refine EN.then ?_
  refine CG.cond rfl (fun h39 => ?_) (fun h39 => ?_)
  ·
   have h0 : p.1.length = 0 := by rw [hae oM]; rfl
   refine CG.seq ?_
   refine CG.sr ?_
   refine G.mv ?_
   refine G.q rfl rfl rfl rfl (q_len_sl rfl rfl se_40_F27) ?_
   refine G.q rfl rfl rfl rfl (q_neq rfl rfl rfl) ?_
   refine G.nil ?_
   refine EN.then ?_
   refine CG.cond rfl (fun h42 => absurd h42 oM) (fun h42 => ?_)
   refine CG.skip ?_
   refine EN.then ?_
   refine CG.exit ?_
   refine EN.then_exit ?_
   refine EN.in_here ?_
   refine EN.tr ?_
   first | refine G.q rfl rfl rfl rfl (q_add_i rfl rfl rfl oM) ?_ | refine G.q rfl rfl rfl rfl (q_add rfl rfl rfl) ?_
   rw [show (k : Int) + 1 = ((k + 1 : Nat) : Int) by omega]
   refine G.mv ?_
   refine G.nil ?_
   exact EN.round (hl := [_, _, _]) (2 - (k + 1)) oM (⟨k + 1, by omega, rfl, rfl, rfl⟩) sB rfl tK sF
  ·
   obtain ⟨hc0, hcl, hch⟩ := hao oM
   have hcle := (count_le x).1
   obtain ⟨q, hq⟩ : ∃ q, countE x = q := ⟨_, rfl⟩
   rw [hq] at hc0 hcl hcle
   refine CG.skip ?_
   refine EN.tsr ?_
   refine G.mv ?_
   refine G.call (xs := [_]) rfl rfl (count_spec x hxl) bd_13_F27 rfl rfl rfl rfl tK (fun _ _ _ _ _ _ => trivial) ?_
   rintro _ _ ⟨rfl, rfl⟩
   rw [hq]
   try dsimp only [List.cons_append, List.nil_append]
   refine G.mv ?_
   refine G.q rfl rfl rfl rfl (q_extract rfl rfl rfl) ?_
   refine G.q rfl rfl rfl rfl (q_extract rfl rfl rfl) ?_
   refine G.as ?_
   refine G.as ?_
   refine G.nil ?_
   refine EN.ts ?_
   refine CG.sr ?_
   refine G.mv ?_
   refine G.q rfl rfl rfl rfl (q_neq rfl rfl rfl) ?_
   refine G.mv ?_
   refine G.split (t := 50) rfl (fun g50 => absurd g50 oM) (fun g50 => ?_)
   refine G.mv ?_
   refine G.mv ?_
   refine G.q rfl rfl rfl rfl (q_len_sl rfl rfl se_40_F27) ?_
   refine G.q rfl rfl rfl rfl (q_neq rfl rfl rfl) ?_
   refine G.q rfl rfl rfl rfl (q_pick_f rfl rfl rfl) ?_
   refine G.nil ?_
   refine EN.sub (sC 5 (sC 6 (sC 8 (sC 9 (sC 27 (sC 28 (sC 29 (sC 55 Sub.nil)))))))) ?_
   refine EN.then ?_
   refine CG.cond rfl (fun h55 => absurd h55 oM) (fun h55 => ?_)
   refine CG.skip ?_
   refine EN.tsr ?_
   refine G.as ?_
   refine G.nil ?_
   refine EN.ts ?_
   refine CG.sr ?_
   refine G.mv ?_
   refine G.q rfl rfl rfl rfl (q_len_sl rfl rfl se_40_F27) ?_
   refine G.mv ?_
   refine G.nil ?_
   refine EN.then ?_
   refine CG.block ?_
   refine CG.loopI (fun n L H => ∃ (j : Nat) (a : Int), j ≤ p.1.length ∧ n = p.1.length - j ∧ Chain x a (p.1.drop j) ((x.length : Int) - 20) ∧ L = [(5, str r.1), (6, .int .i64 (r.2 : Nat)), (8, str x), (13, .int .i64 a), (27, .slice (some ⟨b27, 0, none⟩) 2 2), (28, .int .i64 2), (29, .int .i64 k), (56, .slice ad2 p.1.length c2), (57, .int .i64 p.1.length), (58, .int .i64 j)] ∧ H = [TabI tz, rowR ad items.length 5 (items.flatMap Itm.cells) ob, cel b27 9 [str u, str r.1], ownO 34 7 (.slice ad2 p.1.length c2) p.1.length (p.1.flatMap Pk.Ent.cells)] ++ F) (p.1.length - 0) (hl := [_, _, _, _]) (⟨0, 12, Nat.zero_le _, rfl, hch, rfl, rfl⟩) sB rfl tK sF ?_
   rintro n L H ⟨j, a, hjl, rfl, hca, rfl, rfl⟩
   try dsimp only [List.cons_append, List.nil_append]
   refine CG.sr ?_
   refine G.q rfl rfl rfl rfl (q_lss rfl rfl rfl) ?_
   refine G.nil ?_
   refine EN.ts ?_
   refine CG.cond rfl (fun h59 => ?_) (fun h59 => ?_)
   ·
    have hj : j < p.1.length := by omega
    refine CG.someO (z := false) tK1 oM (fun g off had => ?_)
    subst had
    obtain ⟨y, hy⟩ := get_some hj
    obtain ⟨hc1, hc2, hc3, hc4⟩ := chain_cons hy hca
    subst hc2
    refine CG.skip ?_
    refine EN.ts ?_
    refine CG.block ?_
    refine CG.sr ?_
    refine G.q rfl rfl rfl rfl (q_ixaddr rfl rfl rfl se_40_F27 sz_34_F27 (hj)) ?_
    refine G.r rfl rfl rfl rfl (r_loadOA rfl rfl ag_34_F27 sz_34_F27 mB rfl (flat_whole (f := Pk.Ent.cells) ent_len hy)) ?_
    rw [← ent_cells]
    refine G.e rfl rfl rfl rfl (e_alloc rfl zl_34_F27) (fun _ _ _ _ _ _ => trivial) ?_
    rintro _ _ ⟨b15, rfl, rfl⟩
    first | refine G.sa0 sz_34_F27 ?_ | refine G.sg0 sz_34_F27 ?_
    refine G.nil ?_
    refine EN.tsr ?_
    refine G.mv ?_
    first | refine G.q rfl rfl rfl rfl (q_field0 rfl rfl fo_34_0_F27) ?_ | refine G.q rfl rfl rfl rfl (q_field rfl rfl fo_34_0_F27) ?_
    refine G.ld ag_3_F27 ?_
    refine G.call (xs := [_, _]) rfl rfl (pread_spec x y.at_ oM) bd_9_F27 rfl rfl rfl rfl tK (fun _ _ _ _ _ _ => trivial) ?_
    rintro _ _ ⟨rfl, rfl⟩
    rw [hc1]
    dsimp only
    rw [← ent_cells]
    try dsimp only [List.cons_append, List.nil_append]
    refine G.mv ?_
    refine G.q rfl rfl rfl rfl (q_extract rfl rfl rfl) ?_
    refine G.q rfl rfl rfl rfl (q_extract rfl rfl rfl) ?_
    refine G.e rfl rfl rfl rfl (e_alloc rfl zl_34_F27) (fun _ _ _ _ _ _ => trivial) ?_
    rintro _ _ ⟨b16, rfl, rfl⟩
    first | refine G.sa0 sz_34_F27 ?_ | refine G.sg0 sz_34_F27 ?_
    refine G.as ?_
    refine G.nil ?_
    refine EN.sub (sC 5 (sC 6 (sC 8 (sC 13 (sC 15 (sC 16 (sC 17 (sC 27 (sC 28 (sC 29 (sC 56 (sC 57 (sC 58 Sub.nil))))))))))))) ?_
    refine EN.ts ?_
    refine CG.sr ?_
    refine G.mv ?_
    refine G.q rfl rfl rfl rfl (q_neq rfl rfl rfl) ?_
    refine G.mv ?_
    refine G.split (t := 71) rfl (fun g71 => absurd g71 oM) (fun g71 => ?_)
    first | refine G.ldA ag_34_F27 sz_34_F27 ?_ | refine G.ldP ag_34_F27 sz_34_F27 ?_
    first | refine G.ldA ag_34_F27 sz_34_F27 ?_ | refine G.ldP ag_34_F27 sz_34_F27 ?_
    refine G.q rfl rfl rfl rfl (q_neq_same rfl rfl rfl (neq_ent y _ _)) ?_
    refine G.q rfl rfl rfl rfl (q_pick_f rfl rfl rfl) ?_
    refine G.mv ?_
    first | refine G.q rfl rfl rfl rfl (q_field0 rfl rfl fo_34_0_F27) ?_ | refine G.q rfl rfl rfl rfl (q_field rfl rfl fo_34_0_F27) ?_
    refine G.ld ag_3_F27 ?_
    refine G.mv ?_
    refine G.q rfl rfl rfl rfl (q_neq rfl rfl rfl) ?_
    refine G.q rfl rfl rfl rfl (q_pick_f rfl rfl rfl) ?_
    refine G.mv ?_
    refine G.split (t := 82) rfl (fun g82 => absurd g82 oM) (fun g82 => ?_)
    first | refine G.q rfl rfl rfl rfl (q_field0 rfl rfl fo_34_1_F27) ?_ | refine G.q rfl rfl rfl rfl (q_field rfl rfl fo_34_1_F27) ?_
    refine G.ld ag_3_F27 ?_
    first | refine G.q rfl rfl rfl rfl (q_field0 rfl rfl fo_34_0_F27) ?_ | refine G.q rfl rfl rfl rfl (q_field rfl rfl fo_34_0_F27) ?_
    refine G.ld ag_3_F27 ?_
    refine G.q rfl rfl rfl rfl (q_leq rfl rfl rfl) ?_
    refine G.q rfl rfl rfl rfl (q_pick_f rfl rfl rfl) ?_
    refine G.nil ?_
    refine EN.sub (sC 5 (sC 6 (sC 8 (sC 13 (sC 15 (sC 27 (sC 28 (sC 29 (sC 56 (sC 57 (sC 58 (sC 88 Sub.nil)))))))))))) ?_
    refine EN.then ?_
    refine CG.cond rfl (fun h88 => absurd h88 oM) (fun h88 => ?_)
    refine CG.skip ?_
    refine EN.tr ?_
    first | refine G.q rfl rfl rfl rfl (q_field0 rfl rfl fo_34_1_F27) ?_ | refine G.q rfl rfl rfl rfl (q_field rfl rfl fo_34_1_F27) ?_
    refine G.ld ag_3_F27 ?_
    refine G.as ?_
    refine G.nil ?_
    refine EN.in_normal ?_
    refine EN.tr ?_
    first | refine G.q rfl rfl rfl rfl (q_add_i rfl rfl rfl oM) ?_ | refine G.q rfl rfl rfl rfl (q_add rfl rfl rfl) ?_
    rw [show (j : Int) + 1 = ((j + 1 : Nat) : Int) by omega]
    refine G.mv ?_
    refine G.nil ?_
    exact EN.round (hl := [_, _, _, _]) (p.1.length - (j + 1)) oM (⟨j + 1, y.nx, by omega, rfl, hc4, rfl, rfl⟩) sB rfl tK sF
   ·
    have hce := chain_end oM hca
    refine CG.exit ?_
    refine EN.then_exit ?_
    refine EN.then_exit ?_
    refine EN.in_here ?_
    refine EN.tsr ?_
    refine G.mv ?_
    refine G.mv ?_
    refine G.q rfl rfl rfl rfl (q_len_str rfl rfl us_9_F27) ?_
    first | refine G.q rfl rfl rfl rfl (q_sub_i rfl rfl rfl oM) ?_ | refine G.q rfl rfl rfl rfl (q_sub rfl rfl rfl) ?_
    refine G.q rfl rfl rfl rfl (q_neq rfl rfl rfl) ?_
    refine G.nil ?_
    refine EN.sub (sC 5 (sC 6 (sC 27 (sC 28 (sC 29 (sC 96 Sub.nil)))))) ?_
    refine EN.then ?_
    refine CG.cond rfl (fun h96 => absurd h96 oM) (fun h96 => ?_)
    refine CG.skip ?_
    refine EN.in_normal ?_
    refine EN.tr ?_
    first | refine G.q rfl rfl rfl rfl (q_add_i rfl rfl rfl oM) ?_ | refine G.q rfl rfl rfl rfl (q_add rfl rfl rfl) ?_
    rw [show (k : Int) + 1 = ((k + 1 : Nat) : Int) by omega]
    refine G.mv ?_
    refine G.nil ?_
    exact EN.round (hl := [_, _, _]) (2 - (k + 1)) oM (⟨k + 1, by omega, rfl, rfl, rfl⟩) sB rfl tK sF
 ·
  refine CG.exit ?_
  refine EN.then_exit ?_
  refine EN.then_exit ?_
  refine EN.in_here ?_
  refine EN.tsr ?_
  refine G.call (xs := []) rfl rfl (awake_spec) bd_8_F27 rfl rfl rfl rfl tK (fun _ _ _ _ _ _ => trivial) ?_
  rintro _ _ ⟨rfl, rfl⟩
  try dsimp only [List.cons_append, List.nil_append]
  refine G.mv ?_
  refine G.mv ?_
  refine G.q rfl rfl rfl rfl (q_eql rfl rfl rfl) ?_
  refine G.mv ?_
  refine G.q rfl rfl rfl rfl (q_neq_s rfl rfl rfl) ?_
  refine G.q rfl rfl rfl rfl (q_eql_b rfl rfl rfl Tryd.underlying4) ?_
  refine G.q rfl rfl rfl rfl (q_pick_t rfl rfl rfl) ?_
  refine G.as ?_
  refine G.nil ?_
  refine EN.sub (sC 4 Sub.nil) ?_
  refine EN.then ?_
  refine CG.ret ?_
  have hb : (decide ((r.2 : Int) = 0) == decide (r.1 ≠ [])) = true := by
    have := hbf.2
    by_cases h : r.2 = 0
    · have h2 := this.1 h
      simp [h, h2]
    · have h2 : r.1 = [] := Decidable.byContradiction fun h3 => h (this.2 h3)
      simp [h, h2]
  exact fin_ret1 rfl rfl tK sF (⟨by first | rw [hb] | (simp only [hb]), rfl⟩) _ (.inl rfl)

end Go.Eng
/-
  The reference (ref01.Number).
-/
set_option linter.unusedVariables false
set_option linter.unusedSimpArgs false
namespace Go.Eng
open Go.Proofs
theorem ik_51_F28 : intK Tryd.prog 51 = some .u64 := by kernel_rfl
theorem is_5_F28 : (Tryd.prog.underlying 5).isSome = true := by kernel_rfl
theorem us_9_F28 : Tryd.prog.underlying 9 = some .string := by kernel_rfl

set_option maxRecDepth 100000 in
set_option maxHeartbeats 1000000 in
theorem number_spec (s : List UInt8) (h : s.length ≤ 4) : Spec Tryd.prog 29 #[str s] [] (Ret fun v hl => v = .int .u64 (Sums.fromBig s) ∧ hl = []) := by
 refine Spec.enter Tryd.func29 rfl rfl rfl (fun F w0 => ?_)
 dsimp only [argL, List.cons_append, List.nil_append]
 refine CG.sr ?_
 refine G.as ?_
 refine G.nil ?_
 refine EN.tsr ?_
 refine G.as ?_
 refine G.nil ?_
 refine EN.ts ?_
 refine CG.sr ?_
 refine G.as ?_
 refine G.nil ?_
 refine EN.then ?_
 refine CG.block ?_
 refine CG.loopI (fun m L H => ∃ k : Nat, k ≤ s.length ∧ m = (s.length) - k ∧ L = [(0, str s), (3, .int .u64 (Sums.fromBig (s.take k))), (4, .int .i64 k)] ∧ H = F) ((s.length) - 0) (hl := []) (⟨0, Nat.zero_le _, rfl, rfl, rfl⟩) sB rfl tK sF ?_
 rintro m L H ⟨k, hk, rfl, rfl, rfl⟩
 try dsimp only [List.cons_append, List.nil_append]
 refine CG.seq ?_
 refine CG.sr ?_
 refine G.mv ?_
 refine G.mv ?_
 refine G.q rfl rfl rfl rfl (q_len_str rfl rfl us_9_F28) ?_
 refine G.q rfl rfl rfl rfl (q_lss rfl rfl rfl) ?_
 refine G.nil ?_
 refine EN.then ?_
 refine CG.cond rfl (fun h8 => ?_) (fun h8 => ?_)
 ·
  obtain ⟨c, hc⟩ := get_some (l := s) (k := k) oM
  have hs := take_snoc hc
  have hcl := c.toNat_lt
  have hb := Sums.fromBig_lt' (s := s.take k) (j := 4) (by simp; omega)
  rw [show (256 : Int) ^ 4 = 4294967296 by decide] at hb
  have e : Sums.fromBig (s.take (k+1)) = Sums.fromBig (s.take k) * 256 + c.toNat := by rw [hs, Sums.fromBig_snoc]
  refine CG.skip ?_
  refine EN.ts ?_
  refine CG.block ?_
  refine CG.reg ?_
  refine G.mv ?_
  first | refine G.q rfl rfl rfl rfl (q_mulw rfl rfl rfl lOm lOm) ?_ | refine G.q rfl rfl rfl rfl (q_mul rfl rfl rfl) ?_
  refine G.mv ?_
  refine G.mv ?_
  refine G.q rfl rfl rfl rfl (q_index rfl rfl rfl us_9_F28 (hc)) ?_
  first | refine G.q rfl rfl rfl rfl (q_conv_in rfl rfl is_5_F28 ik_51_F28 (wrapu_in (b := 64) rfl rfl oM)) ?_ | refine G.q rfl rfl rfl rfl (q_conv rfl rfl is_5_F28 ik_51_F28) ?_
  first | refine G.q rfl rfl rfl rfl (q_addw rfl rfl rfl lOm lOm) ?_ | refine G.q rfl rfl rfl rfl (q_add rfl rfl rfl) ?_
  refine G.as ?_
  refine G.nil ?_
  refine EN.sub (sC 0 (sC 3 (sC 4 Sub.nil))) ?_
  refine EN.in_normal ?_
  refine EN.tr ?_
  refine G.mv ?_
  first | refine G.q rfl rfl rfl rfl (q_add_i rfl rfl rfl oM) ?_ | refine G.q rfl rfl rfl rfl (q_add rfl rfl rfl) ?_
  refine G.as ?_
  refine G.nil ?_
  rw [show (256 : Int) * Sums.fromBig (s.take k) + c.toNat = Sums.fromBig (s.take (k + 1)) by omega]
  exact EN.round (hl := []) ((s.length) - (k + 1)) oM (⟨k + 1, by omega, rfl, rfl, rfl⟩) sB rfl tK sF
 ·
  obtain rfl : k = s.length := by omega
  refine CG.exit ?_
  refine EN.then_exit ?_
  refine EN.then_exit ?_
  refine EN.in_here ?_
  refine EN.tsr ?_
  refine G.mv ?_
  refine G.as ?_
  refine G.nil ?_
  refine EN.then ?_
  refine CG.ret ?_
  rw [List.take_length]
  exact fin_ret1 rfl rfl tK sF (⟨rfl, rfl⟩) _ (.inl rfl)

end Go.Eng
/-
  The reference (ref02.turn).
-/
set_option linter.unusedVariables false
set_option linter.unusedSimpArgs false
namespace Go.Eng
open Go.Proofs


set_option maxRecDepth 100000 in
set_option maxHeartbeats 1000000 in
theorem turn_spec (x : Int) (n : Nat) (hn : 0 < n ∧ n < 32) : Spec Tryd.prog 50 #[.int .u32 x, .int .i64 n] [] (Ret fun v hl => v = .int .u32 (Sha.rot x n) ∧ hl = []) := by
 refine Spec.enter Tryd.func50 rfl rfl rfl (fun F w0 => ?_)
 dsimp only [argL, List.cons_append, List.nil_append]
 refine CG.sr ?_
 refine G.as ?_
 refine G.nil ?_
 refine EN.ts ?_
 have e1 : min ((n : Int)).toNat IntKind.u32.bits = n := by simp only [IntKind.bits]; omega
 have e2 : min ((32 : Int) - n).toNat IntKind.u32.bits = 32 - n := by simp only [IntKind.bits]; omega
 refine CG.regT [] mixed (by kernel_rfl) ?_
 refine G.mv ?_
 refine G.mv ?_
 refine G.q rfl rfl rfl rfl (q_shl rfl rfl rfl oM) ?_
 refine G.mv ?_
 refine G.mv ?_
 first | refine G.q rfl rfl rfl rfl (q_sub_i rfl rfl rfl oM) ?_ | refine G.q rfl rfl rfl rfl (q_sub rfl rfl rfl) ?_
 refine G.q rfl rfl rfl rfl (q_shr rfl rfl rfl oM) ?_
 refine G.q rfl rfl rfl rfl (q_or rfl rfl rfl) ?_
 refine G.as ?_
 refine G.nil ?_
 refine EN.sub (sC 4 Sub.nil) ?_
 refine EN.then ?_
 refine CG.ret ?_
 rw [e1, e2]
 exact fin_ret1 rfl rfl tK sF (⟨rfl, rfl⟩) _ (.inl rfl)

end Go.Eng
/-
  Rows of a string's conversion: they bear a mark behind their cells. Speaks of no program.
-/
set_option linter.unusedVariables false
set_option linter.unusedSimpArgs false
namespace Go.Eng
def okZ (z : Nat × Nat) (n : Nat) : Prop := z = (0, 0) ∨ n ≤ z.1
theorem okZ_frz {z : Nat × Nat} {n i : Nat} (h : okZ z n) (hi : i < n) : (decide (z.1 ≤ i) && decide (i < z.2)) = false := by
  rcases h with rfl | h
  · simp
  · simp only [Bool.and_eq_false_iff, decide_eq_false_iff_not]; left; omega
/-- a block of cells with a mark -/
def celZ (b : Nat) (T : TypeId) (z : Nat × Nat) (l : List Value) : HP := pt b (.cells l.toArray T z)
/-- a slice of n one-cell elements that owns its row, which may bear a mark -/
def ownM (T : TypeId) (v : Value) (n : Nat) (xs : List Value) : HP := fun h =>
  xs.length = n ∧ ∃ g cap cur z, v = .slice (some ⟨g, 0, none⟩) n cap ∧ h g = some (.cells cur T z) ∧ okZ z cur.size ∧ n ≤ cap ∧ cap ≤ maxLen ∧ cur.size = cap ∧ cur.toList.take n = xs
theorem setCells_heapZ (b : Nat) {T : Nat} {z : Nat × Nat} : ∀ (vs : List Value) (o : Nat) (w : World) (cs : List Value), w.heap[b]? = some (.cells cs.toArray T z) → o + vs.length ≤ cs.length →
    (w.setCells b o vs).heap[b]? = some (.cells (cs.take o ++ vs ++ cs.drop (o + vs.length)).toArray T z) ∧ ∀ k, k ≠ b → (w.setCells b o vs).heap[k]? = w.heap[k]?
  | [], o, w, cs, hb, _ => by simpa [World.setCells] using hb
  | v :: vs, o, w, cs, hb, hl => by
    simp only [List.length_cons] at hl
    have h1 : (w.setCell ⟨b, o, none⟩ v).heap[b]? = some (.cells (cs.set o v).toArray T z) := by
      simp [World.setCell, Array.getElem?_modify, hb]
    obtain ⟨h2, h3⟩ := setCells_heapZ b vs (o + 1) _ _ h1 (by simp; omega)
    refine ⟨?_, fun k hk => ?_⟩
    · rw [World.setCells, h2]
      have e1 : (cs.set o v).take (o + 1) = cs.take o ++ [v] := by
        rw [List.take_add_one, List.take_set_of_le (Nat.le_refl _)]
        simp [show o < cs.length by omega]
      have e2 : (cs.set o v).drop (o + 1 + vs.length) = cs.drop (o + (vs.length + 1)) := by
        rw [List.drop_set_of_lt (by omega)]; congr 1; omega
      rw [e1, e2]; simp
    · rw [World.setCells, h3 k hk]
      exact RowKit.Below.heap_setCell _ _ _ _ hk
section
variable {P : Program} {L : List (Nat × Value)} {H : List HP} {o : Oper}
theorem cell_celZ {w0 w : World} {b T off : Nat} {z : Nat × Nat} {cs : List Value} {v : Value} (hw : WS w0 H w) (hm : Mem (celZ b T z cs) H) (hv : nth cs off = some v) : w.cell? ⟨b, off, none⟩ = some v := by
  have := hw.pt hm
  rw [nth_eq] at hv
  simp [World.cell?, this, hv]
theorem r_loadZ {x : Operand} {T U : TypeId} {b off : Nat} {z : Nat × Nat} {cs : List Value} {v : Value} (ho : o.op = .load T x) (hx : ev L x = some (.pointer (some ⟨b, off, none⟩))) (hT : aggB P T = some false) (hm : Mem (celZ b U z cs) H) (hv : nth cs off = some v) : ROp P L H o v := by
  intro N D a w w0 hf hw
  unfold execOp; rw [ho]
  simp [hf.ev hx, Instr.loadAt, Instr.sureAddr, loadVar, run_isAgg hT, cell_celZ hw hm hv]
theorem e_storeZ {x y : Operand} {T U : TypeId} {b off : Nat} {z : Nat × Nat} {cs : List Value} {v : Value} {H' : List HP} (ho : o.op = .store T x y) (hx : ev L x = some (.pointer (some ⟨b, off, none⟩))) (hy : ev L y = some v)
    (hT : sizeB P T = some 1) (hv : v.oneCell' = true) (hz : okZ z cs.length) (hl : off < cs.length) (hr : Rep H (celZ b U z cs) (celZ b U z (cs.set off v)) H') : EOp P L H o (fun u H2 => u = undef ∧ H2 = H') := by
  intro N D a w w0 K Q hf hw hk
  have hm : Mem (celZ b U z cs) H := by
    clear hk hw hl
    generalize celZ b U z cs = p at hr
    generalize celZ b U z _ = p' at hr
    induction hr with
    | here => exact .here
    | there _ ih => exact .there ih
  have hb := hw.pt hm
  have hu : w.cell? ⟨b, off, none⟩ = some cs[off] := by simp [World.cell?, hb, hl]
  have hfz : w.frozen? ⟨b, off, none⟩ = false := by
    simp only [World.frozen?, hb]; exact okZ_frz hz hl
  have hrun : (execOp a.eval o).run P w = .ok .skip (w.setCell ⟨b, off, none⟩ v) := by
    unfold execOp; rw [ho]
    simp only [hf.ev hx, hf.ev hy, Instr.storeAt, Instr.sureAddr, storeVar, Sem.run_bind, Sem.run_pure, Result.andThen_ok, run_sizeOf hT]
    have hc : v.cells = #[v] := by cases v <;> first | rfl | (simp [Value.oneCell'] at hv)
    rw [hc]
    simp [storeCells, run_store P _ _ v _ hv, stored, Addr.add_zero', hu, hfz]
  unfold Oper.wp
  rw [hrun]
  refine hk undef H' _ ⟨rfl, rfl⟩ (hw.put (b := b) hr ?_ (fun k hk => RowKit.Below.heap_setCell _ _ _ _ hk) rfl rfl rfl)
  simp [World.setCell, Array.getElem?_modify, hb]
/-- append to such a row -/
theorem e_appendM {x y : Operand} {t tx e bytes : Nat} {zs : List Value} {v v2 : Value} {n m : Nat} {xs news : List Value} {H1 : List HP} (ho : o.op = .call { callee := .builtin .append, args := #[x, y], argTypes := #[t, tx] })
    (hx : ev L x = some v) (hy : ev L y = some v2) (hs : sliceE P t = some e) (hi : infoB P e = some (some zs, 1, bytes)) (hz : Nat.beq zs.length 1 = true)
    (ht : Take H (ownM e v n xs) H1) (hsrc : ∀ w0 w, WS w0 H1 w → Src P 1 tx v2 m news w) (hm0 : 0 < m) (hb : (n + m) * bytes ≤ 140737488355328 ∧ n + m ≤ 140737488355328) :
    EOp P L H o (fun u H' => H' = ownM e u (n + m) (xs ++ news) :: H1) := by
  intro N D a w w0 K Q hf hw hk
  obtain ⟨i, zv, hi1, hi2, hi3, hi4, hi5⟩ := infoB_spec hi
  have hz' := Nat.eq_of_beq_eq_true hz
  have hw2 : WS w0 (ownM e v n xs :: H1) w := hw.take1 ht
  have hS := hsrc w0 w ⟨star_tail hw2.sat, hw2.os, hw2.tape, hw2.output⟩
  rw [← hi4] at hS
  obtain ⟨S, hp⟩ := hw2.get .here
  have hnl : news.length = m := by rw [hS.newsLen, hi4, Nat.mul_one]
  have hlen : (xs ++ news).length = n + m := by rw [List.length_append, hp.1, hnl]
  have hst := sliceE_spec hs
  have grown : ∀ (old : Nat), old < n + m → ∀ u, u = Value.slice (some ⟨w.heap.size, 0, none⟩) (n + m) (grownCap w (n + m) old e) →
      WS w0 (ownM e u (n + m) (xs ++ news) :: H1) (w.drew.alloc (.cells ((xs ++ news).toArray ++ Builtin.zeroCells zv.cells (grownCap w (n + m) old e - (n + m))) e)) := by
    rintro old ho u rfl
    have hge := grownCap_ge w (n + m) old e
    have hcm : grownCap w (n + m) old e ≤ maxLen := grownCap_le_maxLen w (n + m) old e (by unfold maxLen; omega)
    have hsz : ((xs ++ news).toArray ++ Builtin.zeroCells zv.cells (grownCap w (n + m) old e - (n + m))).size = grownCap w (n + m) old e := by
      simp only [Array.size_append, List.size_toArray, size_zeroCells, hi3, hz', hlen]
      omega
    refine hw2.upd .here (fun S' hp' => ⟨⟨hlen, w.heap.size, _, _, (0, 0), rfl, ?_, .inl rfl, hge, hcm, hsz, ?_⟩, fun k hk _ => RowKit.Below.heap_alloc w.drew _ k hk⟩) rfl rfl rfl
    · rw [res_in (.inr (Nat.le_refl _))]; exact heap_alloc_new w.drew _
    · rw [← hlen]
      simp only [Array.toList_append]
      exact List.take_left
  have hrun : ∃ u w', (Builtin.append_ #[t, tx] o.type #[v, v2]).run P w = .ok u w' ∧ WS w0 (ownM e u (n + m) (xs ++ news) :: H1) w' := by
    obtain ⟨_, g, cap, cur, z, rfl, hg, hok, hnc, hcm, hfit, htk⟩ := hp
    have hgw := (res_pt hg).2
    by_cases hroom : n + m ≤ cap
    · have hcl : cur.toList.length = cur.size := Array.length_toList
      have hfit2 : n + news.length ≤ cur.toList.length := by omega
      have hr := run_append_room_src (P := P) w t tx o.type e i hst hi1 g 0 n cap v2 m news hS hroom (fun j hj => by
          rw [hi4]
          have h2 : n + j < cur.size := by omega
          simp [World.cell?, hgw, h2]) (fun j hj => by
          rw [hi4]
          simp only [World.frozen?, hgw]; exact okZ_frz hok (by omega))
      rw [hi4] at hr
      rw [show 0 + n * 1 = n by omega] at hr
      obtain ⟨h3, h4⟩ := setCells_heapZ g news n w cur.toList (by simpa using hgw) hfit2
      refine ⟨_, _, hr, ?_⟩
      have hk0 := World.keptBut_setCells g (may := fun _ => True) news n w (fun _ _ => trivial)
      refine hw2.upd .here (fun S' hp' => ?_) hk0.1 ?_ hk0.2.1
      · have hSg : S' g := by
          obtain ⟨_, g', cap', cur', z', e1, hg', _⟩ := hp'
          cases e1; exact (res_pt hg').1
        refine ⟨⟨hlen, g, cap, (cur.toList.take n ++ news ++ cur.toList.drop (n + news.length)).toArray, z, rfl, ?_, ?_, hroom, hcm, ?_, ?_⟩, fun k hlt hk => h4 k (fun e => hk (e ▸ hSg))⟩
        · rw [res_in (.inl hSg)]; exact h3
        · rcases hok with h | h
          · exact .inl h
          · right; simp only [List.size_toArray, List.length_append, List.length_take, List.length_drop] at hfit2 ⊢; omega
        · simp only [List.size_toArray, List.length_append, List.length_take, List.length_drop] at hfit2 ⊢; omega
        · rw [htk, ← hlen]
          exact List.take_left
      · have : ∀ (vs : List Value) (o : Nat) (w : World), (w.setCells g o vs).tape = w.tape := by
          intro vs
          induction vs with
          | nil => intro o w; rfl
          | cons v vs ih => intro o w; exact (ih _ _).trans rfl
        exact this _ _ _
    · have hgd : w.drew.heap[g]? = some (.cells cur e z) := hgw
      have hold : (Builtin.firstCells i.size n (.slice (some ⟨g, 0, none⟩) n cap)).run P w.drew = .ok xs.toArray w.drew := by
        refine run_firstCells_some w.drew i.size n _ _ _ xs (by rw [hi4, ← htk, List.length_take, Array.length_toList]; omega) (fun j u hj => ?_)
        rw [Addr.add_lit, Nat.zero_add]
        rw [← htk, List.getElem?_take] at hj
        split at hj
        · rw [Array.getElem?_toList] at hj
          simp [World.cell?, hgd, hj]
        · cases hj
      have hr := run_append_grow_src (P := P) w t tx o.type e i zv hst hi1 hi2 (some ⟨g, 0, none⟩) n cap xs hold v2 m news hS (by omega) (by omega) (growslice_fits (by omega) (by rw [hi5]; exact hb.1))
      exact ⟨_, _, hr, grown cap (by omega) _ rfl⟩
  obtain ⟨u, w', h1, h2⟩ := hrun
  have hrun : (execOp a.eval o).run P w = .ok (.value u) w' := by
    unfold execOp; rw [ho]
    simp [resolve, invoke, builtin, hf.ev hx, hf.ev hy, h1]
  unfold Oper.wp; rw [hrun]
  exact hk _ _ _ rfl h2
/-- string to bytes -/
def strB (P : Program) (S T : TypeId) : Option TypeId := match P.underlying S, P.underlying T with
  | some .string, some (.slice e) => match P.underlying e with | some (.int .u8) => some e | _ => none
  | _, _ => none
theorem strB_spec {S T e : TypeId} (h : strB P S T = some e) : P.underlying S = some .string ∧ P.underlying T = some (.slice e) ∧ P.underlying e = some (.int .u8) := by
  unfold strB at h
  split at h
  · rename_i e' h1 h2
    split at h
    · rename_i h3; cases h; exact ⟨h1, h2, h3⟩
    · cases h
  · cases h
theorem e_s2b {x : Operand} {S T e : TypeId} {l : List UInt8} (ho : o.op = .convert S T x) (hx : ev L x = some (str l)) (hT : strB P S T = some e) (hl : l.length ≤ 1000000000) : EOp P L H o (fun u H' => H' = ownM e u l.length (l.map u8v) :: H) := by
  intro N D a w w0 K Q hf hw hk
  obtain ⟨h1, h2, h3⟩ := strB_spec hT
  have hr := run_bytes_of_string (P := P) w S T e ⟨l.toArray⟩ h1 h2 h3
  have hsz : (⟨l.toArray⟩ : ByteArray).size = l.length := by simp [ByteArray.size]
  rw [hsz] at hr
  generalize hC : bytesRow ⟨l.toArray⟩ (grownCap w l.length 0 e) = C at hr
  have hrun : (execOp a.eval o).run P w = .ok (.value (.slice (some ⟨w.heap.size, 0, none⟩) l.length (grownCap w l.length 0 e))) (w.drew.alloc (.cells C e (C.size, C.size + 1))) := by
    unfold execOp; rw [ho]
    simp only [hf.ev hx, str, Sem.run_bind, hr]; rfl
  have hge := grownCap_ge w l.length 0 e
  have hcm : grownCap w l.length 0 e ≤ maxLen := grownCap_le_maxLen w l.length 0 e (by unfold maxLen; omega)
  have hCs : C.size = grownCap w l.length 0 e := by
    rw [← hC]; simp [bytesRow, ByteArray.size]; omega
  have hCt : C.toList.take l.length = l.map u8v := by
    rw [← hC]; unfold bytesRow
    rw [Array.toList_append, List.take_append_of_le_length (by simp)]
    simp only [Array.toList_map]
    rw [List.take_of_length_le (by simp)]
    rfl
  unfold Oper.wp; rw [hrun]
  refine hk _ _ _ rfl ?_
  have hw1 : WS w0 H w.drew := hw.heapEq rfl rfl rfl rfl
  have hw2 := hw1.alloc (.cells C e (C.size, C.size + 1))
  exact hw2.imp fun h hh => ⟨by simp, _, _, C, _, rfl, hh, .inr (Nat.le_refl _), hge, hcm, hCs, hCt⟩
theorem r_b2sZ {x : Operand} {S T e b c U : Nat} {z : Nat × Nat} {l : List UInt8} {cur : List Value} (ho : o.op = .convert S T x) (hx : ev L x = some (.slice (some ⟨b, 0, none⟩) l.length c)) (hT : bytesT P S T = some e) (hm : Mem (celZ b U z cur) H) (hc : cur.take l.length = l.map u8v) : ROp P L H o (str l) := by
  intro N D a w w0 hf hw
  obtain ⟨h1, h2, h3⟩ := bytesT_spec hT
  have hl : (loadCells ⟨b, 0, none⟩ l.length).run P w = .ok (l.map u8v).toArray w := by
    have := run_loadCells_list (P := P) w ⟨b, 0, none⟩ (l.map u8v) (fun j v hj => by
      rw [Addr.add_lit, Nat.zero_add]
      refine cell_celZ hw hm ?_
      rw [nth_eq]
      rw [← hc, List.getElem?_take] at hj
      split at hj
      · exact hj
      · cases hj)
    rw [List.length_map] at this; exact this
  have hrun := run_bytesToString (P := P) w ⟨b, 0, none⟩ l.length c (l.map fun c => ((c.toNat : Nat) : Int)) (by rw [hl]; simp [u8v, Function.comp_def])
  rw [foldl_push_bytes] at hrun
  unfold execOp; rw [ho]
  simp only [hf.ev hx, Sem.run_bind]
  have hc : (convert S T (.slice (some ⟨b, 0, none⟩) l.length c)).run P w = .ok (str l) w := by
    simp [convert, run_underlying h1, run_underlying h2, run_underlying h3, hrun, str]
  rw [hc]; rfl
/-- s[l:l+m] -/
theorem q_slsl_lh {x y y2 : Operand} {t e sz len cap b off l m : Nat} {k k' : IntKind} (ho : o.op = .slice t x (some y) (some y2) none) (hx : ev L x = some (.slice (some ⟨b, off, none⟩) len cap)) (hy : ev L y = some (.int k (l : Int))) (hy2 : ev L y2 = some (.int k' ((l + m : Nat) : Int))) (hs : sliceE P t = some e) (hz : sizeB P e = some sz) (h : l ≤ len ∧ l + m ≤ cap ∧ l < cap) : QOp P L o (.slice (some ⟨b, off + l * sz, none⟩) m (cap - l)) := by
  intro N D ac w hf
  unfold execOp; rw [ho]
  have := sliced_run (ad := some ⟨b, off, none⟩) (len := len) (lo := l) (hi := l + m) (cap := cap) hs hz (some (.int k l)) (some (.int k' ((l + m : Nat) : Int))) w ⟨k, rfl⟩ ⟨k', rfl⟩ (Nat.le_add_right _ _) h.2.1 h.1
  simp only [hf.ev hx, hf.ev hy, hf.ev hy2, Option.map_none, Option.map_some, Sem.run_bind] at this ⊢
  rw [this, if_neg (by omega), Nat.add_sub_cancel_left]
  simp [Addr.add_lit]
end
section
variable {P : Program} {w0 : World} {N : Nat} {Q : Exit → Act → World → Prop} {D : List Deferred} {L : List (Nat × Value)} {H H1 : List HP}
theorem WS.openM {w : World} {T n : Nat} {v : Value} {xs : List Value} (h : WS w0 (ownM T v n xs :: H) w) :
    ∃ g cap cur z, v = .slice (some ⟨g, 0, none⟩) n cap ∧ xs.length = n ∧ okZ z cur.length ∧ n ≤ cap ∧ cap ≤ maxLen ∧ cur.length = cap ∧ cur.take n = xs ∧ WS w0 (celZ g T z cur :: H) w := by
  obtain ⟨S, h1, h2⟩ := star_cons.1 h.sat
  obtain ⟨hx, g, cap, cur, z, rfl, hg, hok, hc1, hc2, hc3, hc4⟩ := h1
  refine ⟨g, cap, cur.toList, z, rfl, hx, by simpa using hok, hc1, hc2, by simpa using hc3, hc4, star_cons.2 ⟨S, ?_, h2⟩, h.os, h.tape, h.output⟩
  simpa [celZ, Eng.pt] using hg
theorem CG.openM {c : Code} {T n : Nat} {v : Value} {xs : List Value} (ht : Take H (ownM T v n xs) H1)
    (k : ∀ g cap cur z, v = .slice (some ⟨g, 0, none⟩) n cap → xs.length = n → okZ z cur.length → n ≤ cap → cap ≤ maxLen → cur.length = cap → cur.take n = xs → CG P w0 N c Q D L (celZ g T z cur :: H1)) : CG P w0 N c Q D L H := by
  intro a w hf hw
  obtain ⟨g, cap, cur, z, h1, h2, h3, h4, h5, h6, h7, h8⟩ := (hw.take1 ht).openM
  exact k g cap cur z h1 h2 h3 h4 h5 h6 h7 a w hf h8
theorem ownM_shape {T n : Nat} {v : Value} {xs : List Value} {h : Hp} (hh : ownM T v n xs h) : xs.length = n ∧ n ≤ maxLen ∧ ∃ ad c, v = .slice ad n c ∧ n ≤ c := by
  obtain ⟨h1, g, cap, cur, z, rfl, h4, h5, h6, h7, h8, h9⟩ := hh
  exact ⟨h1, by omega, _, _, rfl, h6⟩
end
end Go.Eng
/-
  The reference (ref02.words).
-/
set_option linter.unusedVariables false
set_option linter.unusedSimpArgs false
namespace Go.Eng
open Go.Proofs
theorem ag_5_F30 : aggB Tryd.prog 5 = some false := by kernel_rfl
theorem bs_77_0_all_F30 : ∀ (w : World), (Instr.buildSlice 77 0 [].toArray).run Tryd.prog w = .ok (.slice (some ⟨w.heap.size, 0, none⟩) 0 0) { w with heap := w.heap.push (.cells [].toArray 32) } := fun _ => by kernel_rfl
theorem bs_77_1_all_F30 : ∀ (x0 : Int) (w : World), (Instr.buildSlice 77 1 [(0, .int .u32 x0)].toArray).run Tryd.prog w = .ok (.slice (some ⟨w.heap.size, 0, none⟩) 1 1) { w with heap := w.heap.push (.cells [.int .u32 x0].toArray 32) } := fun _ _ => by kernel_rfl
theorem ik_32_F30 : intK Tryd.prog 32 = some .u32 := by kernel_rfl
theorem is_5_F30 : (Tryd.prog.underlying 5).isSome = true := by kernel_rfl
theorem nf_32_F30 : infoB Tryd.prog 32 = some (some [.int .u32 0], 1, 4) := by kernel_rfl
theorem se_39_F30 : sliceE Tryd.prog 39 = some 5 := by kernel_rfl
theorem se_77_F30 : sliceE Tryd.prog 77 = some 32 := by kernel_rfl
theorem sz_5_F30 : sizeB Tryd.prog 5 = some 1 := by kernel_rfl

theorem words_snoc (p : List UInt8) (k : Nat) : ((List.range k).map (Sha.word p)).map u32v ++ [.int .u32 (((p.getD (4 * k) 0).toNat : Int) * 16777216 + (p.getD (4 * k + 1) 0).toNat * 65536 + (p.getD (4 * k + 2) 0).toNat * 256 + (p.getD (4 * k + 3) 0).toNat)] = ((List.range (k + 1)).map (Sha.word p)).map u32v := by
  rw [List.range_succ, List.map_append, List.map_append]; rfl

attribute [local irreducible] cel celZ own exS Sha.word

set_option maxRecDepth 100000 in
set_option maxHeartbeats 1000000 in
theorem words_spec (g off c : Nat) (z : Nat × Nat) (cur : List Value) (p : List UInt8) (hp : p.length = 64) (hc : ∀ (i : Nat) (x : UInt8), p[i]? = some x → nth cur (off + i * 1) = some (u8v x)) : Spec Tryd.prog 49 #[.slice (some ⟨g, off, none⟩) 64 c] [celZ g 5 z cur] (Ret fun v hl => hl = [celZ g 5 z cur, own 32 1 v 16 (((List.range 16).map (Sha.word p)).map u32v)]) := by
 refine Spec.enter Tryd.func49 rfl rfl rfl (fun F w0 => ?_)
 dsimp only [argL, List.cons_append, List.nil_append]
 refine CG.sr ?_
 refine G.as ?_
 refine G.nil ?_
 refine EN.tsr ?_
 refine G.e rfl rfl rfl rfl (e_bslice rfl rfl (bs_77_0_all_F30)) (fun _ _ _ _ _ _ => trivial) ?_
 rintro _ _ ⟨b5, rfl, rfl⟩
 refine G.as ?_
 refine G.nil ?_
 refine EN.ts ?_
 refine CG.sr ?_
 refine G.as ?_
 refine G.nil ?_
 refine EN.then ?_
 refine CG.block ?_
 refine CG.closeOwn (g := b5) (sz := 1) (n := 0) (cap := 0) (xs := []) tK1 (by decide) (by decide) rfl rfl ?_
 refine CG.loopI (fun n L H => ∃ (k : Nat) (v : Value), k ≤ 16 ∧ n = 16 - k ∧ L = [(0, .slice (some ⟨g, off, none⟩) 64 c), (3, v), (4, .int .i64 ((4 * k : Nat) : Int))] ∧ H = [celZ g 5 z cur, own 32 1 v k (((List.range k).map (Sha.word p)).map u32v)] ++ F) (16 - 0) (hl := [_, _]) (⟨0, _, Nat.zero_le _, rfl, rfl, rfl⟩) sB rfl tK sF ?_
 rintro n L H ⟨k, v, hk, rfl, rfl, rfl⟩
 try dsimp only [List.cons_append, List.nil_append]
 refine CG.seq ?_
 refine CG.sr ?_
 refine G.mv ?_
 refine G.q rfl rfl rfl rfl (q_lss rfl rfl rfl) ?_
 refine G.nil ?_
 refine EN.then ?_
 refine CG.cond rfl (fun h7 => ?_) (fun h7 => ?_)
 ·
  have g0 := hc (4 * k + 0) _ (getD_u8 (S := p) (i := 4 * k + 0) oM)
  have l0 := u8_lt (p.getD (4 * k + 0) 0)
  have g1 := hc (4 * k + 1) _ (getD_u8 (S := p) (i := 4 * k + 1) oM)
  have l1 := u8_lt (p.getD (4 * k + 1) 0)
  have g2 := hc (4 * k + 2) _ (getD_u8 (S := p) (i := 4 * k + 2) oM)
  have l2 := u8_lt (p.getD (4 * k + 2) 0)
  have g3 := hc (4 * k + 3) _ (getD_u8 (S := p) (i := 4 * k + 3) oM)
  have l3 := u8_lt (p.getD (4 * k + 3) 0)
  refine CG.skip ?_
  refine EN.ts ?_
  refine CG.block ?_
  refine CG.regC [15, 22, 30, 38, 14, 21, 29, 37] (Keeps _ [celZ g 5 z cur]) mixed (by kernel_rfl) (fun w hw => Keeps.of hw tK) ?_
  refine G.mv ?_
  refine G.mv ?_
  refine G.mv ?_
  rw [show ((4 * k : Nat) : Int) = ((4 * k + 0 : Nat) : Int) by omega]
  first | refine G.q rfl rfl rfl rfl (q_ixaddr1 rfl rfl rfl se_39_F30 sz_5_F30 (show 4 * k + 0 < 64 by omega)) ?_ | refine G.q rfl rfl rfl rfl (q_ixaddr rfl rfl rfl se_39_F30 sz_5_F30 (show 4 * k + 0 < 64 by omega)) ?_
  refine G.rK rfl rfl rfl rfl rfl (fun R => r_loadZ rfl rfl ag_5_F30 mB (g0)) ?_
  first | refine G.q rfl rfl rfl rfl (q_conv_in rfl rfl is_5_F30 ik_32_F30 (wrapu_in (b := 32) rfl rfl oM)) ?_ | refine G.q rfl rfl rfl rfl (q_conv rfl rfl is_5_F30 ik_32_F30) ?_
  first | refine G.q rfl rfl rfl rfl (q_mulw rfl rfl rfl lOm lOm) ?_ | refine G.q rfl rfl rfl rfl (q_mul rfl rfl rfl) ?_
  refine G.mv ?_
  refine G.mv ?_
  first | refine G.q rfl rfl rfl rfl (q_add_i rfl rfl rfl oM) ?_ | refine G.q rfl rfl rfl rfl (q_add rfl rfl rfl) ?_
  rw [show ((4 * k + 0 : Nat) : Int) + 1 = ((4 * k + 1 : Nat) : Int) by omega]
  first | refine G.q rfl rfl rfl rfl (q_ixaddr1 rfl rfl rfl se_39_F30 sz_5_F30 (show 4 * k + 1 < 64 by omega)) ?_ | refine G.q rfl rfl rfl rfl (q_ixaddr rfl rfl rfl se_39_F30 sz_5_F30 (show 4 * k + 1 < 64 by omega)) ?_
  refine G.rK rfl rfl rfl rfl rfl (fun R => r_loadZ rfl rfl ag_5_F30 mB (g1)) ?_
  first | refine G.q rfl rfl rfl rfl (q_conv_in rfl rfl is_5_F30 ik_32_F30 (wrapu_in (b := 32) rfl rfl oM)) ?_ | refine G.q rfl rfl rfl rfl (q_conv rfl rfl is_5_F30 ik_32_F30) ?_
  first | refine G.q rfl rfl rfl rfl (q_mulw rfl rfl rfl lOm lOm) ?_ | refine G.q rfl rfl rfl rfl (q_mul rfl rfl rfl) ?_
  first | refine G.q rfl rfl rfl rfl (q_addw rfl rfl rfl lOm lOm) ?_ | refine G.q rfl rfl rfl rfl (q_add rfl rfl rfl) ?_
  refine G.mv ?_
  refine G.mv ?_
  first | refine G.q rfl rfl rfl rfl (q_add_i rfl rfl rfl oM) ?_ | refine G.q rfl rfl rfl rfl (q_add rfl rfl rfl) ?_
  rw [show ((4 * k + 0 : Nat) : Int) + 2 = ((4 * k + 2 : Nat) : Int) by omega]
  first | refine G.q rfl rfl rfl rfl (q_ixaddr1 rfl rfl rfl se_39_F30 sz_5_F30 (show 4 * k + 2 < 64 by omega)) ?_ | refine G.q rfl rfl rfl rfl (q_ixaddr rfl rfl rfl se_39_F30 sz_5_F30 (show 4 * k + 2 < 64 by omega)) ?_
  refine G.rK rfl rfl rfl rfl rfl (fun R => r_loadZ rfl rfl ag_5_F30 mB (g2)) ?_
  first | refine G.q rfl rfl rfl rfl (q_conv_in rfl rfl is_5_F30 ik_32_F30 (wrapu_in (b := 32) rfl rfl oM)) ?_ | refine G.q rfl rfl rfl rfl (q_conv rfl rfl is_5_F30 ik_32_F30) ?_
  first | refine G.q rfl rfl rfl rfl (q_mulw rfl rfl rfl lOm lOm) ?_ | refine G.q rfl rfl rfl rfl (q_mul rfl rfl rfl) ?_
  first | refine G.q rfl rfl rfl rfl (q_addw rfl rfl rfl lOm lOm) ?_ | refine G.q rfl rfl rfl rfl (q_add rfl rfl rfl) ?_
  refine G.mv ?_
  refine G.mv ?_
  first | refine G.q rfl rfl rfl rfl (q_add_i rfl rfl rfl oM) ?_ | refine G.q rfl rfl rfl rfl (q_add rfl rfl rfl) ?_
  rw [show ((4 * k + 0 : Nat) : Int) + 3 = ((4 * k + 3 : Nat) : Int) by omega]
  first | refine G.q rfl rfl rfl rfl (q_ixaddr1 rfl rfl rfl se_39_F30 sz_5_F30 (show 4 * k + 3 < 64 by omega)) ?_ | refine G.q rfl rfl rfl rfl (q_ixaddr rfl rfl rfl se_39_F30 sz_5_F30 (show 4 * k + 3 < 64 by omega)) ?_
  refine G.rK rfl rfl rfl rfl rfl (fun R => r_loadZ rfl rfl ag_5_F30 mB (g3)) ?_
  first | refine G.q rfl rfl rfl rfl (q_conv_in rfl rfl is_5_F30 ik_32_F30 (wrapu_in (b := 32) rfl rfl oM)) ?_ | refine G.q rfl rfl rfl rfl (q_conv rfl rfl is_5_F30 ik_32_F30) ?_
  first | refine G.q rfl rfl rfl rfl (q_addw rfl rfl rfl lOm lOm) ?_ | refine G.q rfl rfl rfl rfl (q_add rfl rfl rfl) ?_
  refine G.e rfl rfl rfl rfl (e_bslice rfl rfl (bs_77_1_all_F30 _)) (fun _ _ _ w hR hw => by obtain ⟨_, _, rfl⟩ := hR; exact Keeps.of hw tK) ?_
  rintro _ _ ⟨b40, rfl, rfl⟩
  refine G.e rfl rfl rfl rfl (e_append rfl rfl rfl se_77_F30 nf_32_F30 rfl tK1 mB (by rfl) (by simp [Value.oneCell', str]) oM) (fun _ _ _ w hR hw => by subst hR; exact Keeps.of hw tK) ?_
  rintro _ _ rfl
  rw [show 4 * k + 0 = 4 * k from rfl, words_snoc]
  refine G.as ?_
  refine G.nil ?_
  refine EN.sub (sC 0 (sC 3 (sC 4 Sub.nil))) ?_
  refine EN.in_normal ?_
  refine EN.tr ?_
  refine G.mv ?_
  first | refine G.q rfl rfl rfl rfl (q_add_i rfl rfl rfl oM) ?_ | refine G.q rfl rfl rfl rfl (q_add rfl rfl rfl) ?_
  refine G.as ?_
  refine G.nil ?_
  rw [show ((4 * k : Nat) : Int) + 4 = ((4 * (k + 1) : Nat) : Int) by omega]
  exact EN.round (hl := [_, _]) (16 - (k + 1)) oM (⟨k + 1, _, by omega, rfl, rfl, rfl⟩) sB rfl tK sF
 ·
  obtain rfl : k = 16 := by omega
  refine CG.exit ?_
  refine EN.then_exit ?_
  refine EN.then_exit ?_
  refine EN.in_here ?_
  refine EN.tsr ?_
  refine G.mv ?_
  refine G.as ?_
  refine G.nil ?_
  refine EN.then ?_
  refine CG.ret ?_
  exact fin_ret1 rfl rfl tK sF (rfl) _ (.inl rfl)

end Go.Eng
/-
  The reference (ref02.out).
-/
set_option linter.unusedVariables false
set_option linter.unusedSimpArgs false
namespace Go.Eng
open Go.Proofs
theorem ag_32_F31 : aggB Tryd.prog 32 = some false := by kernel_rfl
theorem bT_39_9_F31 : bytesT Tryd.prog 39 9 = some 5 := by kernel_rfl
theorem bs_39_0_all_F31 : ∀ (w : World), (Instr.buildSlice 39 0 [].toArray).run Tryd.prog w = .ok (.slice (some ⟨w.heap.size, 0, none⟩) 0 0) { w with heap := w.heap.push (.cells [].toArray 5) } := fun _ => by kernel_rfl
theorem bs_39_4_all_F31 : ∀ (x0 : Int) (x1 : Int) (x2 : Int) (x3 : Int) (w : World), (Instr.buildSlice 39 4 [(0, .int .u8 x0), (1, .int .u8 x1), (2, .int .u8 x2), (3, .int .u8 x3)].toArray).run Tryd.prog w = .ok (.slice (some ⟨w.heap.size, 0, none⟩) 4 4) { w with heap := w.heap.push (.cells [.int .u8 x0, .int .u8 x1, .int .u8 x2, .int .u8 x3].toArray 5) } := fun _ _ _ _ _ => by kernel_rfl
theorem ik_5_F31 : intK Tryd.prog 5 = some .u8 := by kernel_rfl
theorem is_32_F31 : (Tryd.prog.underlying 32).isSome = true := by kernel_rfl
theorem nf_5_F31 : infoB Tryd.prog 5 = some (some [.int .u8 0], 1, 1) := by kernel_rfl
theorem se_39_F31 : sliceE Tryd.prog 39 = some 5 := by kernel_rfl
theorem se_77_F31 : sliceE Tryd.prog 77 = some 32 := by kernel_rfl
theorem sz_32_F31 : sizeB Tryd.prog 32 = some 1 := by kernel_rfl

attribute [local irreducible] cel own exS Sha.word

set_option maxRecDepth 100000 in
set_option maxHeartbeats 1000000 in
theorem out_spec (v0 : Value) (h2 : Sha.S5) : Spec Tryd.prog 51 #[v0] [own 32 1 v0 5 ((Sha.wordsL h2).map u32v)] (Ret fun v hl => v = str (Sha.outB h2) ∧ hl = []) := by
 refine Spec.enter Tryd.func51 rfl rfl rfl (fun F w0 => ?_)
 dsimp only [argL, List.cons_append, List.nil_append]
 refine CG.sr ?_
 refine G.as ?_
 refine G.nil ?_
 refine EN.ts ?_
 refine CG.openOwn (v := v0) tK1 oM (fun g2 cap2 cur2 hv2 hcap2 hmx2 hcl2 hct2 => ?_)
 subst hv2
 refine CG.reg ?_
 refine G.e rfl rfl rfl rfl (e_bslice rfl rfl (bs_39_0_all_F31)) (fun _ _ _ _ _ _ => trivial) ?_
 rintro _ _ ⟨b6, rfl, rfl⟩
 refine G.as ?_
 refine G.nil ?_
 refine EN.ts ?_
 refine CG.sr ?_
 refine G.mv ?_
 refine G.q rfl rfl rfl rfl (q_len_sl rfl rfl se_77_F31) ?_
 refine G.mv ?_
 refine G.nil ?_
 refine EN.then ?_
 refine CG.block ?_
 refine CG.closeOwn (g := b6) (sz := 1) (n := 0) (cap := 0) (xs := []) tK1 (by decide) (by decide) rfl rfl ?_
 refine CG.loopI (fun m L H => ∃ k : Nat, ∃ (w : Value), k ≤ 5 ∧ m = (5) - k ∧ L = [(3, w), (7, .slice (some ⟨g2, 0, none⟩) 5 cap2), (8, .int .i64 (5 : Nat)), (9, .int .i64 k)] ∧ H = [own 5 1 w (((Sha.wordsL h2).take k).flatMap Sha.outW).length ((((Sha.wordsL h2).take k).flatMap Sha.outW).map u8v), cel g2 32 cur2] ++ F) ((5) - 0) (hl := [_, _]) (⟨0, _, Nat.zero_le _, rfl, rfl, rfl⟩) sB rfl tK sF ?_
 rintro m L H ⟨k, w, hk, rfl, rfl, rfl⟩
 try dsimp only [List.cons_append, List.nil_append]
 refine CG.sr ?_
 refine G.q rfl rfl rfl rfl (q_lss rfl rfl rfl) ?_
 refine G.nil ?_
 refine EN.ts ?_
 refine CG.cond rfl (fun h10 => ?_) (fun h10 => ?_)
 ·
  obtain ⟨x, hx⟩ := get_some (l := Sha.wordsL h2) (k := k) (by simp [Sha.wordsL]; omega)
  have hs := take_snoc hx
  have hwl : (((Sha.wordsL h2).take k).flatMap Sha.outW).length = 4 * k := by
    rw [outW_len]; simp [Sha.wordsL]; omega
  have hcell : nth cur2 k = some (.int .u32 x) := nth_take hct2 (by rw [List.getElem?_map, hx]; rfl)
  refine CG.skip ?_
  refine EN.ts ?_
  refine CG.block ?_
  refine CG.sr ?_
  first | refine G.q rfl rfl rfl rfl (q_ixaddr1 rfl rfl rfl se_77_F31 sz_32_F31 (show k < 5 by omega)) ?_ | refine G.q rfl rfl rfl rfl (q_ixaddr rfl rfl rfl se_77_F31 sz_32_F31 (show k < 5 by omega)) ?_
  first | refine G.r rfl rfl rfl rfl (r_load rfl rfl ag_32_F31 .here (hcell)) ?_ | refine G.r rfl rfl rfl rfl (r_load rfl rfl ag_32_F31 (.there .here) (hcell)) ?_ | refine G.r rfl rfl rfl rfl (r_load rfl rfl ag_32_F31 (.there (.there .here)) (hcell)) ?_ | refine G.r rfl rfl rfl rfl (r_load rfl rfl ag_32_F31 (.there (.there (.there .here))) (hcell)) ?_ | refine G.r rfl rfl rfl rfl (r_load rfl rfl ag_32_F31 (.there (.there (.there (.there .here)))) (hcell)) ?_
  refine G.as ?_
  refine G.nil ?_
  refine EN.tr ?_
  refine G.mv ?_
  refine G.mv ?_
  refine G.q rfl rfl rfl rfl (q_shrc (d := 16777216) rfl rfl rfl (by decide) (by decide)) ?_
  refine G.q rfl rfl rfl rfl (q_conv_u8 rfl rfl is_32_F31 ik_5_F31) ?_
  refine G.mv ?_
  refine G.q rfl rfl rfl rfl (q_shrc (d := 65536) rfl rfl rfl (by decide) (by decide)) ?_
  refine G.q rfl rfl rfl rfl (q_conv_u8 rfl rfl is_32_F31 ik_5_F31) ?_
  refine G.mv ?_
  refine G.q rfl rfl rfl rfl (q_shrc (d := 256) rfl rfl rfl (by decide) (by decide)) ?_
  refine G.q rfl rfl rfl rfl (q_conv_u8 rfl rfl is_32_F31 ik_5_F31) ?_
  refine G.mv ?_
  refine G.q rfl rfl rfl rfl (q_conv_u8 rfl rfl is_32_F31 ik_5_F31) ?_
  refine G.e rfl rfl rfl rfl (e_bslice rfl rfl (bs_39_4_all_F31 _ _ _ _)) (fun _ _ _ _ _ _ => trivial) ?_
  rintro _ _ ⟨b25, rfl, rfl⟩
  refine G.e rfl rfl rfl rfl (e_append rfl rfl rfl se_39_F31 nf_5_F31 rfl tK1 mB (by rfl) (by simp [Value.oneCell', str]) oM) (fun _ _ _ _ _ _ => trivial) ?_
  rintro _ _ rfl
  rw [own_outW, ← hs]
  refine G.as ?_
  refine G.nil ?_
  refine EN.sub (sC 3 (sC 7 (sC 8 (sC 9 Sub.nil)))) ?_
  refine EN.in_normal ?_
  refine EN.tr ?_
  first | refine G.q rfl rfl rfl rfl (q_add_i rfl rfl rfl oM) ?_ | refine G.q rfl rfl rfl rfl (q_add rfl rfl rfl) ?_
  refine G.mv ?_
  refine G.nil ?_
  exact EN.round (hl := [_, _]) ((5) - (k + 1)) oM (⟨k + 1, _, by omega, rfl, rfl, rfl⟩) sB rfl tK sF
 ·
  obtain rfl : k = 5 := by omega
  refine CG.exit ?_
  refine EN.then_exit ?_
  refine EN.then_exit ?_
  refine EN.in_here ?_
  refine EN.tsr ?_
  refine G.mv ?_
  refine G.r rfl rfl rfl rfl (r_b2s rfl rfl bT_39_9_F31 mB) ?_
  refine G.as ?_
  refine G.nil ?_
  refine EN.then ?_
  refine CG.ret ?_
  exact fin_ret1 rfl rfl tK sF (⟨rfl, rfl⟩) _ (.inl rfl)

end Go.Eng
/-
  The reference (ref02.Pad).
-/
set_option linter.unusedVariables false
set_option linter.unusedSimpArgs false
namespace Go.Eng
open Go.Proofs
theorem bs_39_1_all_F32 : ∀ (x0 : Int) (w : World), (Instr.buildSlice 39 1 [(0, .int .u8 x0)].toArray).run Tryd.prog w = .ok (.slice (some ⟨w.heap.size, 0, none⟩) 1 1) { w with heap := w.heap.push (.cells [.int .u8 x0].toArray 5) } := fun _ _ => by kernel_rfl
theorem ik_51_F32 : intK Tryd.prog 51 = some .u64 := by kernel_rfl
theorem ik_5_F32 : intK Tryd.prog 5 = some .u8 := by kernel_rfl
theorem is_3_F32 : (Tryd.prog.underlying 3).isSome = true := by kernel_rfl
theorem is_51_F32 : (Tryd.prog.underlying 51).isSome = true := by kernel_rfl
theorem nf_5_F32 : infoB Tryd.prog 5 = some (some [.int .u8 0], 1, 1) := by kernel_rfl
theorem sB_9_39_F32 : strB Tryd.prog 9 39 = some 5 := by kernel_rfl
theorem se_39_F32 : sliceE Tryd.prog 39 = some 5 := by kernel_rfl
theorem us_9_F32 : Tryd.prog.underlying 9 = some .string := by kernel_rfl

theorem G.factM {E : Env} {D : List Deferred} {l : List Oper} {L : List (Nat × Value)} {H H1 : List HP} {T n : Nat} {v : Value} {xs : List Value} (ht : Take H (ownM T v n xs) H1) (k : ∀ ad c, v = .slice ad n c → G E D l L H) : G E D l L H :=
  G.fact (α := ∃ ad c, v = .slice ad n c) ht (fun _ hh => by obtain ⟨_, _, ad, c, h, _⟩ := ownM_shape hh; exact ⟨ad, c, h⟩) (fun ⟨ad, c, h⟩ => k ad c h)
theorem CG.factM {P : Program} {w0 : World} {N : Nat} {Q : Exit → Act → World → Prop} {D : List Deferred} {l : Code} {L : List (Nat × Value)} {H H1 : List HP} {T n : Nat} {v : Value} {xs : List Value} (ht : Take H (ownM T v n xs) H1) (k : ∀ ad c, v = .slice ad n c → CG P w0 N l Q D L H) : CG P w0 N l Q D L H :=
  CG.fact (α := ∃ ad c, v = .slice ad n c) ht (fun _ hh => by obtain ⟨_, _, ad, c, h, _⟩ := ownM_shape hh; exact ⟨ad, c, h⟩) (fun ⟨ad, c, h⟩ => k ad c h)
theorem ownM_app {e n m : Nat} {u : Value} {l r : List UInt8} (h : (l ++ r).length = n + m) : ownM e u (n + m) (l.map u8v ++ r.map u8v) = ownM e u (l ++ r).length ((l ++ r).map u8v) := by rw [h, List.map_append]
theorem rep_snoc (j : Nat) : (128 : UInt8) :: List.replicate j 0 ++ [0] = 128 :: List.replicate (j + 1) 0 := by rw [List.replicate_succ']; rfl
theorem lenB_snoc (n : Int) (k : Nat) : Sha.lenB n k ++ [u8i (IntKind.u64.wrap (n * 8) / 2 ^ (56 - 8 * k))] = Sha.lenB n (k + 1) := by
  unfold Sha.lenB; rw [Sums.range_take]

attribute [local irreducible] cel celZ own ownM exS Sha.word Sha.lenB

set_option maxRecDepth 100000 in
set_option maxHeartbeats 1000000 in
theorem pad_spec (t : List UInt8) (ht : t.length ≤ 100000000) : Spec Tryd.prog 48 #[str t] [] (Ret fun v hl => hl = [ownM 5 v (t ++ Sha.padded t.length (0 + (t.length : Int))).length ((t ++ Sha.padded t.length (0 + (t.length : Int))).map u8v)]) := by
 refine Spec.enter Tryd.func48 rfl rfl rfl (fun F w0 => ?_)
 dsimp only [argL, List.cons_append, List.nil_append]
 refine CG.sr ?_
 refine G.as ?_
 refine G.nil ?_
 refine EN.tsr ?_
 refine G.mv ?_
 refine G.e rfl rfl rfl rfl (e_s2b rfl rfl sB_9_39_F32 oM) (fun _ _ _ _ _ _ => trivial) ?_
 rintro _ _ rfl
 refine G.e rfl rfl rfl rfl (e_bslice rfl rfl (bs_39_1_all_F32 _)) (fun _ _ _ _ _ _ => trivial) ?_
 rintro _ _ ⟨b8, rfl, rfl⟩
 refine G.e rfl rfl rfl rfl (e_appendM rfl rfl rfl se_39_F32 nf_5_F32 rfl tK1 (src_one se_39_F32 mB rfl) (by decide) oM) (fun _ _ _ _ _ _ => trivial) ?_
 rintro _ _ rfl
 rw [show ([Value.int .u8 128] : List Value) = [(128 : UInt8)].map u8v from rfl, ownM_app (by simp)]
 refine G.factM tK1 (fun ad3 c3 e3 => ?_)
 subst e3
 refine G.as ?_
 refine G.nil ?_
 refine EN.ts ?_
 refine CG.block ?_
 refine CG.loopI (fun m L H => ∃ (j : Nat) (v : Value), j ≤ Sha.padN t.length ∧ m = Sha.padN t.length - j ∧ L = [(0, str t), (3, v)] ∧ H = [ownM 5 v (t ++ (128 :: List.replicate j 0)).length ((t ++ (128 :: List.replicate j 0)).map u8v)] ++ F) (Sha.padN t.length - 0) (hl := [_]) (⟨0, _, Nat.zero_le _, rfl, rfl, rfl⟩) sB rfl tK sF ?_
 rintro m L H ⟨j, v, hj, rfl, rfl, rfl⟩
 try dsimp only [List.cons_append, List.nil_append]
 refine CG.factM tK1 (fun ad c e => ?_)
 subst e
 have hpl : (t ++ (128 :: List.replicate j 0)).length = t.length + 1 + j := by simp; omega
 have hj64 : Sha.padN t.length ≤ 63 := by unfold Sha.padN; omega
 have hpd : (t.length + 1 + Sha.padN t.length) % 64 = 56 := by unfold Sha.padN; omega
 refine CG.seq ?_
 refine CG.sr ?_
 refine G.mv ?_
 refine G.q rfl rfl rfl rfl (q_len_sl rfl rfl se_39_F32) ?_
 rw [hpl]
 first | refine G.q rfl rfl rfl rfl (q_rem_n rfl rfl rfl oM) ?_ | refine G.q rfl rfl rfl rfl (q_rem rfl rfl rfl oM) ?_
 refine G.q rfl rfl rfl rfl (q_neq rfl rfl rfl) ?_
 refine G.nil ?_
 refine EN.then ?_
 refine CG.cond rfl (fun h13 => ?_) (fun h13 => ?_)
 ·
  have hj2 : j < Sha.padN t.length := by unfold Sha.padN at *; omega
  refine CG.skip ?_
  refine EN.then ?_
  refine CG.block ?_
  refine CG.reg ?_
  refine G.mv ?_
  refine G.e rfl rfl rfl rfl (e_bslice rfl rfl (bs_39_1_all_F32 _)) (fun _ _ _ _ _ _ => trivial) ?_
  rintro _ _ ⟨b15, rfl, rfl⟩
  refine G.e rfl rfl rfl rfl (e_appendM rfl rfl rfl se_39_F32 nf_5_F32 rfl tK1 (src_one se_39_F32 mB rfl) (by decide) oM) (fun _ _ _ _ _ _ => trivial) ?_
  rintro _ _ rfl
  rw [show ([Value.int .u8 0] : List Value) = [(0 : UInt8)].map u8v from rfl, ownM_app (by simp; omega), List.append_assoc t, rep_snoc]
  refine G.as ?_
  refine G.nil ?_
  refine EN.in_normal ?_
  exact EN.round (hl := [_]) (Sha.padN t.length - (j + 1)) oM (⟨j + 1, _, by omega, rfl, rfl, rfl⟩) sB rfl tK sF
 ·
  obtain rfl : j = Sha.padN t.length := by unfold Sha.padN at *; omega
  rw [← hpl, show t ++ 128 :: List.replicate (Sha.padN t.length) 0 = t ++ 128 :: List.replicate (Sha.padN t.length) 0 ++ Sha.lenB (0 + (t.length : Int)) 0 by unfold Sha.lenB; simp]
  refine CG.exit ?_
  refine EN.then_exit ?_
  refine EN.then_exit ?_
  refine EN.in_here ?_
  refine EN.tsr ?_
  refine G.mv ?_
  refine G.q rfl rfl rfl rfl (q_len_str rfl rfl us_9_F32) ?_
  first | refine G.q rfl rfl rfl rfl (q_conv_in rfl rfl is_3_F32 ik_51_F32 (wrapu_in (b := 64) rfl rfl oM)) ?_ | refine G.q rfl rfl rfl rfl (q_conv rfl rfl is_3_F32 ik_51_F32) ?_
  first | refine G.q rfl rfl rfl rfl (q_mulw rfl rfl rfl lOm lOm) ?_ | refine G.q rfl rfl rfl rfl (q_mul rfl rfl rfl) ?_
  refine G.as ?_
  refine G.nil ?_
  refine EN.sub (sC 3 (sC 4 Sub.nil)) ?_
  refine EN.ts ?_
  refine CG.seq ?_
  have hn8 : (t.length : Int) * 8 = IntKind.u64.wrap ((0 + (t.length : Int)) * 8) := by
   rw [Int.zero_add]; exact (wrap_lim oM lOm).symm
  rw [hn8]
  refine CG.reg ?_
  refine G.as ?_
  refine G.nil ?_
  refine EN.then ?_
  refine CG.block ?_
  refine CG.loopI (fun m L H => ∃ (k : Nat) (v : Value), k ≤ 8 ∧ m = 8 - k ∧ L = [(3, v), (4, .int .u64 (IntKind.u64.wrap ((0 + (t.length : Int)) * 8))), (5, .int .i64 (7 - (k : Int)))] ∧ H = [ownM 5 v (t ++ (128 :: List.replicate (Sha.padN t.length) 0) ++ Sha.lenB (0 + (t.length : Int)) k).length ((t ++ (128 :: List.replicate (Sha.padN t.length) 0) ++ Sha.lenB (0 + (t.length : Int)) k).map u8v)] ++ F) (8 - 0) (hl := [_]) (⟨0, _, Nat.zero_le _, rfl, rfl, rfl⟩) sB rfl tK sF ?_
  rintro m L H ⟨k, v, hk, rfl, rfl, rfl⟩
  try dsimp only [List.cons_append, List.nil_append]
  have hj64 : Sha.padN t.length ≤ 63 := by unfold Sha.padN; omega
  have hpl : (t ++ (128 :: List.replicate (Sha.padN t.length) 0) ++ Sha.lenB (0 + (t.length : Int)) k).length ≤ 200000000 := by simp [Sha.lenB]; omega
  refine CG.seq ?_
  refine CG.sr ?_
  refine G.mv ?_
  refine G.q rfl rfl rfl rfl (q_geq rfl rfl rfl) ?_
  refine G.nil ?_
  refine EN.then ?_
  refine CG.cond rfl (fun h22 => ?_) (fun h22 => ?_)
  ·
   have hk2 : k < 8 := by omega
   have hsh : min (8 * (7 - (k : Int))).toNat IntKind.u64.bits = 56 - 8 * k := by simp only [IntKind.bits]; omega
   refine CG.skip ?_
   refine EN.ts ?_
   refine CG.block ?_
   refine CG.reg ?_
   refine G.mv ?_
   refine G.mv ?_
   refine G.mv ?_
   first | refine G.q rfl rfl rfl rfl (q_mul_i rfl rfl rfl oM) ?_ | refine G.q rfl rfl rfl rfl (q_mul rfl rfl rfl) ?_
   refine G.q rfl rfl rfl rfl (q_shr rfl rfl rfl oM) ?_
   rw [hsh]
   refine G.q rfl rfl rfl rfl (q_conv_u8 rfl rfl is_51_F32 ik_5_F32) ?_
   refine G.e rfl rfl rfl rfl (e_bslice rfl rfl (bs_39_1_all_F32 _)) (fun _ _ _ _ _ _ => trivial) ?_
   rintro _ _ ⟨b31, rfl, rfl⟩
   refine G.e rfl rfl rfl rfl (e_appendM rfl rfl rfl se_39_F32 nf_5_F32 rfl tK1 (src_one se_39_F32 mB rfl) (by decide) oM) (fun _ _ _ _ _ _ => trivial) ?_
   rintro _ _ rfl
   rw [show ([Value.int .u8 ((u8i (IntKind.u64.wrap ((0 + (t.length : Int)) * 8) / 2 ^ (56 - 8 * k))).toNat : Int)] : List Value) = [u8i (IntKind.u64.wrap ((0 + (t.length : Int)) * 8) / 2 ^ (56 - 8 * k))].map u8v from rfl, ownM_app (by simp; omega), List.append_assoc (t ++ _), lenB_snoc]
   refine G.as ?_
   refine G.nil ?_
   refine EN.sub (sC 3 (sC 4 (sC 5 Sub.nil))) ?_
   refine EN.in_normal ?_
   refine EN.tr ?_
   refine G.mv ?_
   first | refine G.q rfl rfl rfl rfl (q_sub_i rfl rfl rfl oM) ?_ | refine G.q rfl rfl rfl rfl (q_sub rfl rfl rfl) ?_
   refine G.as ?_
   refine G.nil ?_
   rw [show (7 - (k : Int)) - 1 = 7 - ((k + 1 : Nat) : Int) by omega]
   exact EN.round (hl := [_]) (8 - (k + 1)) oM (⟨k + 1, _, by omega, rfl, rfl, rfl⟩) sB rfl tK sF
  ·
   obtain rfl : k = 8 := by omega
   refine CG.exit ?_
   refine EN.then_exit ?_
   refine EN.then_exit ?_
   refine EN.in_here ?_
   refine EN.tsr ?_
   refine G.mv ?_
   refine G.as ?_
   refine G.nil ?_
   refine EN.then ?_
   refine CG.ret ?_
   rw [List.append_assoc t]
   exact fin_ret1 rfl rfl tK sF (rfl) _ (.inl rfl)

end Go.Eng
/-
  The reference (ref02.Sum1).
-/
set_option linter.unusedVariables false
set_option linter.unusedSimpArgs false
namespace Go.Eng
open Go.Proofs
theorem ag_32_F33 : aggB Tryd.prog 32 = some false := by kernel_rfl
theorem bd_48_F33 : bodied Tryd.prog 48 = true := by kernel_rfl
theorem bd_49_F33 : bodied Tryd.prog 49 = true := by kernel_rfl
theorem bd_50_F33 : bodied Tryd.prog 50 = true := by kernel_rfl
theorem bd_51_F33 : bodied Tryd.prog 51 = true := by kernel_rfl
theorem bs_77_1_all_F33 : ∀ (x0 : Int) (w : World), (Instr.buildSlice 77 1 [(0, .int .u32 x0)].toArray).run Tryd.prog w = .ok (.slice (some ⟨w.heap.size, 0, none⟩) 1 1) { w with heap := w.heap.push (.cells [.int .u32 x0].toArray 32) } := fun _ _ => by kernel_rfl
theorem bs_77_5_all_F33 : ∀ (x0 : Int) (x1 : Int) (x2 : Int) (x3 : Int) (x4 : Int) (w : World), (Instr.buildSlice 77 5 [(0, .int .u32 x0), (1, .int .u32 x1), (2, .int .u32 x2), (3, .int .u32 x3), (4, .int .u32 x4)].toArray).run Tryd.prog w = .ok (.slice (some ⟨w.heap.size, 0, none⟩) 5 5) { w with heap := w.heap.push (.cells [.int .u32 x0, .int .u32 x1, .int .u32 x2, .int .u32 x3, .int .u32 x4].toArray 32) } := fun _ _ _ _ _ _ => by kernel_rfl
theorem nf_32_F33 : infoB Tryd.prog 32 = some (some [.int .u32 0], 1, 4) := by kernel_rfl
theorem se_39_F33 : sliceE Tryd.prog 39 = some 5 := by kernel_rfl
theorem se_77_F33 : sliceE Tryd.prog 77 = some 32 := by kernel_rfl
theorem sz_32_F33 : sizeB Tryd.prog 32 = some 1 := by kernel_rfl
theorem sz_5_F33 : sizeB Tryd.prog 5 = some 1 := by kernel_rfl

theorem sched_range (p : List UInt8) : ∀ k, k ≤ 16 → (List.range k).map (Sha.word p) = Sha.sched p k
  | 0, _ => rfl
  | k + 1, h => by rw [List.range_succ, List.map_append, sched_range p k (by omega), Sha.sched, if_pos (by omega)]; rfl
theorem sched_nth1 (p : List UInt8) {k i : Nat} (h : i < k) : nth ((Sha.sched p k).map u32v) (i * 1) = some (.int .u32 ((Sha.sched p k).getD i 0)) := by
  rw [nth_eq, Nat.mul_one, List.getElem?_map, Sha.sched_get p h]; rfl
theorem sched_snoc (p : List UInt8) {k : Nat} (h : 16 ≤ k) : (Sha.sched p k).map u32v ++ [.int .u32 (Sha.next (Sha.sched p k) k)] = (Sha.sched p (k + 1)).map u32v := by
  rw [Sha.sched, if_neg (by omega), List.map_append]; rfl
theorem bits_xor_comm (k : IntKind) (a b : Int) : bits .xor k a b = bits .xor k b a := by unfold bits; simp only [BitVec.xor_comm]
theorem fk_end {i : Nat} {b c d : Int} {p : Int × Int} (h : (i < 20 ∧ p = (bits .or .u32 (bits .and .u32 b c) (bits .and .u32 (bits .xor .u32 4294967295 b) d), 1518500249)) ∨ (¬ i < 20 ∧ p = if i < 40 then (bits .xor .u32 (bits .xor .u32 b c) d, 1859775393) else if i < 60 then (bits .or .u32 (bits .or .u32 (bits .and .u32 b c) (bits .and .u32 b d)) (bits .and .u32 c d), 2400959708) else (bits .xor .u32 (bits .xor .u32 b c) d, 3395469782))) : p = Sha.fk i b c d := by
  rcases h with ⟨h1, h⟩ | ⟨h1, h⟩
  · rw [h, Sha.fk0 (by omega)]
  · rw [h]
    split
    · rw [Sha.fk1 (by omega)]
    · split
      · rw [Sha.fk2 (by omega)]
      · rw [Sha.fk3 (by omega)]
theorem blocks_nil (h : Sha.S5) : Sha.blocks h [] = (h, []) := by rw [Sha.blocks, dif_neg (by simp)]
theorem blocks_app : ∀ (n : Nat) (h : Sha.S5) (t q : List UInt8), t.length ≤ n → Sha.blocks (Sha.blocks h t).1 ((Sha.blocks h t).2 ++ q) = Sha.blocks h (t ++ q)
  | 0, h, t, q, hn => by
    obtain rfl : t = [] := List.eq_nil_of_length_eq_zero (by omega)
    rw [blocks_nil]
  | n + 1, h, t, q, hn => by
    by_cases h64 : 64 ≤ t.length
    · rw [show Sha.blocks h t = Sha.blocks (Sha.block h (t.take 64)) (t.drop 64) from by rw [Sha.blocks, dif_pos h64]]
      rw [blocks_app n _ _ q (by simp; omega)]
      conv => rhs; rw [Sha.blocks, dif_pos (by simp; omega)]
      rw [List.take_append_of_le_length h64, List.drop_append_of_le_length h64]
    · rw [show Sha.blocks h t = (h, t) from by rw [Sha.blocks, dif_neg h64]]
theorem blocks_mod (n : Nat) : ∀ (h : Sha.S5) (t : List UInt8), t.length ≤ n → (Sha.blocks h t).2.length % 64 = t.length % 64 := by
  induction n with
  | zero => intro h t hn; rw [Sha.blocks, dif_neg (by omega)]
  | succ n ih =>
    intro h t hn
    by_cases h64 : 64 ≤ t.length
    · rw [Sha.blocks, dif_pos h64, ih _ _ (by simp; omega), List.length_drop]; omega
    · rw [Sha.blocks, dif_neg h64]
theorem padded_mod {a b : Nat} (n : Int) (h : a % 64 = b % 64) : Sha.padded a n = Sha.padded b n := by unfold Sha.padded Sha.padN; rw [h]
theorem sum1_whole (t : List UInt8) : Sha.sum1 t = Sha.outB (Sha.blocks Sha.start1 (t ++ Sha.padded t.length (0 + (t.length : Int)))).1 := by
  unfold Sha.sum1
  rw [blocks_app t.length _ _ _ (Nat.le_refl _), padded_mod _ (blocks_mod t.length Sha.start1 t (Nat.le_refl _))]
theorem padded_len (t : List UInt8) (n : Int) : (t ++ Sha.padded t.length n).length % 64 = 0 := by
  simp [Sha.padded, Sha.lenB, Sha.padN]; omega
theorem drop_add64 (P : List UInt8) (q : Nat) : (P.drop (64 * q)).drop 64 = P.drop (64 * (q + 1)) := by rw [List.drop_drop]; rfl
theorem cur_byte {cur : List Value} {P : List UInt8} {N q : Nat} (hct : cur.take N = P.map u8v) (hN : P.length = N) (i : Nat) (x : UInt8) (h : ((P.drop (64 * q)).take 64)[i]? = some x) : nth cur (0 + 64 * q * 1 + i * 1) = some (u8v x) := by
  rw [List.getElem?_take] at h
  split at h
  · rw [List.getElem?_drop] at h
    rw [Nat.zero_add, Nat.mul_one, Nat.mul_one]
    refine nth_take (n := N) (xs := P.map u8v) (by rw [Nat.mul_one]; exact hct) ?_
    rw [List.getElem?_map, h]; rfl
  · cases h

attribute [local irreducible] cel celZ own ownM ownG exS Sha.word Sha.lenB Sha.sched

set_option maxRecDepth 100000 in
set_option maxHeartbeats 1000000 in
theorem rsum1_spec (t : List UInt8) (ht : t.length ≤ 100000000) : Spec Tryd.prog 30 #[str t] [] (Ret fun v hl => v = str (Sha.sum1 t) ∧ hl = []) := by
 refine Spec.enter Tryd.func30 rfl rfl rfl (fun F w0 => ?_)
 dsimp only [argL, List.cons_append, List.nil_append]
 refine CG.sr ?_
 refine G.as ?_
 refine G.nil ?_
 refine EN.tsr ?_
 refine G.mv ?_
 refine G.call (xs := [_]) rfl rfl (pad_spec t ht) bd_48_F33 rfl rfl rfl rfl tK (fun _ _ _ _ _ _ => trivial) ?_
 rintro v hl rfl
 try dsimp only [List.cons_append, List.nil_append]
 refine G.as ?_
 refine G.nil ?_
 refine EN.ts ?_
 obtain ⟨P, hP⟩ : ∃ P, t ++ Sha.padded t.length (0 + (t.length : Int)) = P := ⟨_, rfl⟩
 have hsum := sum1_whole t
 have hmod := padded_len t (0 + (t.length : Int))
 rw [hP] at hsum hmod ⊢
 have hPl : P.length ≤ 200000000 := by
  rw [← hP]; simp [Sha.padded, Sha.lenB, Sha.padN]; omega
 obtain ⟨N, hN⟩ : ∃ N, P.length = N := ⟨_, rfl⟩
 rw [hN] at hmod hPl ⊢
 refine CG.openM tK1 (fun g cap cur z hv0 hl0 hok hnc hcm hcl hct => ?_)
 subst hv0
 refine CG.reg ?_
 refine G.e rfl rfl rfl rfl (e_bslice rfl rfl (bs_77_5_all_F33 _ _ _ _ _)) (fun _ _ _ _ _ _ => trivial) ?_
 rintro _ _ ⟨b19, rfl, rfl⟩
 refine G.as ?_
 refine G.nil ?_
 refine EN.ts ?_
 refine CG.sr ?_
 refine G.as ?_
 refine G.nil ?_
 refine EN.then ?_
 refine CG.block ?_
 refine CG.loopI (fun m L H => ∃ (q : Nat) (h : Sha.S5) (g4 : Nat), 64 * q ≤ N ∧ m = N / 64 - q ∧ Sha.blocks h (P.drop (64 * q)) = Sha.blocks Sha.start1 P ∧ L = [(3, .slice (some ⟨g, 0, none⟩) N cap), (4, .slice (some ⟨g4, 0, none⟩) 5 5), (5, .int .i64 ((64 * q : Nat) : Int))] ∧ H = [cel g4 32 (Sha.cells h), celZ g 5 z cur] ++ F) (N / 64 - 0) (hl := [_, _]) (⟨0, Sha.start1, b19, Nat.zero_le _, rfl, rfl, rfl, rfl⟩) sB rfl tK sF ?_
 rintro m L H ⟨q, h, g4, hq, rfl, hgo, rfl, rfl⟩
 try dsimp only [List.cons_append, List.nil_append]
 refine CG.seq ?_
 refine CG.sr ?_
 refine G.mv ?_
 refine G.mv ?_
 refine G.q rfl rfl rfl rfl (q_len_sl rfl rfl se_39_F33) ?_
 refine G.q rfl rfl rfl rfl (q_lss rfl rfl rfl) ?_
 refine G.nil ?_
 refine EN.then ?_
 refine CG.cond rfl (fun h23 => ?_) (fun h23 => ?_)
 ·
  have hq2 : 64 * q + 64 ≤ N := by omega
  obtain ⟨bl, hbl⟩ : ∃ bl, (P.drop (64 * q)).take 64 = bl := ⟨_, rfl⟩
  have hbll : bl.length = 64 := by rw [← hbl]; simp; omega
  have hgo2 : Sha.blocks (Sha.block h bl) (P.drop (64 * (q + 1))) = Sha.blocks Sha.start1 P := by
   rw [← hgo]; conv => rhs; rw [Sha.blocks, dif_pos (by simp; omega)]
   rw [hbl, drop_add64]
  refine CG.skip ?_
  refine EN.ts ?_
  refine CG.block ?_
  refine CG.sr ?_
  refine G.mv ?_
  refine G.mv ?_
  refine G.mv ?_
  first | refine G.q rfl rfl rfl rfl (q_add_i rfl rfl rfl oM) ?_ | refine G.q rfl rfl rfl rfl (q_add rfl rfl rfl) ?_
  rw [show ((64 * q : Nat) : Int) + 64 = ((64 * q + 64 : Nat) : Int) by omega]
  refine G.q rfl rfl rfl rfl (q_slsl_lh rfl rfl rfl rfl se_39_F33 sz_5_F33 oM) ?_
  refine G.call (xs := [_]) rfl rfl (words_spec g _ _ z cur bl hbll (fun i x hx => cur_byte hct hN i x (by rw [hbl]; exact hx))) bd_49_F33 rfl rfl rfl rfl tK (fun _ _ _ _ _ _ => trivial) ?_
  rintro v hl rfl
  rw [sched_range bl 16 (Nat.le_refl _), own_eq]
  try dsimp only [List.cons_append, List.nil_append]
  refine G.as ?_
  refine G.nil ?_
  refine EN.sub (sC 3 (sC 4 (sC 5 (sC 6 Sub.nil)))) ?_
  refine EN.ts ?_
  refine CG.sr ?_
  refine G.as ?_
  refine G.nil ?_
  refine EN.then ?_
  refine CG.block ?_
  refine CG.loopI (fun m L H => ∃ (k : Nat) (v : Value), 16 ≤ k ∧ k ≤ 80 ∧ m = 80 - k ∧ L = [(3, .slice (some ⟨g, 0, none⟩) N cap), (4, .slice (some ⟨g4, 0, none⟩) 5 5), (5, .int .i64 ((64 * q : Nat) : Int)), (6, v), (7, .int .i64 (k : Nat))] ∧ H = [ownG true 32 1 v k ((Sha.sched bl k).map u32v), cel g4 32 (Sha.cells h), celZ g 5 z cur] ++ F) (80 - 16) (hl := [_, _, _]) (⟨16, _, Nat.le_refl _, by decide, rfl, rfl, rfl⟩) sB rfl tK sF ?_
  rintro m L H ⟨k, v, hk16, hk, rfl, rfl, rfl⟩
  try dsimp only [List.cons_append, List.nil_append]
  have e3 : (k : Int) - 3 = ((k - 3 : Nat) : Int) := by omega
  have e8 : (k : Int) - 8 = ((k - 8 : Nat) : Int) := by omega
  have e14 : (k : Int) - 14 = ((k - 14 : Nat) : Int) := by omega
  have e16 : (k : Int) - 16 = ((k - 16 : Nat) : Int) := by omega
  refine CG.fact (α := ∃ ad c, v = .slice ad k c) tK1 (fun _ hh => by obtain ⟨_, _, ad, c, h, _⟩ := ownG_shape hh; exact ⟨ad, c, h⟩) (fun ⟨ad, cw, hv⟩ => ?_)
  subst hv
  refine CG.someO tK1 oM (fun gw ow e => ?_)
  subst e
  refine CG.seq ?_
  refine CG.sr ?_
  refine G.mv ?_
  refine G.q rfl rfl rfl rfl (q_lss rfl rfl rfl) ?_
  refine G.nil ?_
  refine EN.then ?_
  refine CG.cond rfl (fun h33 => ?_) (fun h33 => ?_)
  ·
   have hk2 : k < 80 := by omega
   refine CG.skip ?_
   refine EN.ts ?_
   refine CG.block ?_
   refine CG.regT [] mixed (by kernel_rfl) ?_
   refine G.mv ?_
   refine G.mv ?_
   refine G.mv ?_
   first | refine G.q rfl rfl rfl rfl (q_sub_i rfl rfl rfl oM) ?_ | refine G.q rfl rfl rfl rfl (q_sub rfl rfl rfl) ?_
   rw [e3]
   first | refine G.q rfl rfl rfl rfl (q_ixaddr1 rfl rfl rfl se_77_F33 sz_32_F33 oM) ?_ | refine G.q rfl rfl rfl rfl (q_ixaddr rfl rfl rfl se_77_F33 sz_32_F33 oM) ?_
   refine G.r rfl rfl rfl rfl (r_loadO (i := (k - 3) * 1) rfl rfl ag_32_F33 mB (sched_nth1 bl oM)) ?_
   refine G.mv ?_
   refine G.mv ?_
   first | refine G.q rfl rfl rfl rfl (q_sub_i rfl rfl rfl oM) ?_ | refine G.q rfl rfl rfl rfl (q_sub rfl rfl rfl) ?_
   rw [e8]
   first | refine G.q rfl rfl rfl rfl (q_ixaddr1 rfl rfl rfl se_77_F33 sz_32_F33 oM) ?_ | refine G.q rfl rfl rfl rfl (q_ixaddr rfl rfl rfl se_77_F33 sz_32_F33 oM) ?_
   refine G.r rfl rfl rfl rfl (r_loadO (i := (k - 8) * 1) rfl rfl ag_32_F33 mB (sched_nth1 bl oM)) ?_
   refine G.q rfl rfl rfl rfl (q_xor rfl rfl rfl) ?_
   refine G.mv ?_
   refine G.mv ?_
   first | refine G.q rfl rfl rfl rfl (q_sub_i rfl rfl rfl oM) ?_ | refine G.q rfl rfl rfl rfl (q_sub rfl rfl rfl) ?_
   rw [e14]
   first | refine G.q rfl rfl rfl rfl (q_ixaddr1 rfl rfl rfl se_77_F33 sz_32_F33 oM) ?_ | refine G.q rfl rfl rfl rfl (q_ixaddr rfl rfl rfl se_77_F33 sz_32_F33 oM) ?_
   refine G.r rfl rfl rfl rfl (r_loadO (i := (k - 14) * 1) rfl rfl ag_32_F33 mB (sched_nth1 bl oM)) ?_
   refine G.q rfl rfl rfl rfl (q_xor rfl rfl rfl) ?_
   refine G.mv ?_
   refine G.mv ?_
   first | refine G.q rfl rfl rfl rfl (q_sub_i rfl rfl rfl oM) ?_ | refine G.q rfl rfl rfl rfl (q_sub rfl rfl rfl) ?_
   rw [e16]
   first | refine G.q rfl rfl rfl rfl (q_ixaddr1 rfl rfl rfl se_77_F33 sz_32_F33 oM) ?_ | refine G.q rfl rfl rfl rfl (q_ixaddr rfl rfl rfl se_77_F33 sz_32_F33 oM) ?_
   refine G.r rfl rfl rfl rfl (r_loadO (i := (k - 16) * 1) rfl rfl ag_32_F33 mB (sched_nth1 bl oM)) ?_
   refine G.q rfl rfl rfl rfl (q_xor rfl rfl rfl) ?_
   refine G.call (xs := [_, _]) rfl rfl (turn_spec _ 1 oM) bd_50_F33 rfl rfl rfl rfl tK (fun _ _ _ _ _ _ => trivial) ?_
   rintro _ _ ⟨rfl, rfl⟩
   try dsimp only [List.cons_append, List.nil_append]
   refine G.e rfl rfl rfl rfl (e_bslice rfl rfl (bs_77_1_all_F33 _)) (fun _ _ _ _ _ _ => trivial) ?_
   rintro _ _ ⟨b61, rfl, rfl⟩
   refine G.e rfl rfl rfl rfl (e_appendG rfl rfl rfl se_77_F33 nf_32_F33 rfl tK1 (src_one se_77_F33 mB rfl) oM) (fun _ _ _ _ _ _ => trivial) ?_
   rintro _ _ rfl
   rw [show Sha.rot (bits .xor .u32 (bits .xor .u32 (bits .xor .u32 ((Sha.sched bl k).getD (k - 3) 0) ((Sha.sched bl k).getD (k - 8) 0)) ((Sha.sched bl k).getD (k - 14) 0)) ((Sha.sched bl k).getD (k - 16) 0)) 1 = Sha.next (Sha.sched bl k) k from rfl, sched_snoc bl hk16]
   refine G.as ?_
   refine G.nil ?_
   refine EN.sub (sC 3 (sC 4 (sC 5 (sC 6 (sC 7 Sub.nil))))) ?_
   refine EN.in_normal ?_
   refine EN.tr ?_
   refine G.mv ?_
   first | refine G.q rfl rfl rfl rfl (q_add_i rfl rfl rfl oM) ?_ | refine G.q rfl rfl rfl rfl (q_add rfl rfl rfl) ?_
   refine G.as ?_
   refine G.nil ?_
   exact EN.round (hl := [_, _, _]) (80 - (k + 1)) oM (⟨k + 1, _, by omega, by omega, rfl, rfl, rfl⟩) sB rfl tK sF
  ·
   obtain rfl : k = 80 := by omega
   refine CG.exit ?_
   refine EN.then_exit ?_
   refine EN.then_exit ?_
   refine EN.in_here ?_
   refine EN.ts ?_
   refine CG.regT [] mixed (by kernel_rfl) ?_
   refine G.mv ?_
   first | refine G.q rfl rfl rfl rfl (q_ixaddr1 rfl rfl rfl se_77_F33 sz_32_F33 (by decide)) ?_ | refine G.q rfl rfl rfl rfl (q_ixaddr rfl rfl rfl se_77_F33 sz_32_F33 (by decide)) ?_
   refine G.ld ag_32_F33 ?_
   refine G.mv ?_
   first | refine G.q rfl rfl rfl rfl (q_ixaddr1 rfl rfl rfl se_77_F33 sz_32_F33 (by decide)) ?_ | refine G.q rfl rfl rfl rfl (q_ixaddr rfl rfl rfl se_77_F33 sz_32_F33 (by decide)) ?_
   refine G.ld ag_32_F33 ?_
   refine G.mv ?_
   first | refine G.q rfl rfl rfl rfl (q_ixaddr1 rfl rfl rfl se_77_F33 sz_32_F33 (by decide)) ?_ | refine G.q rfl rfl rfl rfl (q_ixaddr rfl rfl rfl se_77_F33 sz_32_F33 (by decide)) ?_
   refine G.ld ag_32_F33 ?_
   refine G.mv ?_
   first | refine G.q rfl rfl rfl rfl (q_ixaddr1 rfl rfl rfl se_77_F33 sz_32_F33 (by decide)) ?_ | refine G.q rfl rfl rfl rfl (q_ixaddr rfl rfl rfl se_77_F33 sz_32_F33 (by decide)) ?_
   refine G.ld ag_32_F33 ?_
   refine G.mv ?_
   first | refine G.q rfl rfl rfl rfl (q_ixaddr1 rfl rfl rfl se_77_F33 sz_32_F33 (by decide)) ?_ | refine G.q rfl rfl rfl rfl (q_ixaddr rfl rfl rfl se_77_F33 sz_32_F33 (by decide)) ?_
   refine G.ld ag_32_F33 ?_
   refine G.as ?_
   refine G.as ?_
   refine G.as ?_
   refine G.as ?_
   refine G.as ?_
   refine G.nil ?_
   refine EN.sub (sC 3 (sC 4 (sC 5 (sC 6 (sC 8 (sC 9 (sC 10 (sC 11 (sC 12 Sub.nil))))))))) ?_
   refine EN.ts ?_
   refine CG.sr ?_
   refine G.as ?_
   refine G.nil ?_
   refine EN.then ?_
   refine CG.block ?_
   rw [show Sha.cells h = [.int .u32 h.a, .int .u32 h.b, .int .u32 h.c, .int .u32 h.d, .int .u32 h.e] from rfl]
   refine CG.loopI (fun m L H => ∃ i : Nat, i ≤ 80 ∧ m = 80 - i ∧ L = [(3, .slice (some ⟨g, 0, none⟩) N cap), (4, .slice (some ⟨g4, 0, none⟩) 5 5), (5, .int .i64 ((64 * q : Nat) : Int)), (6, .slice (some ⟨gw, ow, none⟩) 80 cw), (8, .int .u32 (Sha.comp (Sha.sched bl 80) h i).a), (9, .int .u32 (Sha.comp (Sha.sched bl 80) h i).b), (10, .int .u32 (Sha.comp (Sha.sched bl 80) h i).c), (11, .int .u32 (Sha.comp (Sha.sched bl 80) h i).d), (12, .int .u32 (Sha.comp (Sha.sched bl 80) h i).e), (13, .int .i64 (i : Nat))] ∧ H = [ownG true 32 1 (.slice (some ⟨gw, ow, none⟩) 80 cw) 80 ((Sha.sched bl 80).map u32v), cel g4 32 (Sha.cells h), celZ g 5 z cur] ++ F) (80 - 0) (hl := [_, _, _]) (⟨0, Nat.zero_le _, rfl, rfl, rfl⟩) sB rfl tK sF ?_
   rintro m L H ⟨i, hi, rfl, rfl, rfl⟩
   try dsimp only [List.cons_append, List.nil_append]
   refine CG.seq ?_
   refine CG.sr ?_
   refine G.mv ?_
   refine G.q rfl rfl rfl rfl (q_lss rfl rfl rfl) ?_
   refine G.nil ?_
   refine EN.then ?_
   refine CG.cond rfl (fun h79 => ?_) (fun h79 => ?_)
   ·
    have hi2 : i < 80 := by omega
    refine CG.skip ?_
    refine EN.ts ?_
    refine CG.block ?_
    refine CG.sr ?_
    refine G.mv ?_
    refine G.mv ?_
    refine G.q rfl rfl rfl rfl (q_xor rfl rfl rfl) ?_
    refine G.mv ?_
    refine G.q rfl rfl rfl rfl (q_xor rfl rfl rfl) ?_
    refine G.as ?_
    refine G.as ?_
    refine G.nil ?_
    refine EN.then ?_
    refine CG.cut (fun L H => ∃ f kk : Int, (f, kk) = (if i < 60 then (bits .or .u32 (bits .or .u32 (bits .and .u32 (Sha.comp (Sha.sched bl 80) h i).b (Sha.comp (Sha.sched bl 80) h i).c) (bits .and .u32 (Sha.comp (Sha.sched bl 80) h i).b (Sha.comp (Sha.sched bl 80) h i).d)) (bits .and .u32 (Sha.comp (Sha.sched bl 80) h i).c (Sha.comp (Sha.sched bl 80) h i).d), (2400959708 : Int)) else (bits .xor .u32 (bits .xor .u32 (Sha.comp (Sha.sched bl 80) h i).b (Sha.comp (Sha.sched bl 80) h i).c) (Sha.comp (Sha.sched bl 80) h i).d, (3395469782 : Int))) ∧ L = [(3, .slice (some ⟨g, 0, none⟩) N cap), (4, .slice (some ⟨g4, 0, none⟩) 5 5), (5, .int .i64 ((64 * q : Nat) : Int)), (6, .slice (some ⟨gw, ow, none⟩) 80 cw), (8, .int .u32 (Sha.comp (Sha.sched bl 80) h i).a), (9, .int .u32 (Sha.comp (Sha.sched bl 80) h i).b), (10, .int .u32 (Sha.comp (Sha.sched bl 80) h i).c), (11, .int .u32 (Sha.comp (Sha.sched bl 80) h i).d), (12, .int .u32 (Sha.comp (Sha.sched bl 80) h i).e), (13, .int .i64 (i : Nat)), (14, .int .u32 f), (15, .int .u32 kk)] ∧ H = [ownG true 32 1 (.slice (some ⟨gw, ow, none⟩) 80 cw) 80 ((Sha.sched bl 80).map u32v), cel g4 32 (Sha.cells h), celZ g 5 z cur] ++ F) ?_ ?_
    ·
     refine CG.sr ?_
     refine G.mv ?_
     refine G.q rfl rfl rfl rfl (q_lss rfl rfl rfl) ?_
     refine G.nil ?_
     refine EN.then ?_
     refine CG.cond rfl (fun h88 => ?_) (fun h88 => ?_)
     ·
      have hf1 : (bits .or .u32 (bits .or .u32 (bits .and .u32 (Sha.comp (Sha.sched bl 80) h i).b (Sha.comp (Sha.sched bl 80) h i).c) (bits .and .u32 (Sha.comp (Sha.sched bl 80) h i).b (Sha.comp (Sha.sched bl 80) h i).d)) (bits .and .u32 (Sha.comp (Sha.sched bl 80) h i).c (Sha.comp (Sha.sched bl 80) h i).d), (2400959708 : Int)) = (if i < 60 then (bits .or .u32 (bits .or .u32 (bits .and .u32 (Sha.comp (Sha.sched bl 80) h i).b (Sha.comp (Sha.sched bl 80) h i).c) (bits .and .u32 (Sha.comp (Sha.sched bl 80) h i).b (Sha.comp (Sha.sched bl 80) h i).d)) (bits .and .u32 (Sha.comp (Sha.sched bl 80) h i).c (Sha.comp (Sha.sched bl 80) h i).d), (2400959708 : Int)) else (bits .xor .u32 (bits .xor .u32 (Sha.comp (Sha.sched bl 80) h i).b (Sha.comp (Sha.sched bl 80) h i).c) (Sha.comp (Sha.sched bl 80) h i).d, (3395469782 : Int))) := (if_pos oM).symm
      refine CG.sr ?_
      refine G.mv ?_
      refine G.mv ?_
      refine G.q rfl rfl rfl rfl (q_and rfl rfl rfl) ?_
      refine G.mv ?_
      refine G.mv ?_
      refine G.q rfl rfl rfl rfl (q_and rfl rfl rfl) ?_
      first | refine G.q rfl rfl rfl rfl (q_ord (j := 8) (d := 256) rfl rfl rfl (by decide) lOm lOm lOm (by decide)) ?_ | refine G.q rfl rfl rfl rfl (q_or rfl rfl rfl) ?_
      refine G.mv ?_
      refine G.mv ?_
      refine G.q rfl rfl rfl rfl (q_and rfl rfl rfl) ?_
      first | refine G.q rfl rfl rfl rfl (q_ord (j := 8) (d := 256) rfl rfl rfl (by decide) lOm lOm lOm (by decide)) ?_ | refine G.q rfl rfl rfl rfl (q_or rfl rfl rfl) ?_
      refine G.as ?_
      refine G.nil ?_
      refine EN.sub (sC 3 (sC 4 (sC 5 (sC 6 (sC 8 (sC 9 (sC 10 (sC 11 (sC 12 (sC 13 (sC 14 (sC 15 Sub.nil)))))))))))) ?_
      refine EN.tr ?_
      refine G.as ?_
      refine G.nil ?_
      exact EN.cut (hl := [_, _, _]) (⟨_, _, hf1, rfl, rfl⟩) sB rfl tK sF
     ·
      have hf1 : (bits .xor .u32 (bits .xor .u32 (Sha.comp (Sha.sched bl 80) h i).b (Sha.comp (Sha.sched bl 80) h i).c) (Sha.comp (Sha.sched bl 80) h i).d, (3395469782 : Int)) = (if i < 60 then (bits .or .u32 (bits .or .u32 (bits .and .u32 (Sha.comp (Sha.sched bl 80) h i).b (Sha.comp (Sha.sched bl 80) h i).c) (bits .and .u32 (Sha.comp (Sha.sched bl 80) h i).b (Sha.comp (Sha.sched bl 80) h i).d)) (bits .and .u32 (Sha.comp (Sha.sched bl 80) h i).c (Sha.comp (Sha.sched bl 80) h i).d), (2400959708 : Int)) else (bits .xor .u32 (bits .xor .u32 (Sha.comp (Sha.sched bl 80) h i).b (Sha.comp (Sha.sched bl 80) h i).c) (Sha.comp (Sha.sched bl 80) h i).d, (3395469782 : Int))) := (if_neg oM).symm
      refine CG.skip ?_
      exact EN.cut (hl := [_, _, _]) (⟨_, _, hf1, rfl, rfl⟩) sB rfl tK sF
    ·
     rintro L H ⟨f, kk, hf1, rfl, rfl⟩
     try dsimp only [List.cons_append, List.nil_append]
     refine CG.cut (fun L H => ∃ f kk : Int, (f, kk) = (if i < 40 then (bits .xor .u32 (bits .xor .u32 (Sha.comp (Sha.sched bl 80) h i).b (Sha.comp (Sha.sched bl 80) h i).c) (Sha.comp (Sha.sched bl 80) h i).d, (1859775393 : Int)) else if i < 60 then (bits .or .u32 (bits .or .u32 (bits .and .u32 (Sha.comp (Sha.sched bl 80) h i).b (Sha.comp (Sha.sched bl 80) h i).c) (bits .and .u32 (Sha.comp (Sha.sched bl 80) h i).b (Sha.comp (Sha.sched bl 80) h i).d)) (bits .and .u32 (Sha.comp (Sha.sched bl 80) h i).c (Sha.comp (Sha.sched bl 80) h i).d), (2400959708 : Int)) else (bits .xor .u32 (bits .xor .u32 (Sha.comp (Sha.sched bl 80) h i).b (Sha.comp (Sha.sched bl 80) h i).c) (Sha.comp (Sha.sched bl 80) h i).d, (3395469782 : Int))) ∧ L = [(3, .slice (some ⟨g, 0, none⟩) N cap), (4, .slice (some ⟨g4, 0, none⟩) 5 5), (5, .int .i64 ((64 * q : Nat) : Int)), (6, .slice (some ⟨gw, ow, none⟩) 80 cw), (8, .int .u32 (Sha.comp (Sha.sched bl 80) h i).a), (9, .int .u32 (Sha.comp (Sha.sched bl 80) h i).b), (10, .int .u32 (Sha.comp (Sha.sched bl 80) h i).c), (11, .int .u32 (Sha.comp (Sha.sched bl 80) h i).d), (12, .int .u32 (Sha.comp (Sha.sched bl 80) h i).e), (13, .int .i64 (i : Nat)), (14, .int .u32 f), (15, .int .u32 kk)] ∧ H = [ownG true 32 1 (.slice (some ⟨gw, ow, none⟩) 80 cw) 80 ((Sha.sched bl 80).map u32v), cel g4 32 (Sha.cells h), celZ g 5 z cur] ++ F) ?_ ?_
     ·
      refine CG.sr ?_
      refine G.mv ?_
      refine G.q rfl rfl rfl rfl (q_lss rfl rfl rfl) ?_
      refine G.nil ?_
      refine EN.then ?_
      refine CG.cond rfl (fun h101 => ?_) (fun h101 => ?_)
      ·
       have hf2 : (bits .xor .u32 (bits .xor .u32 (Sha.comp (Sha.sched bl 80) h i).b (Sha.comp (Sha.sched bl 80) h i).c) (Sha.comp (Sha.sched bl 80) h i).d, (1859775393 : Int)) = (if i < 40 then (bits .xor .u32 (bits .xor .u32 (Sha.comp (Sha.sched bl 80) h i).b (Sha.comp (Sha.sched bl 80) h i).c) (Sha.comp (Sha.sched bl 80) h i).d, (1859775393 : Int)) else if i < 60 then (bits .or .u32 (bits .or .u32 (bits .and .u32 (Sha.comp (Sha.sched bl 80) h i).b (Sha.comp (Sha.sched bl 80) h i).c) (bits .and .u32 (Sha.comp (Sha.sched bl 80) h i).b (Sha.comp (Sha.sched bl 80) h i).d)) (bits .and .u32 (Sha.comp (Sha.sched bl 80) h i).c (Sha.comp (Sha.sched bl 80) h i).d), (2400959708 : Int)) else (bits .xor .u32 (bits .xor .u32 (Sha.comp (Sha.sched bl 80) h i).b (Sha.comp (Sha.sched bl 80) h i).c) (Sha.comp (Sha.sched bl 80) h i).d, (3395469782 : Int))) := (if_pos oM).symm
       refine CG.sr ?_
       refine G.mv ?_
       refine G.mv ?_
       refine G.q rfl rfl rfl rfl (q_xor rfl rfl rfl) ?_
       refine G.mv ?_
       refine G.q rfl rfl rfl rfl (q_xor rfl rfl rfl) ?_
       refine G.as ?_
       refine G.nil ?_
       refine EN.tr ?_
       refine G.as ?_
       refine G.nil ?_
       exact EN.cut (hl := [_, _, _]) (⟨_, _, hf2, rfl, rfl⟩) sB rfl tK sF
      ·
       have hf2 : (f, kk) = (if i < 40 then (bits .xor .u32 (bits .xor .u32 (Sha.comp (Sha.sched bl 80) h i).b (Sha.comp (Sha.sched bl 80) h i).c) (Sha.comp (Sha.sched bl 80) h i).d, (1859775393 : Int)) else if i < 60 then (bits .or .u32 (bits .or .u32 (bits .and .u32 (Sha.comp (Sha.sched bl 80) h i).b (Sha.comp (Sha.sched bl 80) h i).c) (bits .and .u32 (Sha.comp (Sha.sched bl 80) h i).b (Sha.comp (Sha.sched bl 80) h i).d)) (bits .and .u32 (Sha.comp (Sha.sched bl 80) h i).c (Sha.comp (Sha.sched bl 80) h i).d), (2400959708 : Int)) else (bits .xor .u32 (bits .xor .u32 (Sha.comp (Sha.sched bl 80) h i).b (Sha.comp (Sha.sched bl 80) h i).c) (Sha.comp (Sha.sched bl 80) h i).d, (3395469782 : Int))) := by rw [if_neg oM]; exact hf1
       refine CG.skip ?_
       exact EN.cut (hl := [_, _, _]) (⟨_, _, hf2, rfl, rfl⟩) sB rfl tK sF
     ·
      rintro L H ⟨f, kk, hf2, rfl, rfl⟩
      try dsimp only [List.cons_append, List.nil_append]
      refine CG.cut (fun L H => ∃ f kk : Int, (f, kk) = (Sha.fk i (Sha.comp (Sha.sched bl 80) h i).b (Sha.comp (Sha.sched bl 80) h i).c (Sha.comp (Sha.sched bl 80) h i).d) ∧ L = [(3, .slice (some ⟨g, 0, none⟩) N cap), (4, .slice (some ⟨g4, 0, none⟩) 5 5), (5, .int .i64 ((64 * q : Nat) : Int)), (6, .slice (some ⟨gw, ow, none⟩) 80 cw), (8, .int .u32 (Sha.comp (Sha.sched bl 80) h i).a), (9, .int .u32 (Sha.comp (Sha.sched bl 80) h i).b), (10, .int .u32 (Sha.comp (Sha.sched bl 80) h i).c), (11, .int .u32 (Sha.comp (Sha.sched bl 80) h i).d), (12, .int .u32 (Sha.comp (Sha.sched bl 80) h i).e), (13, .int .i64 (i : Nat)), (14, .int .u32 f), (15, .int .u32 kk)] ∧ H = [ownG true 32 1 (.slice (some ⟨gw, ow, none⟩) 80 cw) 80 ((Sha.sched bl 80).map u32v), cel g4 32 (Sha.cells h), celZ g 5 z cur] ++ F) ?_ ?_
      ·
       refine CG.sr ?_
       refine G.mv ?_
       refine G.q rfl rfl rfl rfl (q_lss rfl rfl rfl) ?_
       refine G.nil ?_
       refine EN.then ?_
       refine CG.cond rfl (fun h108 => ?_) (fun h108 => ?_)
       ·
        have hfk : (bits .or .u32 (bits .and .u32 (Sha.comp (Sha.sched bl 80) h i).b (Sha.comp (Sha.sched bl 80) h i).c) (bits .and .u32 (bits .xor .u32 (Sha.comp (Sha.sched bl 80) h i).b 4294967295) (Sha.comp (Sha.sched bl 80) h i).d), (1518500249 : Int)) = Sha.fk i (Sha.comp (Sha.sched bl 80) h i).b (Sha.comp (Sha.sched bl 80) h i).c (Sha.comp (Sha.sched bl 80) h i).d := fk_end (.inl ⟨by omega, by rw [bits_xor_comm _ _ 4294967295]⟩)
        refine CG.sr ?_
        refine G.mv ?_
        refine G.mv ?_
        refine G.q rfl rfl rfl rfl (q_and rfl rfl rfl) ?_
        refine G.mv ?_
        refine G.q rfl rfl rfl rfl (q_xor rfl rfl rfl) ?_
        refine G.mv ?_
        refine G.q rfl rfl rfl rfl (q_and rfl rfl rfl) ?_
        first | refine G.q rfl rfl rfl rfl (q_ord (j := 8) (d := 256) rfl rfl rfl (by decide) lOm lOm lOm (by decide)) ?_ | refine G.q rfl rfl rfl rfl (q_or rfl rfl rfl) ?_
        refine G.as ?_
        refine G.nil ?_
        refine EN.sub (sC 3 (sC 4 (sC 5 (sC 6 (sC 8 (sC 9 (sC 10 (sC 11 (sC 12 (sC 13 (sC 14 (sC 15 Sub.nil)))))))))))) ?_
        refine EN.tr ?_
        refine G.as ?_
        refine G.nil ?_
        exact EN.cut (hl := [_, _, _]) (⟨_, _, hfk, rfl, rfl⟩) sB rfl tK sF
       ·
        have hfk : (f, kk) = Sha.fk i (Sha.comp (Sha.sched bl 80) h i).b (Sha.comp (Sha.sched bl 80) h i).c (Sha.comp (Sha.sched bl 80) h i).d := fk_end (.inr ⟨by omega, hf2⟩)
        refine CG.skip ?_
        exact EN.cut (hl := [_, _, _]) (⟨_, _, hfk, rfl, rfl⟩) sB rfl tK sF
      ·
       rintro L H ⟨f, kk, hfk, rfl, rfl⟩
       try dsimp only [List.cons_append, List.nil_append]
       have hA : IntKind.u32.wrap (IntKind.u32.wrap (IntKind.u32.wrap (IntKind.u32.wrap (Sha.rot (Sha.comp (Sha.sched bl 80) h i).a 5 + f) + (Sha.comp (Sha.sched bl 80) h i).e) + kk) + (Sha.sched bl 80).getD i 0) = (Sha.comp (Sha.sched bl 80) h (i + 1)).a := by
         rw [Sha.comp]; unfold Sha.step; rw [← hfk]; rfl
       refine CG.seq ?_
       refine CG.regC [128] (Keeps _ [ownG true 32 1 (.slice (some ⟨gw, ow, none⟩) 80 cw) 80 ((Sha.sched bl 80).map u32v)]) mixed (by kernel_rfl) (fun w hw => Keeps.of hw tK) ?_
       refine G.mv ?_
       refine G.call (xs := [_, _]) rfl rfl (turn_spec _ 5 oM) bd_50_F33 rfl rfl rfl rfl tK (fun _ _ _ w hR hw => by obtain ⟨_, rfl⟩ := hR; exact Keeps.of hw tK) ?_
       rintro _ _ ⟨rfl, rfl⟩
       try dsimp only [List.cons_append, List.nil_append]
       refine G.mv ?_
       first | refine G.q rfl rfl rfl rfl (q_addw rfl rfl rfl lOm lOm) ?_ | refine G.q rfl rfl rfl rfl (q_add rfl rfl rfl) ?_
       refine G.mv ?_
       first | refine G.q rfl rfl rfl rfl (q_addw rfl rfl rfl lOm lOm) ?_ | refine G.q rfl rfl rfl rfl (q_add rfl rfl rfl) ?_
       refine G.mv ?_
       first | refine G.q rfl rfl rfl rfl (q_addw rfl rfl rfl lOm lOm) ?_ | refine G.q rfl rfl rfl rfl (q_add rfl rfl rfl) ?_
       refine G.mv ?_
       refine G.mv ?_
       first | refine G.q rfl rfl rfl rfl (q_ixaddr1 rfl rfl rfl se_77_F33 sz_32_F33 oM) ?_ | refine G.q rfl rfl rfl rfl (q_ixaddr rfl rfl rfl se_77_F33 sz_32_F33 oM) ?_
       refine G.rK rfl rfl rfl rfl rfl (fun R => r_loadO (i := i * 1) rfl rfl ag_32_F33 mB (sched_nth1 bl oM)) ?_
       first | refine G.q rfl rfl rfl rfl (q_addw rfl rfl rfl lOm lOm) ?_ | refine G.q rfl rfl rfl rfl (q_add rfl rfl rfl) ?_
       refine G.as ?_
       refine G.nil ?_
       refine EN.sub (sC 3 (sC 4 (sC 5 (sC 6 (sC 8 (sC 9 (sC 10 (sC 11 (sC 12 (sC 13 (sC 16 Sub.nil))))))))))) ?_
       refine EN.tsr ?_
       refine G.mv ?_
       refine G.as ?_
       refine G.nil ?_
       refine EN.tsr ?_
       refine G.mv ?_
       refine G.as ?_
       refine G.nil ?_
       refine EN.tsr ?_
       refine G.mv ?_
       refine G.call (xs := [_, _]) rfl rfl (turn_spec _ 30 oM) bd_50_F33 rfl rfl rfl rfl tK (fun _ _ _ _ _ _ => trivial) ?_
       rintro _ _ ⟨rfl, rfl⟩
       try dsimp only [List.cons_append, List.nil_append]
       refine G.as ?_
       refine G.nil ?_
       refine EN.tsr ?_
       refine G.mv ?_
       refine G.as ?_
       refine G.nil ?_
       refine EN.tr ?_
       refine G.mv ?_
       refine G.as ?_
       refine G.nil ?_
       refine EN.in_normal ?_
       refine EN.tr ?_
       refine G.mv ?_
       first | refine G.q rfl rfl rfl rfl (q_add_i rfl rfl rfl oM) ?_ | refine G.q rfl rfl rfl rfl (q_add rfl rfl rfl) ?_
       refine G.as ?_
       refine G.nil ?_
       rw [hA]
       exact EN.round (hl := [_, _, _]) (80 - (i + 1)) oM (⟨i + 1, by omega, rfl, rfl, rfl⟩) sB rfl tK sF
   ·
    obtain rfl : i = 80 := by omega
    refine CG.exit ?_
    refine EN.then_exit ?_
    refine EN.then_exit ?_
    refine EN.in_here ?_
    refine EN.then ?_
    refine CG.regT [] mixed (by kernel_rfl) ?_
    refine G.mv ?_
    first | refine G.q rfl rfl rfl rfl (q_ixaddr1 rfl rfl rfl se_77_F33 sz_32_F33 (by decide)) ?_ | refine G.q rfl rfl rfl rfl (q_ixaddr rfl rfl rfl se_77_F33 sz_32_F33 (by decide)) ?_
    refine G.ld ag_32_F33 ?_
    refine G.mv ?_
    first | refine G.q rfl rfl rfl rfl (q_addw rfl rfl rfl lOm lOm) ?_ | refine G.q rfl rfl rfl rfl (q_add rfl rfl rfl) ?_
    refine G.mv ?_
    first | refine G.q rfl rfl rfl rfl (q_ixaddr1 rfl rfl rfl se_77_F33 sz_32_F33 (by decide)) ?_ | refine G.q rfl rfl rfl rfl (q_ixaddr rfl rfl rfl se_77_F33 sz_32_F33 (by decide)) ?_
    refine G.ld ag_32_F33 ?_
    refine G.mv ?_
    first | refine G.q rfl rfl rfl rfl (q_addw rfl rfl rfl lOm lOm) ?_ | refine G.q rfl rfl rfl rfl (q_add rfl rfl rfl) ?_
    refine G.mv ?_
    first | refine G.q rfl rfl rfl rfl (q_ixaddr1 rfl rfl rfl se_77_F33 sz_32_F33 (by decide)) ?_ | refine G.q rfl rfl rfl rfl (q_ixaddr rfl rfl rfl se_77_F33 sz_32_F33 (by decide)) ?_
    refine G.ld ag_32_F33 ?_
    refine G.mv ?_
    first | refine G.q rfl rfl rfl rfl (q_addw rfl rfl rfl lOm lOm) ?_ | refine G.q rfl rfl rfl rfl (q_add rfl rfl rfl) ?_
    refine G.mv ?_
    first | refine G.q rfl rfl rfl rfl (q_ixaddr1 rfl rfl rfl se_77_F33 sz_32_F33 (by decide)) ?_ | refine G.q rfl rfl rfl rfl (q_ixaddr rfl rfl rfl se_77_F33 sz_32_F33 (by decide)) ?_
    refine G.ld ag_32_F33 ?_
    refine G.mv ?_
    first | refine G.q rfl rfl rfl rfl (q_addw rfl rfl rfl lOm lOm) ?_ | refine G.q rfl rfl rfl rfl (q_add rfl rfl rfl) ?_
    refine G.mv ?_
    first | refine G.q rfl rfl rfl rfl (q_ixaddr1 rfl rfl rfl se_77_F33 sz_32_F33 (by decide)) ?_ | refine G.q rfl rfl rfl rfl (q_ixaddr rfl rfl rfl se_77_F33 sz_32_F33 (by decide)) ?_
    refine G.ld ag_32_F33 ?_
    refine G.mv ?_
    first | refine G.q rfl rfl rfl rfl (q_addw rfl rfl rfl lOm lOm) ?_ | refine G.q rfl rfl rfl rfl (q_add rfl rfl rfl) ?_
    refine G.e rfl rfl rfl rfl (e_bslice rfl rfl (bs_77_5_all_F33 _ _ _ _ _)) (fun _ _ _ _ _ _ => trivial) ?_
    rintro _ _ ⟨b161, rfl, rfl⟩
    refine G.as ?_
    refine G.nil ?_
    refine EN.sub (sC 3 (sC 4 (sC 5 Sub.nil))) ?_
    refine EN.in_normal ?_
    refine EN.tr ?_
    refine G.mv ?_
    first | refine G.q rfl rfl rfl rfl (q_add_i rfl rfl rfl oM) ?_ | refine G.q rfl rfl rfl rfl (q_add rfl rfl rfl) ?_
    refine G.as ?_
    refine G.nil ?_
    rw [show ((64 * q : Nat) : Int) + 64 = ((64 * (q + 1) : Nat) : Int) by omega]
    exact EN.round (hl := [_, _]) (N / 64 - (q + 1)) oM (⟨q + 1, _, b161, by omega, rfl, hgo2, rfl, rfl⟩) sB rfl tK sF
 ·
  have hq3 : 64 * q = N := by omega
  rw [List.drop_of_length_le oM, blocks_nil] at hgo
  have hh : h = (Sha.blocks Sha.start1 P).1 := by rw [← hgo]
  refine CG.closeOwn (g := g4) (sz := 1) (n := 5) (cap := 5) (xs := (Sha.wordsL h).map u32v) tK1 (by decide) (by decide) rfl rfl ?_
  refine CG.exit ?_
  refine EN.then_exit ?_
  refine EN.then_exit ?_
  refine EN.in_here ?_
  refine EN.tsr ?_
  refine G.mv ?_
  refine G.call (xs := [_]) rfl rfl (out_spec _ h) bd_51_F33 rfl rfl rfl rfl tK (fun _ _ _ _ _ _ => trivial) ?_
  rintro _ _ ⟨rfl, rfl⟩
  try dsimp only [List.cons_append, List.nil_append]
  refine G.as ?_
  refine G.nil ?_
  refine EN.sub (sC 2 Sub.nil) ?_
  refine EN.then ?_
  refine CG.ret ?_
  rw [hsum, ← hh]
  exact fin_ret1 rfl rfl tK sF (⟨rfl, rfl⟩) _ (.inl rfl)

end Go.Eng
/-
  Laws of packs: the reference's Count; PackSums.
-/
set_option linter.unusedVariables false
set_option linter.unusedSimpArgs false
namespace Go.Eng
open Go.Proofs
theorem ag_5_F34 : aggB Tryd.prog 5 = some false := by kernel_rfl
theorem bT_39_9_F34 : bytesT Tryd.prog 39 9 = some 5 := by kernel_rfl
theorem bd_10_F34 : bodied Tryd.prog 10 = true := by kernel_rfl
theorem bd_11_F34 : bodied Tryd.prog 11 = true := by kernel_rfl
theorem bd_12_F34 : bodied Tryd.prog 12 = true := by kernel_rfl
theorem bd_29_F34 : bodied Tryd.prog 29 = true := by kernel_rfl
theorem bd_30_F34 : bodied Tryd.prog 30 = true := by kernel_rfl
theorem bd_7_F34 : bodied Tryd.prog 7 = true := by kernel_rfl
theorem bd_8_F34 : bodied Tryd.prog 8 = true := by kernel_rfl
theorem ik_3_F34 : intK Tryd.prog 3 = some .i64 := by kernel_rfl
theorem is_51_F34 : (Tryd.prog.underlying 51).isSome = true := by kernel_rfl
theorem sB_9_39_F34 : strB Tryd.prog 9 39 = some 5 := by kernel_rfl
theorem se_39_F34 : sliceE Tryd.prog 39 = some 5 := by kernel_rfl
theorem se_40_F34 : sliceE Tryd.prog 40 = some 34 := by kernel_rfl
theorem sz_5_F34 : sizeB Tryd.prog 5 = some 1 := by kernel_rfl
theorem us_9_F34 : Tryd.prog.underlying 9 = some .string := by kernel_rfl

theorem big4 (a b c d : UInt8) : Sums.fromBig [a, b, c, d] = (a.toNat : Int) * 16777216 + b.toNat * 65536 + c.toNat * 256 + d.toNat := by
  rw [show [a, b, c, d] = [a, b, c] ++ [d] from rfl, Sums.fromBig_snoc, show [a, b, c] = [a, b] ++ [c] from rfl, Sums.fromBig_snoc, show [a, b] = [a] ++ [b] from rfl, Sums.fromBig_snoc, show [a] = [] ++ [a] from rfl, Sums.fromBig_snoc]
  simp only [show Sums.fromBig [] = 0 from rfl]; omega
theorem u8_of {a b : UInt8} (h : (a.toNat : Int) = b.toNat) : a = b := UInt8.toNat_inj.1 (by omega)
theorem head8 {s : List UInt8} (h : 32 ≤ s.length) : s.take 8 ≠ [80, 65, 67, 75, 0, 0, 0, 2] ↔ (s.take 4 ≠ [80, 65, 67, 75] ∨ Sums.fromBig ((s.take 8).drop 4) ≠ 2) := by
  obtain ⟨a0, a1, a2, a3, a4, a5, a6, a7, r, rfl⟩ : ∃ a0 a1 a2 a3 a4 a5 a6 a7 r, s = a0 :: a1 :: a2 :: a3 :: a4 :: a5 :: a6 :: a7 :: r := by
    match s, h with
    | a0 :: a1 :: a2 :: a3 :: a4 :: a5 :: a6 :: a7 :: r, _ => exact ⟨_, _, _, _, _, _, _, _, _, rfl⟩
  rw [show ((a0 :: a1 :: a2 :: a3 :: a4 :: a5 :: a6 :: a7 :: r).take 8).drop 4 = [a4, a5, a6, a7] from rfl, big4]
  have h4 := a4.toNat_lt; have h5 := a5.toNat_lt; have h6 := a6.toNat_lt; have h7 := a7.toNat_lt
  suffices key : (a0 :: a1 :: a2 :: a3 :: a4 :: a5 :: a6 :: a7 :: r).take 8 = [80, 65, 67, 75, 0, 0, 0, 2] ↔ ((a0 :: a1 :: a2 :: a3 :: a4 :: a5 :: a6 :: a7 :: r).take 4 = [80, 65, 67, 75] ∧ (a4.toNat : Int) * 16777216 + a5.toNat * 65536 + a6.toNat * 256 + a7.toNat = 2) by
    rw [Ne, key, Decidable.not_and_iff_or_not]
  constructor
  · intro e; simp at e; obtain ⟨rfl, rfl, rfl, rfl, rfl, rfl, rfl, rfl, _⟩ := e; exact ⟨rfl, rfl⟩
  · rintro ⟨e, e2⟩
    simp at e
    obtain ⟨rfl, rfl, rfl, rfl⟩ := e
    have e4 : a4 = 0 := u8_of (by rw [show ((0 : UInt8).toNat) = 0 from rfl]; omega)
    have e5 : a5 = 0 := u8_of (by rw [show ((0 : UInt8).toNat) = 0 from rfl]; omega)
    have e6 : a6 = 0 := u8_of (by rw [show ((0 : UInt8).toNat) = 0 from rfl]; omega)
    have e7 : a7 = 2 := u8_of (by rw [show ((2 : UInt8).toNat) = 2 from rfl]; omega)
    rw [e4, e5, e6, e7]; rfl
theorem xor_byte (c : UInt8) (y : Int) : ∃ x : UInt8, bits .xor .u8 c.toNat (IntKind.u8.wrap y) = x.toNat := by
  rw [wrap_u8]
  have h1 := c.toNat_lt; have h2 := (u8i y).toNat_lt
  rw [bits_xor_lim (by show _ < 2 ^ 8; omega) (by show _ < 2 ^ 8; omega)]
  refine ⟨c ^^^ u8i y, ?_⟩
  rw [UInt8.toNat_xor]
theorem take_set_map {cur : List Value} {l : List UInt8} {n i : Nat} {x : UInt8} (h : cur.take n = l.map u8v) : (cur.set i (u8v x)).take n = (l.set i x).map u8v := by
  rw [List.take_set, h, List.map_set]

attribute [local irreducible] cel celZ own ownM exS ownG tabH TabI rowR shortL buildE allE countE readE Sha.sum1 Sums.fromBig

set_option maxRecDepth 100000 in
set_option maxHeartbeats 1000000 in
theorem rcount_spec (s : List UInt8) (hs : s.length ≤ 100000000) : Spec Tryd.prog 12 #[str s] [] (Ret fun v hl => v = .tuple #[.int .i64 ((countE s).1 : Nat), .int .i64 ((countE s).2 : Nat)] ∧ hl = []) := by
 refine Spec.enter Tryd.func12 rfl rfl rfl (fun F w0 => ?_)
 dsimp only [argL, List.cons_append, List.nil_append]
 refine CG.sr ?_
 refine G.as ?_
 refine G.as ?_
 refine G.nil ?_
 refine EN.ts ?_
 refine CG.sr ?_
 refine G.mv ?_
 refine G.q rfl rfl rfl rfl (q_len_str rfl rfl us_9_F34) ?_
 refine G.q rfl rfl rfl rfl (q_lss rfl rfl rfl) ?_
 refine G.nil ?_
 refine EN.then ?_
 refine CG.cond rfl (fun h7 => ?_) (fun h7 => ?_)
 ·
  have hE : countE s = (0, 6) := by unfold countE; exact if_pos oM
  refine CG.sr ?_
  refine G.as ?_
  refine G.as ?_
  refine G.nil ?_
  refine EN.then ?_
  refine CG.ret ?_
  refine EN.then_ret ?_
  rw [hE]
  try rw [← et]
  exact fin_ret2 rfl rfl rfl tK sF (⟨rfl, rfl⟩) _ (.inl rfl)
 ·
  have h32 : 32 ≤ s.length := by omega
  have h8 : 8 ≤ s.length := by omega
  have h812 : 8 ≤ 12 ∧ 12 ≤ s.length := by omega
  have hb := Sums.fromBig_lt' (s := (s.take 12).drop 8) (j := 4) (by simp; omega)
  have e20 : (s.length : Int) - 20 = ((s.length - 20 : Nat) : Int) := by omega
  refine CG.skip ?_
  refine EN.ts ?_
  refine CG.sr ?_
  refine G.mv ?_
  refine G.q rfl rfl rfl rfl (q_slice_hi rfl rfl rfl us_9_F34 (h8)) ?_
  refine G.q rfl rfl rfl rfl (q_neq_s rfl rfl rfl) ?_
  refine G.nil ?_
  refine EN.then ?_
  refine CG.cond rfl (fun h10 => ?_) (fun h10 => ?_)
  ·
   have hE : countE s = (0, 3) := by unfold countE; rw [if_neg oM, if_pos ((head8 h32).1 h10)]
   refine CG.sr ?_
   refine G.as ?_
   refine G.as ?_
   refine G.nil ?_
   refine EN.then ?_
   refine CG.ret ?_
   refine EN.then_ret ?_
   rw [hE]
   try rw [← et]
   exact fin_ret2 rfl rfl rfl tK sF (⟨rfl, rfl⟩) _ (.inl rfl)
  ·
   have hn3 := fun h => h10 ((head8 h32).2 h)
   refine CG.skip ?_
   refine EN.tsr ?_
   refine G.mv ?_
   refine G.q rfl rfl rfl rfl (q_slice_lh rfl rfl rfl rfl us_9_F34 (h812)) ?_
   refine G.call (xs := [_]) rfl rfl (number_spec _ (by simp; omega)) bd_29_F34 rfl rfl rfl rfl tK (fun _ _ _ _ _ _ => trivial) ?_
   rintro _ _ ⟨rfl, rfl⟩
   try dsimp only [List.cons_append, List.nil_append]
   refine G.as ?_
   refine G.nil ?_
   refine EN.sub (sC 0 (sC 2 (sC 3 (sC 4 Sub.nil)))) ?_
   refine EN.ts ?_
   refine CG.sr ?_
   refine G.mv ?_
   refine G.q rfl rfl rfl rfl (q_gtr rfl rfl rfl) ?_
   refine G.nil ?_
   refine EN.then ?_
   refine CG.cond rfl (fun h15 => ?_) (fun h15 => ?_)
   ·
    have hE : countE s = (0, 2) := by unfold countE; rw [if_neg oM, if_neg hn3, if_pos h15]
    refine CG.sr ?_
    refine G.as ?_
    refine G.as ?_
    refine G.nil ?_
    refine EN.then ?_
    refine CG.ret ?_
    refine EN.then_ret ?_
    rw [hE]
    try rw [← et]
    exact fin_ret2 rfl rfl rfl tK sF (⟨rfl, rfl⟩) _ (.inl rfl)
   ·
    refine CG.skip ?_
    refine EN.ts ?_
    refine CG.seq ?_
    refine CG.regT [] mixed (by kernel_rfl) ?_
    refine G.mv ?_
    refine G.mv ?_
    refine G.q rfl rfl rfl rfl (q_len_str rfl rfl us_9_F34) ?_
    first | refine G.q rfl rfl rfl rfl (q_sub_i rfl rfl rfl oM) ?_ | refine G.q rfl rfl rfl rfl (q_sub rfl rfl rfl) ?_
    rw [e20]
    refine G.q rfl rfl rfl rfl (q_slice_hi rfl rfl rfl us_9_F34 oM) ?_
    refine G.call (xs := [_]) rfl rfl (rsum1_spec _ (by simp; omega)) bd_30_F34 rfl rfl rfl rfl tK (fun _ _ _ _ _ _ => trivial) ?_
    rintro _ _ ⟨rfl, rfl⟩
    try dsimp only [List.cons_append, List.nil_append]
    refine G.mv ?_
    refine G.mv ?_
    refine G.q rfl rfl rfl rfl (q_len_str rfl rfl us_9_F34) ?_
    first | refine G.q rfl rfl rfl rfl (q_sub_i rfl rfl rfl oM) ?_ | refine G.q rfl rfl rfl rfl (q_sub rfl rfl rfl) ?_
    rw [e20]
    refine G.q rfl rfl rfl rfl (q_slice_lo rfl rfl rfl us_9_F34 oM) ?_
    refine G.q rfl rfl rfl rfl (q_neq_s rfl rfl rfl) ?_
    refine G.nil ?_
    refine EN.sub (sC 2 (sC 3 (sC 4 (sC 27 Sub.nil)))) ?_
    refine EN.then ?_
    refine CG.cond rfl (fun h27 => ?_) (fun h27 => ?_)
    ·
     have hE : countE s = (0, 5) := by unfold countE; rw [if_neg oM, if_neg hn3, if_neg h15, if_pos h27]
     refine CG.sr ?_
     refine G.as ?_
     refine G.as ?_
     refine G.nil ?_
     refine EN.then ?_
     refine CG.ret ?_
     refine EN.then_ret ?_
     rw [hE]
     try rw [← et]
     exact fin_ret2 rfl rfl rfl tK sF (⟨rfl, rfl⟩) _ (.inl rfl)
    ·
     have hE : countE s = ((Sums.fromBig ((s.take 12).drop 8)).toNat, 0) := by unfold countE; rw [if_neg oM, if_neg hn3, if_neg h15, if_neg h27]
     have et : Sums.fromBig ((s.take 12).drop 8) = ((Sums.fromBig ((s.take 12).drop 8)).toNat : Nat) := by omega
     refine CG.skip ?_
     refine EN.tsr ?_
     refine G.mv ?_
     first | refine G.q rfl rfl rfl rfl (q_conv_in rfl rfl is_51_F34 ik_3_F34 (wrap64_in oM)) ?_ | refine G.q rfl rfl rfl rfl (q_conv rfl rfl is_51_F34 ik_3_F34) ?_
     refine G.as ?_
     refine G.as ?_
     refine G.nil ?_
     refine EN.then ?_
     refine CG.ret ?_
     rw [hE]
     try rw [← et]
     exact fin_ret2 rfl rfl rfl tK sF (⟨rfl, rfl⟩) _ (.inl rfl)

set_option maxRecDepth 100000 in
set_option maxHeartbeats 1000000 in
theorem packSums_spec {tz : TypeId × Nat × Nat} (items : List Itm) (ad : Option Addr) (c0 : Nat) (ob : Obj) (bit : Int) : Spec Tryd.prog 4 #[.slice ad items.length c0, .int .i64 bit] [TabI tz, rowR ad items.length 5 (items.flatMap Itm.cells) ob] (Ret fun v hl => v = .bool true ∧ hl = [TabI tz, rowR ad items.length 5 (items.flatMap Itm.cells) ob]) := by
 refine Spec.enter Tryd.func4 rfl rfl rfl (fun F w0 => ?_)
 dsimp only [argL, List.cons_append, List.nil_append]
 refine CG.sr ?_
 refine G.as ?_
 refine G.nil ?_
 refine EN.tsr ?_
 refine G.mv ?_
 refine G.call (xs := [_, _]) rfl rfl (short_spec items 10 ad c0 ob oM) bd_10_F34 rfl rfl rfl rfl tK (fun _ _ _ _ _ _ => trivial) ?_
 rintro v hl rfl
 try dsimp only [List.cons_append, List.nil_append]
 obtain ⟨S, hS⟩ : ∃ S, shortL items 10 = S := ⟨_, rfl⟩
 rw [hS]
 refine G.fact (p := own 29 5 v S.length (S.flatMap Itm.cells)) (α := ∃ ad1 c1, v = .slice ad1 S.length c1) tK1 (fun h hh => (by obtain ⟨_, _, ad1, c1, e, _⟩ := own_shape hh; exact ⟨ad1, c1, e⟩)) (fun hv => ?_)
 obtain ⟨ad1, c1, rfl⟩ := hv
 refine G.imp (p := own 29 5 (.slice ad1 S.length c1) S.length (S.flatMap Itm.cells)) (q := ownO 29 5 (.slice ad1 S.length c1) S.length (S.flatMap Itm.cells)) tK1 (fun h hh => ownG_weak (own_G.1 hh)) ?_
 refine G.call (xs := [_]) rfl rfl (build_spec S ad1 c1) bd_7_F34 rfl rfl rfl rfl tK (fun _ _ _ _ _ _ => trivial) ?_
 rintro _ _ ⟨rfl, rfl⟩
 have hbf := (build_facts S).1
 obtain ⟨r, hr⟩ : ∃ r, buildE S = r := ⟨_, rfl⟩
 rw [hr] at hbf ⊢
 try dsimp only [List.cons_append, List.nil_append]
 refine G.mv ?_
 refine G.q rfl rfl rfl rfl (q_extract rfl rfl rfl) ?_
 refine G.q rfl rfl rfl rfl (q_extract rfl rfl rfl) ?_
 refine G.as ?_
 refine G.as ?_
 refine G.nil ?_
 refine EN.ts ?_
 refine CG.sr ?_
 refine G.mv ?_
 refine G.q rfl rfl rfl rfl (q_neq rfl rfl rfl) ?_
 refine G.mv ?_
 refine G.split (t := 20) rfl (fun g20 => ?_) (fun g20 => ?_)
 ·
  refine G.skip rfl rfl rfl ?_
  refine G.skip rfl rfl rfl ?_
  refine G.q rfl rfl rfl rfl (q_pick_t rfl rfl rfl) ?_
  refine G.mv ?_
  refine G.skip rfl rfl rfl ?_
  refine G.skip rfl rfl rfl ?_
  refine G.skip rfl rfl rfl ?_
  refine G.skip rfl rfl rfl ?_
  refine G.skip rfl rfl rfl ?_
  refine G.q rfl rfl rfl rfl (q_pick_t rfl rfl rfl) ?_
  refine G.nil ?_
  refine EN.sub (sC 1 (sC 4 (sC 5 (sC 30 Sub.nil)))) ?_
  refine EN.then ?_
  refine CG.cond_t rfl ?_
  refine CG.sr ?_
  refine G.call (xs := []) rfl rfl (awake_spec) bd_8_F34 rfl rfl rfl rfl tK (fun _ _ _ _ _ _ => trivial) ?_
  rintro _ _ ⟨rfl, rfl⟩
  try dsimp only [List.cons_append, List.nil_append]
  refine G.as ?_
  refine G.nil ?_
  refine EN.then ?_
  refine CG.ret ?_
  refine EN.then_ret ?_
  try rw [h0]
  exact fin_ret1 rfl rfl tK sF (⟨by simp, rfl⟩) _ (.inl rfl)
 ·
  refine G.mv ?_
  refine G.q rfl rfl rfl rfl (q_lss rfl rfl rfl) ?_
  refine G.q rfl rfl rfl rfl (q_pick_f rfl rfl rfl) ?_
  refine G.mv ?_
  refine G.split (t := 24) rfl (fun g24 => ?_) (fun g24 => ?_)
  ·
   refine G.skip rfl rfl rfl ?_
   refine G.skip rfl rfl rfl ?_
   refine G.skip rfl rfl rfl ?_
   refine G.skip rfl rfl rfl ?_
   refine G.skip rfl rfl rfl ?_
   refine G.q rfl rfl rfl rfl (q_pick_t rfl rfl rfl) ?_
   refine G.nil ?_
   refine EN.sub (sC 1 (sC 4 (sC 5 (sC 30 Sub.nil)))) ?_
   refine EN.then ?_
   refine CG.cond_t rfl ?_
   refine CG.sr ?_
   refine G.call (xs := []) rfl rfl (awake_spec) bd_8_F34 rfl rfl rfl rfl tK (fun _ _ _ _ _ _ => trivial) ?_
   rintro _ _ ⟨rfl, rfl⟩
   try dsimp only [List.cons_append, List.nil_append]
   refine G.as ?_
   refine G.nil ?_
   refine EN.then ?_
   refine CG.ret ?_
   refine EN.then_ret ?_
   try rw [h0]
   exact fin_ret1 rfl rfl tK sF (⟨by simp, rfl⟩) _ (.inl rfl)
  ·
   refine G.mv ?_
   refine G.mv ?_
   refine G.q rfl rfl rfl rfl (q_len_str rfl rfl us_9_F34) ?_
   first | refine G.q rfl rfl rfl rfl (q_mul_i rfl rfl rfl oM) ?_ | refine G.q rfl rfl rfl rfl (q_mul rfl rfl rfl) ?_
   refine G.q rfl rfl rfl rfl (q_geq rfl rfl rfl) ?_
   refine G.q rfl rfl rfl rfl (q_pick_f rfl rfl rfl) ?_
   refine G.nil ?_
   refine EN.sub (sC 1 (sC 4 (sC 5 (sC 30 Sub.nil)))) ?_
   refine EN.then ?_
   refine CG.cond rfl (fun h30 => ?_) (fun h30 => ?_)
   ·
    refine CG.sr ?_
    refine G.call (xs := []) rfl rfl (awake_spec) bd_8_F34 rfl rfl rfl rfl tK (fun _ _ _ _ _ _ => trivial) ?_
    rintro _ _ ⟨rfl, rfl⟩
    try dsimp only [List.cons_append, List.nil_append]
    refine G.as ?_
    refine G.nil ?_
    refine EN.then ?_
    refine CG.ret ?_
    refine EN.then_ret ?_
    try rw [h0]
    exact fin_ret1 rfl rfl tK sF (⟨by simp, rfl⟩) _ (.inl rfl)
   ·
    obtain ⟨b, rfl⟩ := Int.eq_ofNat_of_zero_le (by omega : 0 ≤ bit)
    obtain ⟨n, hn⟩ : ∃ n, r.1.length = n := ⟨_, rfl⟩
    have hbn : b / 8 < n := by omega
    refine CG.skip ?_
    refine EN.tsr ?_
    refine G.mv ?_
    refine G.e rfl rfl rfl rfl (e_s2b rfl rfl sB_9_39_F34 oM) (fun _ _ _ _ _ _ => trivial) ?_
    rintro _ _ rfl
    refine G.as ?_
    refine G.nil ?_
    refine EN.ts ?_
    rw [hn]
    refine CG.openM tK1 (fun g cap cur z hv0 hl0 hok hnc hcm hcl hct => ?_)
    subst hv0
    have eb : (b : Int) / 8 = ((b / 8 : Nat) : Int) := by omega
    obtain ⟨c, hc⟩ := get_some (l := r.1) (k := b / 8) oM
    have hcell : nth cur (b / 8) = some (u8v c) := nth_take (n := n) (xs := r.1.map u8v) (by rw [Nat.mul_one]; exact hct) (by rw [List.getElem?_map, hc]; rfl)
    refine CG.regZ [38] (Keeps _ [celZ g 5 z cur]) mixed (by kernel_rfl) (fun w hw => Keeps.of hw tK) ?_
    refine G.mv ?_
    refine G.mv ?_
    first | refine G.q rfl rfl rfl rfl (q_quo_i rfl rfl rfl oM) ?_ | refine G.q rfl rfl rfl rfl (q_quo rfl rfl rfl oM) ?_
    rw [eb]
    first | refine G.q rfl rfl rfl rfl (q_ixaddr1 rfl rfl rfl se_39_F34 sz_5_F34 oM) ?_ | refine G.q rfl rfl rfl rfl (q_ixaddr rfl rfl rfl se_39_F34 sz_5_F34 oM) ?_
    refine G.rK rfl rfl rfl rfl rfl (fun R => r_loadZ rfl rfl ag_5_F34 mB (hcell)) ?_
    refine G.mv ?_
    first | refine G.q rfl rfl rfl rfl (q_rem_n rfl rfl rfl oM) ?_ | refine G.q rfl rfl rfl rfl (q_rem rfl rfl rfl oM) ?_
    refine G.q rfl rfl rfl rfl (q_shl rfl rfl rfl oM) ?_
    refine G.q rfl rfl rfl rfl (q_xor rfl rfl rfl) ?_
    obtain ⟨x, hx⟩ := xor_byte c (1 * 2 ^ min ((b : Int) % 8).toNat IntKind.u8.bits)
    rw [hx]
    first | refine G.q rfl rfl rfl rfl (q_ixaddr1 rfl rfl rfl se_39_F34 sz_5_F34 oM) ?_ | refine G.q rfl rfl rfl rfl (q_ixaddr rfl rfl rfl se_39_F34 sz_5_F34 oM) ?_
    refine G.z0 rfl rfl rfl (e_storeZ rfl rfl rfl sz_5_F34 rfl hok oM (by repeat (first | exact Rep.here | apply Rep.there))) ?_ rfl
    rintro _ _ ⟨rfl, rfl⟩
    refine G.nil ?_
    refine EN.sub (sC 4 (sC 7 Sub.nil)) ?_
    refine EN.ts ?_
    obtain ⟨l, hl⟩ : ∃ l, r.1.set (b / 8) x = l := ⟨_, rfl⟩
    have hll : n = l.length := by rw [← hl, List.length_set, hn]
    have hcl2 : (cur.set (b / 8) (.int .u8 (x.toNat : Int))).take l.length = l.map u8v := by rw [← hll, ← hl]; exact take_set_map hct
    obtain ⟨cur2, hcur⟩ : ∃ cur2, cur.set (b / 8) (.int .u8 (x.toNat : Int)) = cur2 := ⟨_, rfl⟩
    rw [hcur] at hcl2 ⊢
    rw [hll]
    refine CG.reg ?_
    refine G.mv ?_
    refine G.r rfl rfl rfl rfl (r_b2sZ rfl rfl bT_39_9_F34 mB hcl2) ?_
    refine G.call (xs := [_]) rfl rfl (all_spec l oM) bd_11_F34 rfl rfl rfl rfl tK (fun _ _ _ _ _ _ => trivial) ?_
    rintro _ _ ⟨sv, rfl, rfl⟩
    have hae := @all_err l
    have hao := @all_ok l
    obtain ⟨p, hp⟩ : ∃ p, allE l = p := ⟨_, rfl⟩
    rw [hp] at hae hao ⊢
    try dsimp only [List.cons_append, List.nil_append]
    refine G.fact (p := own 34 7 sv p.1.length (p.1.flatMap Pk.Ent.cells)) (α := ∃ ad2 c2, sv = .slice ad2 p.1.length c2) tK1 (fun h hh => (by obtain ⟨_, _, ad2, c2, e, _⟩ := own_shape hh; exact ⟨ad2, c2, e⟩)) (fun hv => ?_)
    obtain ⟨ad2, c2, rfl⟩ := hv
    refine G.mv ?_
    refine G.q rfl rfl rfl rfl (q_extract rfl rfl rfl) ?_
    refine G.q rfl rfl rfl rfl (q_extract rfl rfl rfl) ?_
    refine G.as ?_
    refine G.as ?_
    refine G.nil ?_
    refine EN.tsr ?_
    refine G.mv ?_
    refine G.r rfl rfl rfl rfl (r_b2sZ rfl rfl bT_39_9_F34 mB hcl2) ?_
    refine G.call (xs := [_]) rfl rfl (rcount_spec l oM) bd_12_F34 rfl rfl rfl rfl tK (fun _ _ _ _ _ _ => trivial) ?_
    rintro _ _ ⟨rfl, rfl⟩
    try dsimp only [List.cons_append, List.nil_append]
    refine G.mv ?_
    refine G.q rfl rfl rfl rfl (q_extract rfl rfl rfl) ?_
    refine G.q rfl rfl rfl rfl (q_extract rfl rfl rfl) ?_
    refine G.as ?_
    refine G.as ?_
    refine G.nil ?_
    refine EN.sub (sC 4 (sC 8 (sC 9 (sC 11 Sub.nil)))) ?_
    refine EN.tsr ?_
    refine G.call (xs := []) rfl rfl (awake_spec) bd_8_F34 rfl rfl rfl rfl tK (fun _ _ _ _ _ _ => trivial) ?_
    rintro _ _ ⟨rfl, rfl⟩
    try dsimp only [List.cons_append, List.nil_append]
    refine G.mv ?_
    refine G.mv ?_
    refine G.q rfl rfl rfl rfl (q_eql rfl rfl rfl) ?_
    refine G.mv ?_
    refine G.split (t := 60) rfl (fun g60 => ?_) (fun g60 => ?_)
    ·
     refine G.skip rfl rfl rfl ?_
     refine G.skip rfl rfl rfl ?_
     refine G.skip rfl rfl rfl ?_
     refine G.skip rfl rfl rfl ?_
     refine G.skip rfl rfl rfl ?_
     refine G.skip rfl rfl rfl ?_
     refine G.skip rfl rfl rfl ?_
     refine G.q rfl rfl rfl rfl (q_pick_t rfl rfl rfl) ?_
     refine G.q rfl rfl rfl rfl (q_pick_t rfl rfl rfl) ?_
     refine G.as ?_
     refine G.nil ?_
     refine EN.sub (sC 4 Sub.nil) ?_
     refine EN.then ?_
     refine CG.ret ?_
     try rw [h0]
     exact fin_ret1 rfl rfl tK sF (⟨by simp, rfl⟩) _ (.inl rfl)
    ·
     have h9 : p.2 ≠ 0 := fun h => g60 (by have := (hao h).1; omega)
     have h0 : p.1.length = 0 := by rw [hae h9]; rfl
     refine G.mv ?_
     refine G.q rfl rfl rfl rfl (q_neq rfl rfl rfl) ?_
     refine G.mv ?_
     refine G.split (t := 63) rfl (fun g63 => ?_) (fun g63 => absurd oM g63)
     refine G.mv ?_
     refine G.q rfl rfl rfl rfl (q_len_sl rfl rfl se_40_F34) ?_
     refine G.q rfl rfl rfl rfl (q_eql rfl rfl rfl) ?_
     refine G.q rfl rfl rfl rfl (q_pick_t rfl rfl rfl) ?_
     refine G.q rfl rfl rfl rfl (q_pick_f rfl rfl rfl) ?_
     refine G.q rfl rfl rfl rfl (q_pick_t rfl rfl rfl) ?_
     refine G.as ?_
     refine G.nil ?_
     refine EN.sub (sC 4 Sub.nil) ?_
     refine EN.then ?_
     refine CG.ret ?_
     try rw [h0]
     exact fin_ret1 rfl rfl tK sF (⟨by simp, rfl⟩) _ (.inl rfl)

end Go.Eng
/-
  Closing the cards: what every law of packs shares.
-/
set_option linter.unusedVariables false
set_option linter.constructorNameAsVariable false
set_option maxRecDepth 100000
namespace Go.Proofs.YtpoaiohhbpbofaaDoor
open Go.ChangeShapes Go.WideShapes Go.ChangeAt Go.RowKit Go.Eng
section
variable {H : Type} {enc : TypeId × Value → H} {P : Program}
/-- all that stood stands as it stood -/
theorem post_of_kept {f : Func} {s : ChangeSpec} {apart fresh handsOn again : Bool} {W W' : World} {args : Array Value} {v : Value} {ds gs : List (DataW H)} {before pa pv : List MemPlace}
    (hW : DataW.Whole enc P f.params.toList s.vars apart W args.toList ds gs before)
    (hres : ∀ (b : Nat) (sp : Nat → Bool) (hd : Bool), DataW.TrodAll enc P W' b sp hd f.resultTypes.toList (v.resultList f.resultTypes.size) (s.fn H (ds ++ gs)).results [])
    (hargs : ∀ sp : Nat → Bool, (∀ p ∈ before, sp p.block = true) → DataW.TrodAll enc P W' 0 sp true f.params.toList args.toList (s.fn H (ds ++ gs)).args pa)
    (hvars : ∀ sp : Nat → Bool, (∀ p ∈ before, sp p.block = true) → DataW.TrodVars enc P W' sp s.vars (s.fn H (ds ++ gs)).vars pv)
    (hps : before = pa ++ pv) (hos : W'.os = W.os) (hout : W'.output = W.output) (hh : ∀ i, i < W.heap.size → W'.heap[i]? = W.heap[i]?)
    (hok : ∀ (j : Nat) (t : TypeId) (r : Value), f.resultTypes[j]? = some t → (v.resultList f.resultTypes.size)[j]? = some r → Value.okWide P W' .any 0 t r) :
    s.post enc P f apart fresh handsOn again W args v W' := by
  have hk : W.keptBut W' (· ∈ before) := ⟨hos, hout, fun i hi => by
    rw [hh i hi]
    split
    · rename_i h1 h2; rw [h1] at h2; cases h2; exact ⟨rfl, rfl, rfl, fun _ _ => rfl⟩
    · rename_i h1 h2; rw [h1] at h2; cases h2; exact .inr ⟨rfl, rfl⟩
    · rfl⟩
  have hlt : ∀ p ∈ before, p.block < W.heap.size := fun p hp => hW.lt p hp
  have hold : ∀ p ∈ before, (fun b => decide (b < W.heap.size)) p.block = true := fun p hp => by simpa using hlt p hp
  refine ⟨ds, gs, before, [], pa, pv, hW, hres _ _ _, hargs _ hold, hvars _ hold, World.keptBut_mono (fun p hp => ⟨hp, ?_⟩) hk, fun _ => ?_⟩
  · rw [hps, List.mem_append] at hp
    exact Or.inr hp
  · obtain ⟨_, _, _, _, _, hz, hn⟩ := hW
    refine ⟨hok, _, _, ([] ++ pa) ++ pv, ⟨[] ++ pa, pv, trodAll_append (hargs _ (fun _ _ => rfl)) (hres _ _ _), hvars _ (fun _ _ => rfl), rfl, ?_, ?_⟩, ?_⟩
    · intro b off hp
      have hb : MemPlace.cell b off ∈ before := by rw [hps]; simpa using hp
      have h1 := hh b (hlt _ hb)
      have h2 := hz b off hb
      unfold World.frozen? at h2 ⊢
      rw [show (⟨b, off, none⟩ : Addr).block = b from rfl] at h2 ⊢
      rw [h1]; exact h2
    · intro ha
      have := hn ha
      rw [hps] at this
      simpa using this
    · intro p hp _
      rw [hps]
      simpa using hp
end
theorem own : ownKnob Tryd.prog.godebug = none := by kernel_rfl
theorem gTab : Tryd.prog.globalNamed "internal/strconv.uint64pow10" = some 0 := by kernel_rfl
theorem gTabType : (Tryd.prog.globals[0]?).map (·.type) = some 149 := by kernel_rfl
theorem cellsA : Tryd.prog.cellsOf 149 = 20 := by kernel_rfl
theorem cellsE : Tryd.prog.cellsOf 51 = 1 := by kernel_rfl
theorem tabEq {H : Type} : (Rows.laid_internal_strconv_uint64pow10 : DataW H) = Lib.tabData .u64 Lib.pow10Tab := by kernel_rfl
def laid3 : List (String × DataW Unit) := [("math/bits.deBruijn32tab", Rows.laid_math_bits_deBruijn32tab), ("math/bits.deBruijn64tab", Rows.laid_math_bits_deBruijn64tab), ("internal/strconv.uint64pow10", Rows.laid_internal_strconv_uint64pow10)]
theorem table {W : World} (h : laidMetH Tryd.prog laid3 W) : Lib.TabIs Tryd.prog W "internal/strconv.uint64pow10" .u64 Lib.pow10Tab := by
  have h' : laidMet Tryd.prog laid3 W := h
  unfold laid3 at h'
  obtain ⟨ps, ⟨_, _, _, _, _, _, _, _, _, _, ⟨_, _, _, _, _, _, _, _, _, _, ⟨g', t', cs, fuel, p, q, hg', ht', hvar, hd, _, _⟩, _⟩, _⟩, _⟩ := h'
  obtain rfl := Option.some.inj (gTabType.symm.trans (by rw [← Option.some.inj (gTab.symm.trans hg')] at ht'; exact ht'))
  rw [tabEq] at hd
  unfold Lib.TabIs
  rw [hvar, ← Lib.cells_of_tab Tryd.underlying149 Tryd.underlying51 cellsE cellsA hd]
/-- the table's block -/
theorem tableAt {W : World} (h : laidMetH Tryd.prog laid3 W) : ∃ tz : TypeId × Nat × Nat, W.heap[0]? = some (.cells (Lib.pow10Tab.map fun z => .int .u64 z).toArray tz.1 tz.2) := by
  have ht := table h
  unfold Lib.TabIs World.var? at ht
  rw [gTab, Option.bind_some] at ht
  split at ht
  · rename_i cs T z hc
    cases ht
    exact ⟨(T, z), hc⟩
  · cases ht
def litV : DataW Unit → Value
  | .lit (.int k n) => .int k n
  | _ => .bool false
def tabV : DataW Unit → Array Value
  | .agg l => (l.map litV).toArray
  | _ => #[]
def layV (d : DataW Unit) : Obj → Obj
  | .cells _ t z => .cells (tabV d) t z
  | o => o
/-- A WORLD FOR THE WITNESS -/
noncomputable def laidWorld (os : Os) : World :=
  { World.holding Tryd.prog os ⟨#[], #[], []⟩ with heap := (((World.holding Tryd.prog os ⟨#[], #[], []⟩).heap.modify 1 (layV Rows.laid_math_bits_deBruijn32tab)).modify 2 (layV Rows.laid_math_bits_deBruijn64tab)).modify 0 (layV Rows.laid_internal_strconv_uint64pow10) }
theorem laid_met (os : Os) (args : Array Value) : laidMet Tryd.prog laid3 ((laidWorld os).forCall (fun _ _ => 0) ⟨#[], args, []⟩).memory :=
  laidMet_of_run' 8 (by kernel_rfl) (by kernel_rfl)
theorem str_of (s : ByteArray) : Value.string s = str s.data.toList := by unfold str; rfl
theorem cellsOb : Tryd.prog.cellsOf 23 = 2 := by kernel_rfl
theorem cellsI : Tryd.prog.cellsOf 3 = 1 := by kernel_rfl
theorem cellsS : Tryd.prog.cellsOf 9 = 1 := by kernel_rfl
/-- what an api.Object reads as -/
theorem open_object {H : Type} {enc : TypeId × Value → H} {W : World} {base b0 : Nat} {sp : Nat → Bool} {held : Bool} {r : Reach} {v : Value} {d : DataW H} {ps : List MemPlace}
    (hval : Value.okWide Tryd.prog W r b0 23 v) (hd : DataW.Trod enc Tryd.prog W base sp held 23 v d ps) :
    ∃ (k : Int) (s : List UInt8), v = .agg #[.int .i64 k, str s] ∧ d = .agg [.lit (.int .i64 k), .lit (.string s)] ∧ ps = [] ∧ (Lit.int .i64 k).wf = true ∧ s.length ≤ maxLen := by
  obtain ⟨cs, rfl, hcs⟩ := okWide_struct Tryd.underlying23 hval
  obtain ⟨fuel, hf⟩ := hd
  obtain ⟨y0, y1, n, hx, hl, t0, t1⟩ := trod_struct2 Tryd.underlying23 hf
  obtain ⟨k, c0, e0, hw⟩ := DataW.trod_int Tryd.underlying3 t0
  obtain ⟨s, c1, e1, hs⟩ := DataW.trod_string Tryd.underlying9 t1
  rw [cellsOb] at hl
  rw [cellsI] at c0
  rw [cellsS] at c1
  subst e0
  subst e1
  obtain ⟨rfl, rfl⟩ := Prod.mk.inj hx
  have hcl : cs.toList = [.int .i64 k, .string s] := by
    have hl' : cs.toList.length = 2 := hl
    have c0' : (cs.toList.drop 0).take 1 = [.int .i64 k] := c0
    have c1' : (cs.toList.drop 1).take 1 = [.string s] := c1
    generalize cs.toList = l at hl' c0' c1'
    match l, hl', c0', c1' with
    | [a, b], _, h0, h1 => simp at h0 h1; rw [h0, h1]
  have hcs2 : cs = #[.int .i64 k, str s.data.toList] := by rw [← str_of]; apply Array.toList_inj.1; rw [hcl]
  exact ⟨k, s.data.toList, by rw [hcs2], rfl, rfl, hw, by simpa using hs⟩
/-- .. and back -/
theorem shut_object {H : Type} {enc : TypeId × Value → H} {W : World} {base : Nat} {sp : Nat → Bool} {held : Bool} {k : Int} {s : List UInt8} (hk : (Lit.int .i64 k).wf = true) (hs : s.length ≤ maxLen) :
    DataW.Trod enc Tryd.prog W base sp held 23 (.agg #[.int .i64 k, str s]) (.agg [.lit (.int .i64 k), .lit (.string s)]) [] := by
  have t0 : DataW.trod enc Tryd.prog W base sp held 1 3 [.int .i64 k] = some (.lit (.int .i64 k), []) := trod_int_mk 0 Tryd.underlying3 hk
  have t1 : DataW.trod enc Tryd.prog W base sp held 1 9 [str s] = some (.lit (.string s), []) := by
    have : s.toArray.size ≤ maxLen := by simpa using hs
    unfold str
    simp [DataW.trod, Tryd.underlying9, ByteArray.size, hs]
  exact ⟨2, trod_struct2_mk (cs := [.int .i64 k, str s]) Tryd.underlying23 (by rw [cellsOb]; rfl) (by rw [cellsI]; exact t0) (by rw [cellsS]; exact t1)⟩
end Go.Proofs.YtpoaiohhbpbofaaDoor
/-
  A caller's row of items, opened.
-/
set_option linter.unusedVariables false
set_option linter.constructorNameAsVariable false
set_option maxRecDepth 100000
namespace Go.Proofs.YtpoaiohhbpbofaaDoor
open Go.ChangeShapes Go.WideShapes Go.ChangeAt Go.RowKit Go.Eng
theorem cellsIt : Tryd.prog.cellsOf 29 = 5 := by kernel_rfl
theorem cellsB : Tryd.prog.cellsOf 4 = 1 := by kernel_rfl
theorem open_item {H : Type} {enc : TypeId × Value → H} {W : World} {base n : Nat} {sp : Nat → Bool} {held : Bool} {cs : List Value} {x : DataW H × List MemPlace}
    (h : DataW.trod enc Tryd.prog W base sp held n 29 cs = some x) : ∃ it : Itm, cs = it.cells := by
  obtain ⟨xs, k, hk, hxy, hl, hxl, hf⟩ := DataW.trod_struct Tryd.underlying29 h
  rw [cellsIt] at hl
  match xs, hxl with
  | [y0, y1, y2, y3], _ =>
    have g0 := hf 0 _ rfl
    have g1 := hf 1 _ rfl
    have g2 := hf 2 _ rfl
    have g3 := hf 3 _ rfl
    simp only [List.getElem?_cons_zero, List.getElem?_cons_succ] at g0 g1 g2 g3
    obtain ⟨z0, z1, n', hx0, hl0, t0, t1⟩ := trod_struct2 Tryd.underlying23 g0
    obtain ⟨k1, c0, e0, hw⟩ := DataW.trod_int Tryd.underlying3 t0
    obtain ⟨s, c1, e1, hs⟩ := DataW.trod_string Tryd.underlying9 t1
    obtain ⟨b1, c2, e2⟩ := DataW.trod_bool Tryd.underlying4 g1
    obtain ⟨k2, c3, e3, hw3⟩ := DataW.trod_int Tryd.underlying3 g2
    obtain ⟨b2, c4, e4⟩ := DataW.trod_bool Tryd.underlying4 g3
    have c0 : (((cs.drop 0).take (Tryd.prog.cellsOf 23)).drop 0).take (Tryd.prog.cellsOf 3) = [.int .i64 k1] := c0
    have c1 : (((cs.drop 0).take (Tryd.prog.cellsOf 23)).drop 1).take (Tryd.prog.cellsOf 9) = [.string s] := c1
    have c2 : (cs.drop 2).take (Tryd.prog.cellsOf 4) = [.bool b1] := c2
    have c3 : (cs.drop 3).take (Tryd.prog.cellsOf 3) = [.int .i64 k2] := c3
    have c4 : (cs.drop 4).take (Tryd.prog.cellsOf 4) = [.bool b2] := c4
    rw [cellsOb, cellsI] at c0
    rw [cellsOb, cellsS] at c1
    rw [cellsB] at c2 c4
    rw [cellsI] at c3
    match cs, hl, c0, c1, c2, c3, c4 with
    | [a, b, c, d, e], _, c0, c1, c2, c3, c4 =>
      simp at c0 c1 c2 c3 c4
      subst c0; subst c1; subst c2; subst c3; subst c4
      exact ⟨⟨k1, s.data.toList, b1, k2, b2⟩, by rw [str_of]; rfl⟩
theorem choose_list {α : Type} {p : Nat → α → Prop} : ∀ n, (∀ i, i < n → ∃ x, p i x) → ∃ l : List α, l.length = n ∧ ∀ i x, l[i]? = some x → p i x
  | 0, _ => ⟨[], rfl, fun i x h => by cases h⟩
  | n + 1, h => by
    obtain ⟨l, hl, hp⟩ := choose_list n (fun i hi => h i (by omega))
    obtain ⟨x, hx⟩ := h n (by omega)
    refine ⟨l ++ [x], by simp [hl], fun i y hy => ?_⟩
    rcases Nat.lt_or_ge i n with h1 | h1
    · rw [List.getElem?_append_left (by omega)] at hy; exact hp i y hy
    · rw [List.getElem?_append_right (by omega)] at hy
      obtain ⟨h2, h3⟩ := List.getElem?_eq_some_iff.1 hy
      have : i = n := by simp at h2; omega
      subst this
      simp [hl] at h3; rw [← h3]; exact hx
/-- what a caller's slice of items is -/
theorem open_items {H : Type} {enc : TypeId × Value → H} {W : World} {base b0 : Nat} {sp : Nat → Bool} {held : Bool} {r : Reach} {v : Value} {d : DataW H} {ps : List MemPlace}
    (hval : Value.okWide Tryd.prog W r b0 30 v) (hd : DataW.Trod enc Tryd.prog W base sp held 30 v d ps) :
    ∃ (items : List Itm) (ad : Option Addr) (c0 : Nat) (ob : Obj), v = .slice ad items.length c0 ∧ (items.length = 0 ∨ ∃ g off cur T z, ad = some ⟨g, off, none⟩ ∧ ob = .cells cur T z ∧ W.heap[g]? = some ob ∧ (cur.toList.drop off).take (items.length * 5) = items.flatMap Itm.cells ∧ ∃ k : Int, W.cell? ⟨g, off, none⟩ = some (.int .i64 k)) := by
  obtain ⟨a, len, cap, rfl⟩ := okWide_slice Tryd.underlying30 hval
  obtain ⟨fuel, hf⟩ := hd
  rcases DataW.trod_slice Tryd.underlying30 hf with ⟨hcs, _⟩ | ⟨a', len', cap', elems, rest, n, _, hcs, _, hb, hlc, hcm, hel, hi, _, _⟩
  · have : Value.slice a len cap = .slice none 0 0 := by simpa [Value.cells] using hcs
    cases this
    exact ⟨[], none, 0, .map #[] 0, rfl, .inl rfl⟩
  · have : Value.slice a len cap = .slice (some a') len' cap' := by simpa [Value.cells] using hcs
    cases this
    have each : ∀ i, i < len → ∃ it : Itm, W.cells? base (a'.add (i * 5)) 5 = some it.cells := fun i h => by
      have h1 := hi i h
      rw [cellsIt, List.getElem?_eq_getElem (by omega)] at h1
      obtain ⟨cs, h2, h3⟩ := Option.bind_eq_some_iff.1 h1
      obtain ⟨it, rfl⟩ := open_item h3
      exact ⟨it, h2⟩
    obtain ⟨items, hil, hit⟩ := choose_list len each
    by_cases h0 : len = 0
    · subst h0
      exact ⟨items, some a', cap, .map #[] 0, by rw [hil], .inl hil⟩
    · have hc : ∀ i it j, items[i]? = some it → j < 5 → W.cell? ((a'.add (i * 5)).add j) = it.cells[j]? := fun i it j h hj => by
        obtain ⟨_, hlen, hcell⟩ := World.cells?_some (hit i it h)
        exact hcell j (by omega)
      obtain ⟨it0, hit0⟩ := get_some (l := items) (k := 0) (by omega)
      have h00 := hc 0 it0 0 hit0 (by omega)
      have h00' : W.cell? a' = some (.int .i64 it0.kind) := by simpa [Addr.add, Itm.cells] using h00
      obtain ⟨g, off, spot⟩ := a'
      obtain rfl : spot = none := World.cell?_spot h00'
      obtain ⟨ob, hob⟩ : ∃ ob, W.heap[g]? = some ob := by
        cases hh : W.heap[g]? with
        | none => simp [World.cell?, hh] at h00'
        | some o => exact ⟨o, rfl⟩
      cases ob with
      | cells cur T z =>
        have hcell : ∀ k, W.cell? ⟨g, k, none⟩ = cur[k]? := fun k => by simp [World.cell?, hob]
        refine ⟨items, some ⟨g, off, none⟩, cap, .cells cur T z, by rw [hil], .inr ⟨g, off, cur, T, z, rfl, rfl, hob, ?_, it0.kind, h00'⟩⟩
        apply List.ext_getElem?
        intro m
        rw [List.getElem?_take]
        by_cases hm : m < items.length * 5
        · rw [if_pos hm, List.getElem?_drop, Array.getElem?_toList, ← hcell]
          obtain ⟨it, hi2⟩ := get_some (l := items) (k := m / 5) (by omega)
          have h5 := hc (m / 5) it (m % 5) hi2 (by omega)
          have ea : (((⟨g, off, none⟩ : Addr).add (m / 5 * 5)).add (m % 5)) = ⟨g, off + m, none⟩ := by
            rw [Addr.add_lit, Addr.add_lit, Nat.add_assoc, show m / 5 * 5 + m % 5 = m by omega]
          rw [ea] at h5
          rw [h5]
          obtain ⟨v, hv⟩ := get_some (l := it.cells) (k := m % 5) (by rw [itm_len]; omega)
          have := flat_nth (f := Itm.cells) itm_len hi2 (k := m % 5) (v := v) (by rw [nth_eq]; exact hv)
          rw [nth_eq, show m / 5 * 5 + m % 5 = m by omega] at this
          rw [hv, this]
        · rw [if_neg hm, List.getElem?_eq_none (by rw [flat_len itm_len]; omega)]
      | _ => simp [World.cell?, hob] at h00'
end Go.Proofs.YtpoaiohhbpbofaaDoor
/-
  PackPlaces: the card.
-/
set_option linter.unusedVariables false
set_option linter.constructorNameAsVariable false
set_option maxRecDepth 100000
namespace Go.Proofs.YtpoaiohhbpbofaaDoor
open Go.ChangeShapes Go.WideShapes Go.ChangeAt Go.RowKit Go.Eng
theorem laidOut : laidOutB Tryd.prog = true := by kernel_rfl
theorem size_of {W W' : World} (h : ∀ i, i < W.heap.size → W'.heap[i]? = W.heap[i]?) : W.heap.size ≤ W'.heap.size := by
  refine Nat.le_of_not_lt fun hlt => ?_
  have h1 := h _ hlt
  rw [Array.getElem?_eq_none (Nat.le_refl _), Array.getElem?_eq_getElem hlt] at h1
  cases h1
/-- the items' block is not the table's -/
theorem row_of {W : World} {items : List Itm} {ad : Option Addr} {ob : Obj} {tz : TypeId × Nat × Nat} (ht : W.heap[0]? = some (.cells (Lib.pow10Tab.map fun z => .int .u64 z).toArray tz.1 tz.2))
    (hrow : items.length = 0 ∨ ∃ g off cur T z, ad = some ⟨g, off, none⟩ ∧ ob = .cells cur T z ∧ W.heap[g]? = some ob ∧ (cur.toList.drop off).take (items.length * 5) = items.flatMap Itm.cells ∧ ∃ k : Int, W.cell? ⟨g, off, none⟩ = some (.int .i64 k)) :
    items.length = 0 ∨ ∃ g off cur T z, ad = some ⟨g, off, none⟩ ∧ ob = .cells cur T z ∧ W.heap[g]? = some ob ∧ (cur.toList.drop off).take (items.length * 5) = items.flatMap Itm.cells ∧ g ≠ 0 := by
  rcases hrow with h | ⟨g, off, cur, T, z, e1, e2, e3, e4, k, e5⟩
  · exact .inl h
  · refine .inr ⟨g, off, cur, T, z, e1, e2, e3, e4, fun e => ?_⟩
    subst e
    have h1 : W.cell? ⟨0, off, none⟩ = (Lib.pow10Tab.map fun z => Value.int .u64 z)[off]? := by simp [World.cell?, ht]
    rw [h1, List.getElem?_map] at e5
    cases hz : Lib.pow10Tab[off]? with
    | none => rw [hz] at e5; cases e5
    | some n => rw [hz] at e5; cases e5
theorem places_contract (H : Type) (enc : TypeId × Value → H) (W : World) (base : Nat) (args : Array Value) (ds gs : List (DataW H)) (before : List MemPlace)
    (hval : ∀ (j : Nat) t v, Tryd.f5.params[j]? = some t → args[j]? = some v → Value.okWide Tryd.prog W .any base t v)
    (hW : DataW.Whole enc Tryd.prog Tryd.f5.params.toList Rows.packPlacesSpec.vars false W args.toList ds gs before) (hL : laidMetH Tryd.prog laid3 W) :
    Calls Tryd.prog 5 args W fun e W' => ∃ v, e = .returned v ∧ Rows.packPlacesSpec.post enc Tryd.prog Tryd.f5 false true false false W args v W' := by
  have hW' := hW
  obtain ⟨p, q, hA0, hV, rfl, hfz, hnd⟩ := hW
  have hA : DataW.TrodAll enc Tryd.prog W 0 (fun _ => true) true Tryd.f5.params.toList args.toList ds p := hA0
  rw [Tryd.params5] at hA hval
  obtain ⟨v0, vs0, d0, ds0, p0, q0, hargs, rfl, rfl, h0, r0⟩ := trodAll_cons hA
  obtain ⟨v1, vs1, d1, ds1, p1, q1, rfl, rfl, rfl, h1, r1⟩ := trodAll_cons r0
  obtain ⟨rfl, rfl, rfl⟩ := trodAll_nil r1
  obtain rfl : args = #[v0, v1] := by cases args; simp_all
  obtain ⟨rfl, rfl⟩ := trodVars_none hV
  clear hA0
  simp only [List.append_nil] at hW'
  have hlt : ∀ x ∈ p0 ++ p1, x.block < W.heap.size := fun x hx => hW'.lt x hx
  obtain ⟨sb, hv0⟩ := okWide_string Tryd.underlying9 (hval 0 _ v0 rfl rfl)
  rw [str_of] at hv0
  subst hv0
  obtain ⟨items, ad, c0, ob, rfl, hrow⟩ := open_items (hval 1 _ v1 rfl rfl) h1
  obtain ⟨tz, ht⟩ := tableAt hL
  refine (Spec.kept2 (packPlaces_spec (tz := tz) sb.data.toList items ad c0 ob) ht (flat_len itm_len items) (row_of ht hrow)).mono fun e W' ⟨he, hos, hout, htp, hh⟩ => ?_
  subst he
  have hb : Below W.heap.size W W' := ⟨hos, htp, hout, size_of hh, hh⟩
  exact ⟨_, rfl, post_of_kept (pa := p0 ++ p1) (pv := []) hW' (fun _ _ _ => trodAll_cons_mk (shut_bool Tryd.underlying4 _) trodAll_mk0)
    (fun sp hsp => trodAll_mk2 (WideElems.Trod_stays laidOut (by kernel_rfl) (of_decide_eq_true (by kernel_rfl)) h0 (fun x hx => hb.same (hlt x (List.mem_append_left _ hx))) (fun x hx => hsp x (List.mem_append_left _ hx)))
      (WideElems.Trod_stays laidOut (by kernel_rfl) (of_decide_eq_true (by kernel_rfl)) h1 (fun x hx => hb.same (hlt x (List.mem_append_right _ hx))) (fun x hx => hsp x (List.mem_append_right _ hx)))) (fun _ _ => rfl) (by simp)
    hos hout hh (ok_one (by kernel_rfl) rfl (okWide_bool_mk Tryd.underlying4 _))⟩
theorem places_reads (os : Os) {H : Type} (enc : TypeId × Value → H) : ∃ places, DataW.whole enc Tryd.prog ((laidWorld os).forCall (fun _ _ => 0) ⟨#[], #[str [], .slice none 0 0], []⟩).memory Tryd.f5.params.toList Rows.packPlacesSpec.vars false #[str [], .slice none 0 0].toList 8 = some ([.lit (.string []), .nil], [], places) :=
  ⟨[], by kernel_rfl⟩
theorem places_lifted (os : Os) (started : os.Started) (H : Type) (enc : TypeId × Value → H) (F : Stop.Interp) :
    ReturnsInHanded {} Tryd.checked os 5 .any ((OpenSpec.ofChange Rows.packPlacesSpec).preRow enc Tryd.prog Tryd.f5 Rows.packPlacesRow.domain false Rows.packPlacesRow.laid) (((OpenSpec.ofChange Rows.packPlacesSpec).at F).post enc Tryd.prog Tryd.f5 false true false false) := by
  obtain ⟨places, hx⟩ := places_reads os enc
  refine returnsInHanded_of_row (C := Tryd.checked) (s := OpenSpec.ofChange Rows.packPlacesSpec) own started (by kernel_rfl) Tryd.func5
    (witness_row_at (enc := enc) (C := Tryd.checked) false (laidWorld os) #[str [], .slice none 0 0] rfl (by kernel_rfl) (by kernel_rfl) (by kernel_rfl)
      (OpenSpec.preRow_of_cond 8 hx (by kernel_rfl) (fun k hk => by cases hk) (by kernel_rfl) (laid_met os _))) ?_
  intro W base args ds gs before hval hW _ _ _ hL _ _
  exact places_contract H enc W base args ds gs before hval hW hL
theorem places_said : Rows.PackPlacesSaid :=
  OpenClaim.holds_of_cond 5 Tryd.f5 rfl rfl rfl rfl rfl rfl rfl ⟨rfl, rfl, rfl, rfl, rfl⟩ rfl rfl rfl rfl rfl (by kernel_rfl) Tryd.func5 (by kernel_rfl)
    (of_decide_eq_true (by kernel_rfl)) (by unfold Func.isWrapper; first | (rw [if_pos (by decide +kernel)]; kernel_rfl) | (rw [if_neg (by decide +kernel)]; exact ⟨rfl, rfl⟩))
    (fun os started H enc _ F => by rw [OpenClaim.pre_eq_preRow]; exact places_lifted os started H enc F)
theorem places_plain (f : FuncId) (fn : Func) (hf : Tryd.pinned.checked.prog.funcNamed "cartulary/cartularylaw11.PackPlaces" = some f) (hfn : Tryd.pinned.checked.prog.funcs[f]? = some fn) :
    true = Tryd.pinned.checked.prog.looks [] ∧ ∀ (j : Nat) t, fn.params[j]? = some t → Tryd.pinned.checked.prog.wantsStandIn t = false := by
  obtain rfl : f = 5 := Option.some.inj ((show Tryd.prog.funcNamed "cartulary/cartularylaw11.PackPlaces" = some 5 by kernel_rfl).symm.trans hf) |>.symm
  obtain rfl : fn = Tryd.f5 := (Option.some.inj (Tryd.func5.symm.trans hfn)).symm
  refine ⟨by kernel_rfl, fun j t ht => ?_⟩
  rw [Tryd.params5] at ht
  have h := Array.mem_of_getElem? ht
  simp only [List.mem_toArray, List.mem_cons, List.not_mem_nil, or_false] at h
  rcases h with rfl | rfl
  · exact (show Tryd.prog.wantsStandIn 9 = false by kernel_rfl)
  · exact (show Tryd.prog.wantsStandIn 30 = false by kernel_rfl)
/-- THE CARD -/
theorem packPlaces_card : Rows.PackPlacesCardSaid :=
  Claim7.holds_tied_plain_at .later [] _ _ _ _ places_said (fun _ h => by cases h) (by kernel_rfl) (fun _ h => by cases h) packPlaces_row_tie rfl ⟨rfl, rfl⟩ (by kernel_rfl) rfl places_plain (by kernel_rfl)
#print axioms packPlaces_card
end Go.Proofs.YtpoaiohhbpbofaaDoor
/-
  PackSums: the card.
-/
set_option linter.unusedVariables false
set_option linter.constructorNameAsVariable false
set_option maxRecDepth 100000
namespace Go.Proofs.YtpoaiohhbpbofaaDoor
open Go.ChangeShapes Go.WideShapes Go.ChangeAt Go.RowKit Go.Eng
theorem sums_contract (H : Type) (enc : TypeId × Value → H) (W : World) (base : Nat) (args : Array Value) (ds gs : List (DataW H)) (before : List MemPlace)
    (hval : ∀ (j : Nat) t v, Tryd.f4.params[j]? = some t → args[j]? = some v → Value.okWide Tryd.prog W .any base t v)
    (hW : DataW.Whole enc Tryd.prog Tryd.f4.params.toList Rows.packSumsSpec.vars false W args.toList ds gs before) (hL : laidMetH Tryd.prog laid3 W) :
    Calls Tryd.prog 4 args W fun e W' => ∃ v, e = .returned v ∧ Rows.packSumsSpec.post enc Tryd.prog Tryd.f4 false true false false W args v W' := by
  have hW' := hW
  obtain ⟨p, q, hA0, hV, rfl, hfz, hnd⟩ := hW
  have hA : DataW.TrodAll enc Tryd.prog W 0 (fun _ => true) true Tryd.f4.params.toList args.toList ds p := hA0
  rw [Tryd.params4] at hA hval
  obtain ⟨v0, vs0, d0, ds0, p0, q0, hargs, rfl, rfl, h0, r0⟩ := trodAll_cons hA
  obtain ⟨v1, vs1, d1, ds1, p1, q1, rfl, rfl, rfl, h1, r1⟩ := trodAll_cons r0
  obtain ⟨rfl, rfl, rfl⟩ := trodAll_nil r1
  obtain rfl : args = #[v0, v1] := by cases args; simp_all
  obtain ⟨rfl, rfl⟩ := trodVars_none hV
  clear hA0
  simp only [List.append_nil] at hW'
  have hlt : ∀ x ∈ p0 ++ p1, x.block < W.heap.size := fun x hx => hW'.lt x hx
  obtain ⟨items, ad, c0, ob, rfl, hrow⟩ := open_items (hval 0 _ v0 rfl rfl) h0
  obtain ⟨bit, hv1⟩ := okWide_int Tryd.underlying3 (hval 1 _ v1 rfl rfl)
  subst hv1
  obtain ⟨tz, ht⟩ := tableAt hL
  refine (Spec.kept2 (packSums_spec (tz := tz) items ad c0 ob bit) ht (flat_len itm_len items) (row_of ht hrow)).mono fun e W' ⟨he, hos, hout, htp, hh⟩ => ?_
  subst he
  have hb : Below W.heap.size W W' := ⟨hos, htp, hout, size_of hh, hh⟩
  exact ⟨_, rfl, post_of_kept (pa := p0 ++ p1) (pv := []) hW' (fun _ _ _ => trodAll_cons_mk (shut_bool Tryd.underlying4 _) trodAll_mk0)
    (fun sp hsp => trodAll_mk2 (WideElems.Trod_stays laidOut (by kernel_rfl) (of_decide_eq_true (by kernel_rfl)) h0 (fun x hx => hb.same (hlt x (List.mem_append_left _ hx))) (fun x hx => hsp x (List.mem_append_left _ hx)))
      (WideElems.Trod_stays laidOut (by kernel_rfl) (of_decide_eq_true (by kernel_rfl)) h1 (fun x hx => hb.same (hlt x (List.mem_append_right _ hx))) (fun x hx => hsp x (List.mem_append_right _ hx)))) (fun _ _ => rfl) (by simp)
    hos hout hh (ok_one (by kernel_rfl) rfl (okWide_bool_mk Tryd.underlying4 _))⟩
theorem sums_reads (os : Os) {H : Type} (enc : TypeId × Value → H) : ∃ places, DataW.whole enc Tryd.prog ((laidWorld os).forCall (fun _ _ => 0) ⟨#[], #[.slice none 0 0, .int .i64 0], []⟩).memory Tryd.f4.params.toList Rows.packSumsSpec.vars false #[.slice none 0 0, .int .i64 0].toList 8 = some ([.nil, .lit (.int .i64 0)], [], places) :=
  ⟨[], by kernel_rfl⟩
theorem sums_lifted (os : Os) (started : os.Started) (H : Type) (enc : TypeId × Value → H) (F : Stop.Interp) :
    ReturnsInHanded {} Tryd.checked os 4 .any ((OpenSpec.ofChange Rows.packSumsSpec).preRow enc Tryd.prog Tryd.f4 Rows.packSumsRow.domain false Rows.packSumsRow.laid) (((OpenSpec.ofChange Rows.packSumsSpec).at F).post enc Tryd.prog Tryd.f4 false true false false) := by
  obtain ⟨places, hx⟩ := sums_reads os enc
  refine returnsInHanded_of_row (C := Tryd.checked) (s := OpenSpec.ofChange Rows.packSumsSpec) own started (by kernel_rfl) Tryd.func4
    (witness_row_at (enc := enc) (C := Tryd.checked) false (laidWorld os) #[.slice none 0 0, .int .i64 0] rfl (by kernel_rfl) (by kernel_rfl) (by kernel_rfl)
      (OpenSpec.preRow_of_cond 8 hx (by kernel_rfl) (fun k hk => by cases hk) (by kernel_rfl) (laid_met os _))) ?_
  intro W base args ds gs before hval hW _ _ _ hL _ _
  exact sums_contract H enc W base args ds gs before hval hW hL
theorem sums_said : Rows.PackSumsSaid :=
  OpenClaim.holds_of_cond 4 Tryd.f4 rfl rfl rfl rfl rfl rfl rfl ⟨rfl, rfl, rfl, rfl, rfl⟩ rfl rfl rfl rfl rfl (by kernel_rfl) Tryd.func4 (by kernel_rfl)
    (of_decide_eq_true (by kernel_rfl)) (by unfold Func.isWrapper; first | (rw [if_pos (by decide +kernel)]; kernel_rfl) | (rw [if_neg (by decide +kernel)]; exact ⟨rfl, rfl⟩))
    (fun os started H enc _ F => by rw [OpenClaim.pre_eq_preRow]; exact sums_lifted os started H enc F)
theorem sums_plain (f : FuncId) (fn : Func) (hf : Tryd.pinned.checked.prog.funcNamed "cartulary/cartularylaw11.PackSums" = some f) (hfn : Tryd.pinned.checked.prog.funcs[f]? = some fn) :
    true = Tryd.pinned.checked.prog.looks [] ∧ ∀ (j : Nat) t, fn.params[j]? = some t → Tryd.pinned.checked.prog.wantsStandIn t = false := by
  obtain rfl : f = 4 := Option.some.inj ((show Tryd.prog.funcNamed "cartulary/cartularylaw11.PackSums" = some 4 by kernel_rfl).symm.trans hf) |>.symm
  obtain rfl : fn = Tryd.f4 := (Option.some.inj (Tryd.func4.symm.trans hfn)).symm
  refine ⟨by kernel_rfl, fun j t ht => ?_⟩
  rw [Tryd.params4] at ht
  have h := Array.mem_of_getElem? ht
  simp only [List.mem_toArray, List.mem_cons, List.not_mem_nil, or_false] at h
  rcases h with rfl | rfl
  · exact (show Tryd.prog.wantsStandIn 30 = false by kernel_rfl)
  · exact (show Tryd.prog.wantsStandIn 3 = false by kernel_rfl)
/-- THE CARD -/
theorem packSums_card : Rows.PackSumsCardSaid :=
  Claim7.holds_tied_plain_at .later [] _ _ _ _ sums_said (fun _ h => by cases h) (by kernel_rfl) (fun _ h => by cases h) packSums_row_tie rfl ⟨rfl, rfl⟩ (by kernel_rfl) rfl sums_plain (by kernel_rfl)
#print axioms packSums_card
end Go.Proofs.YtpoaiohhbpbofaaDoor
