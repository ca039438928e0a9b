/-
  Joined by program out of the texts ZF23 ZF24 ZC1 ZE17 ZE18 ZE19 ZP10 ZP13 ZF35 ZF36 ZF37 ZF38 ZF39 ZF40: contracts for the functions that the law reaches, and the engine that proves them.
-/
import Derived.Test.YtpoaiohhbpbofaaGreatDoorM3
import Derived.Test.YtpoaiohhbpbofaaGreatDoorCards
import Derived.Test.YtpoaiohhbpbofaaGreatDoorTie
import Derived.ProofKit
import Derived.OpenShut
import Derived.Deep.DeepHandedRow
import Derived.Lib.LaidTab
import Derived.Carry
import Derived.Laws.IdiomStrings
import Derived.Test.YtpoaiohhbpbofaaGreatDoorM2
/-
  Packs written: Build.
-/
set_option linter.unusedVariables false
set_option linter.unusedSimpArgs false
namespace Go.Eng
open Go.Proofs
theorem ag_4_F23 : aggB Tryz.prog 4 = some false := by kernel_rfl
theorem ag_53_F23 : aggB Tryz.prog 53 = some true := by kernel_rfl
theorem bT_80_9_F23 : bytesT Tryz.prog 80 9 = some 5 := by kernel_rfl
theorem bd_36_F23 : bodied Tryz.prog 36 = true := by kernel_rfl
theorem bd_37_F23 : bodied Tryz.prog 37 = true := by kernel_rfl
theorem bd_38_F23 : bodied Tryz.prog 38 = true := by kernel_rfl
theorem bd_39_F23 : bodied Tryz.prog 39 = true := by kernel_rfl
theorem bd_40_F23 : bodied Tryz.prog 40 = true := by kernel_rfl
theorem bd_41_F23 : bodied Tryz.prog 41 = true := by kernel_rfl
theorem fo_53_0_F23 : fieldOff Tryz.prog 53 0 = some 0 := by kernel_rfl
theorem fo_53_1_F23 : fieldOff Tryz.prog 53 1 = some 2 := by kernel_rfl
theorem fo_53_2_F23 : fieldOff Tryz.prog 53 2 = some 3 := by kernel_rfl
theorem fo_53_3_F23 : fieldOff Tryz.prog 53 3 = some 4 := by kernel_rfl
theorem ik_58_F23 : intK Tryz.prog 58 = some .u64 := by kernel_rfl
theorem se_45_F23 : sliceE Tryz.prog 45 = some 53 := by kernel_rfl
theorem sz_53_F23 : sizeB Tryz.prog 53 = some 5 := by kernel_rfl
theorem zl_51_F23 : zeroL Tryz.prog 51 = some [.int .i64 0, str []] := by kernel_rfl
theorem zl_53_F23 : zeroL Tryz.prog 53 = some [.int .i64 0, str [], .bool false, .int .i64 0, .bool false] := by kernel_rfl

structure Itm where
  kind : Int
  data : List UInt8
  delta : Bool
  base : Int
  byName : Bool
def Itm.cells (x : Itm) : List Value := [.int .i64 x.kind, str x.data, .bool x.delta, .int .i64 x.base, .bool x.byName]
theorem itm_len (x : Itm) : x.cells.length = 5 := rfl
theorem itm_cells (x : Itm) : x.cells = [.int .i64 x.kind, str x.data, .bool x.delta, .int .i64 x.base, .bool x.byName] := rfl
def Itm.none : Itm := ⟨0, [], false, 0, false⟩
/-- a zlib frame of a text -/
def zw (s : List UInt8) : List UInt8 := [120, 1] ++ Defl.deflate s ++ Sums.big (Sums.adler s) 4
theorem zw_eq (s : List UInt8) : [120, 1] ++ Defl.deflate s ++ Sums.big (Sums.adler s) 4 = zw s := rfl
theorem zw_len (s : List UInt8) (h : s.length ≤ 65535) : (zw s).length ≤ 65700 := by
  have := Defl.deflate_len s h
  unfold zw; simp [Sums.big]; omega
def stepB (items : List Itm) (i : Nat) (x : Itm) (out : List UInt8) (ats : List Nat) : Pk.Res (List UInt8) :=
  if ocheck x.kind x.data ≠ 0 then .err (ocheck x.kind x.data) else
  if x.delta = true ∧ (x.base < 0 ∨ (i : Int) ≤ x.base) then .err 1 else
  if x.delta = true ∧ (items.getD x.base.toNat Itm.none).kind ≠ x.kind then .err 10 else
  if x.delta = false then .ok (out ++ (headL x.kind.toNat x.data.length ++ zw x.data)) else
  if 65000 < (Dlt.make (items.getD x.base.toNat Itm.none).data x.data).length then .err 2 else
  if x.byName = true then .ok (out ++ (headL 7 (Dlt.make (items.getD x.base.toNat Itm.none).data x.data).length ++ Sha.sum1 (encode (items.getD x.base.toNat Itm.none).kind (items.getD x.base.toNat Itm.none).data) ++ zw (Dlt.make (items.getD x.base.toNat Itm.none).data x.data)))
  else .ok (out ++ (headL 6 (Dlt.make (items.getD x.base.toNat Itm.none).data x.data).length ++ backL (out.length - ats.getD x.base.toNat 0) ++ zw (Dlt.make (items.getD x.base.toNat Itm.none).data x.data)))
def goB (items : List Itm) : Nat → Nat → List UInt8 → List Nat → Pk.Res (List UInt8)
  | 0, _, out, _ => .ok out
  | k + 1, i, out, ats => match items[i]? with
    | .none => .ok out
    | some x => match stepB items i x out ats with
      | .err e => .err e
      | .ok o => goB items k (i + 1) o (ats ++ [out.length])
def bR (r : Pk.Res (List UInt8)) : List UInt8 × Nat := match r with
  | .err e => ([], e)
  | .ok o => (o ++ Sha.sum1 o, 0)
def headO (n : Nat) : List UInt8 := [80, 65, 67, 75] ++ Sums.big 2 4 ++ Sums.big (n : Int) 4
/-- the pack, the error -/
def buildE (items : List Itm) : List UInt8 × Nat := if 1000 < items.length then ([], 2) else bR (goB items items.length 0 (headO items.length) [])
theorem digit_hex {n : Nat} (h : n < 16) : Sums.digit (Sums.hexDigit n) = (n : Int) := by
  have : ∀ k : _root_.Fin 16, Sums.digit (Sums.hexDigit k.val) = (k.val : Int) := by decide +kernel
  exact this ⟨n, h⟩
theorem unhexGo_hex (s : List UInt8) : ∀ out, Sums.unhexGo (Sums.hex s) out = some (out ++ s) := by
  induction s with
  | nil => intro out; simp [Sums.hex, Sums.unhexGo]
  | cons c s ih =>
    intro out
    have hc := c.toNat_lt
    have e : Sums.hex (c :: s) = Sums.hexDigit (c.toNat / 16) :: Sums.hexDigit (c.toNat % 16) :: Sums.hex s := rfl
    rw [e, Sums.unhexGo, digit_hex (by omega), digit_hex (by omega), if_neg (by omega), ih]
    have : u8i (((c.toNat / 16 : Nat) : Int) * 16 + ((c.toNat % 16 : Nat) : Int)) = c := by
      rw [show (((c.toNat / 16 : Nat) : Int) * 16 + ((c.toNat % 16 : Nat) : Int)) = (c.toNat : Int) by omega]; exact u8i_toNat c
    rw [this]; simp
theorem unhexV_hex (s : List UInt8) : unhexV (Sums.hex s) = #[str s, .bool true] := by
  unfold unhexV Sums.unhex; rw [unhexGo_hex]; rfl
theorem ocheck_kind {k : Int} {d : List UInt8} (h : ocheck k d = 0) : 1 ≤ k ∧ k ≤ 4 := by
  unfold ocheck at h
  split at h
  · cases h
  · rename_i h1
    rw [oname_nil] at h1; omega
theorem ats_ok {ats : List Nat} {out o : List UInt8} (h : ∀ a ∈ ats, a ≤ out.length) (ho : out.length ≤ o.length) : ∀ a ∈ ats ++ [out.length], a ≤ o.length := by
  intro a ha
  rcases List.mem_append.1 ha with h1 | h1
  · have := h a h1; omega
  · rw [List.mem_singleton.1 h1]; exact ho
theorem get_itm {items : List Itm} {j : Nat} {y : Itm} (h : items[j]? = some y) : items.getD j Itm.none = y := by rw [List.getD_eq_getElem?_getD, h]; rfl

attribute [local irreducible] cel own exS ownG tabH TabI Sums.hex Sha.sum1 zw headL backL Dlt.make encode ocheck Sums.big

set_option maxRecDepth 100000 in
set_option maxHeartbeats 1000000 in
theorem build_spec {tz : TypeId × Nat × Nat} (items : List Itm) (ad : Option Addr) (c0 : Nat) : Spec Tryz.prog 15 #[.slice ad items.length c0] [TabI tz, ownO 53 5 (.slice ad items.length c0) items.length (items.flatMap Itm.cells)] (Ret fun v hl => v = .tuple #[str (buildE items).1, .int .i64 ((buildE items).2 : Nat)] ∧ hl = [TabI tz, ownO 53 5 (.slice ad items.length c0) items.length (items.flatMap Itm.cells)]) := by
 have hz1 : (headO items.length).length = 12 := by simp [headO, Sums.big]
 refine Spec.enter Tryz.func15 rfl rfl rfl (fun F w0 => ?_)
 dsimp only [argL, List.cons_append, List.nil_append]
 refine CG.sr (G.as ?_)
 refine G.as ?_
 refine G.nil (EN.ts (CG.sr (G.mv ?_)))
 refine G.q rfl rfl rfl rfl (q_len_sl rfl rfl se_45_F23) (G.q rfl rfl rfl rfl (q_gtr rfl rfl rfl) (G.nil (EN.then ?_)))
 refine CG.cond rfl (fun h17 => ?_) (fun h17 => ?_)
 ·
  have hE : buildE items = ([], 2) := if_pos oM
  refine CG.sr (G.as ?_)
  refine G.as ?_
  refine G.nil (EN.then (CG.ret (EN.then_ret ?_)))
  exact fin_ret2 rfl rfl rfl tK sF (⟨by rw [hE] <;> rfl, rfl⟩) _ (.inl rfl)
 ·
  have hnl : items.length ≤ 1000 := by omega
  have hE0 : buildE items = bR (goB items items.length 0 (headO items.length) []) := if_neg oM
  refine CG.skip (EN.tsr (G.call (xs := [_, _]) rfl rfl (big_spec 2 4 oM oM) bd_34_F9 rfl rfl rfl rfl tK (fun _ _ _ _ _ _ => trivial) ?_))
  rintro _ _ ⟨rfl, rfl⟩
  try dsimp only [List.cons_append, List.nil_append]
  refine G.q rfl rfl rfl rfl (q_add_s rfl rfl rfl (by simp [Sums.big])) (G.mv ?_)
  refine G.q rfl rfl rfl rfl (q_len_sl rfl rfl se_45_F23) (G.q rfl rfl rfl rfl (q_conv_in rfl rfl is_3_F4 ik_58_F23 (wrapu_in (b := 64) rfl rfl oM)) (G.call (xs := [_, _]) rfl rfl (big_spec (items.length : Int) 4 oM oM) bd_34_F9 rfl rfl rfl rfl tK (fun _ _ _ _ _ _ => trivial) ?_))
  rintro _ _ ⟨rfl, rfl⟩
  try dsimp only [List.cons_append, List.nil_append]
  refine G.q rfl rfl rfl rfl (q_add_s rfl rfl rfl (by simp [Sums.big])) (G.as ?_)
  refine G.nil (EN.sub (sC 0 (sC 2 (sC 3 (sC 4 Sub.nil)))) ?_)
  refine EN.tsr (G.as ?_)
  refine G.nil (EN.ts (CG.sr (G.mv ?_)))
  refine G.q rfl rfl rfl rfl (q_len_sl rfl rfl se_45_F23) (G.mv ?_)
  refine G.nil (EN.then (CG.block (CG.ownNil 3 1 ?_)))
  rw [show (80 :: 65 :: 67 :: 75 :: Sums.big 2 4 ++ Sums.big (items.length : Int) 4 : List UInt8) = headO items.length from rfl]
  refine CG.loopI (fun m L H => ∃ (i : Nat) (out : List UInt8) (ats : List Nat) (av : Value), i + m = items.length ∧ out.length ≤ 12 + 70000 * i ∧ ats.length = i ∧ (∀ a ∈ ats, a ≤ out.length) ∧ (∀ (j : Nat) (y : Itm), j < i → items[j]? = some y → ocheck y.kind y.data = 0) ∧ goB items m i out ats = goB items items.length 0 (headO items.length) [] ∧ L = [(0, .slice ad items.length c0), (4, str out), (5, av), (25, .slice ad items.length c0), (26, .int .i64 items.length), (27, .int .i64 i)] ∧ H = [TabI tz, ownO 53 5 (.slice ad items.length c0) items.length (items.flatMap Itm.cells), own 3 1 av ats.length (ats.map iv)] ++ F) (items.length) (hl := [_, _, _]) (⟨0, headO items.length, [], .slice none 0 0, by omega, by omega, rfl, fun a h => (by cases h), fun j y h => oM, rfl, rfl, rfl⟩) sB rfl tK sF ?_
  rintro m L H ⟨i, out, ats, av, him, hol, hal, hat, hck, hgo, rfl, rfl⟩
  try dsimp only [List.cons_append, List.nil_append]
  refine CG.sr (G.q rfl rfl rfl rfl (q_lss rfl rfl rfl) (G.nil (EN.ts ?_)))
  refine CG.cond rfl (fun h28 => ?_) (fun h28 => ?_)
  ·
   obtain ⟨m, rfl⟩ : ∃ j, m = j + 1 := ⟨m - 1, by omega⟩
   have hil : i < items.length := by omega
   refine CG.someO (z := false) tK1 oM (fun g off had => ?_)
   subst had
   obtain ⟨x, hx⟩ := get_some hil
   rw [goB, hx] at hgo
   simp only at hgo
   have ei : (i : Int) + 1 = ((i + 1 : Nat) : Int) := by omega
   refine CG.skip (EN.ts (CG.block (CG.sr (G.mv ?_))))
   refine G.q rfl rfl rfl rfl (q_ixaddr rfl rfl rfl se_45_F23 sz_53_F23 (hil)) (G.r rfl rfl rfl rfl (r_loadOA rfl rfl ag_53_F23 sz_53_F23 mB rfl (flat_whole (f := Itm.cells) itm_len hx)) ?_)
   refine G.e rfl rfl rfl rfl (e_alloc rfl zl_53_F23) (fun _ _ _ _ _ _ => trivial) ?_
   rintro _ _ ⟨b7, rfl, rfl⟩
   refine G.as ?_
   refine G.sa0 sz_53_F23 ?_
   refine G.nil (EN.ts (CG.sr (G.q rfl rfl rfl rfl (q_field0 rfl rfl fo_53_0_F23) (G.ldP ag_51_F16 sz_51_F16 ?_))))
   refine G.call (xs := [_]) rfl rfl (ocheck_spec x.kind x.data) bd_35_F16 rfl rfl rfl rfl tK (fun _ _ _ _ _ _ => trivial) ?_
   rintro _ _ ⟨rfl, rfl⟩
   try dsimp only [List.cons_append, List.nil_append]
   refine G.as ?_
   refine G.nil (EN.tsr (G.mv ?_))
   refine G.q rfl rfl rfl rfl (q_neq rfl rfl rfl) (G.nil (EN.then ?_))
   refine CG.cond rfl (fun h36 => ?_) (fun h36 => ?_)
   ·
    have hS : stepB items i x out ats = .err (ocheck x.kind x.data) := if_pos oM
    rw [hS] at hgo
    simp only at hgo
    have hE : buildE items = ([], ocheck x.kind x.data) := by rw [hE0, ← hgo]; rfl
    refine CG.sr (G.mv ?_)
    refine G.as ?_
    refine G.as ?_
    refine G.nil (EN.sub (sC 0 (sC 2 (sC 3 (sC 4 (sC 5 (sC 6 (sC 7 (sC 25 (sC 26 (sC 27 Sub.nil)))))))))) ?_)
    refine EN.then (CG.ret (EN.then_ret (EN.in_ret ?_)))
    refine EN.then_ret (EN.then_ret (EN.in_ret ?_))
    refine EN.then_ret ?_
    exact fin_ret2 rfl rfl rfl tK sF (⟨by rw [hE] <;> rfl, rfl⟩) _ (.inl rfl)
   ·
    have hc0 : ocheck x.kind x.data = 0 := by omega
    have hxl := ocheck_len hc0
    have hxk := ocheck_kind hc0
    have hck2 : ∀ (j : Nat) (y : Itm), j < i + 1 → items[j]? = some y → ocheck y.kind y.data = 0 := fun j y hj hy => by
      rcases Nat.lt_or_ge j i with h | h
      · exact hck j y h hy
      · obtain rfl : j = i := by omega
        rw [hx] at hy; cases hy; exact hc0
    refine CG.skip (EN.ts (CG.seq ?_))
    rw [itm_cells]
    cases hdl : x.delta
    ·
     have hn1 : ¬ (x.delta = true ∧ (x.base < 0 ∨ (i : Int) ≤ x.base)) := fun h => by rw [hdl] at h; exact absurd h.1 (by decide)
     have hn2 : ¬ (x.delta = true ∧ (items.getD x.base.toNat Itm.none).kind ≠ x.kind) := fun h => by rw [hdl] at h; exact absurd h.1 (by decide)
     refine CG.reg (G.q rfl rfl rfl rfl (q_field0 rfl rfl fo_53_1_F23) (G.ld ag_4_F23 ?_))
     refine G.mv ?_
     refine G.skip rfl rfl rfl (G.skip rfl rfl rfl (G.skip rfl rfl rfl (G.skip rfl rfl rfl (G.skip rfl rfl rfl (G.skip rfl rfl rfl ?_)))))
     refine G.skip rfl rfl rfl (G.skip rfl rfl rfl (G.skip rfl rfl rfl (G.q rfl rfl rfl rfl (q_pick_f rfl rfl rfl) (G.nil (EN.sub (sC 0 (sC 4 (sC 5 (sC 7 (sC 25 (sC 26 (sC 27 (sC 50 Sub.nil)))))))) ?_)))))
     refine EN.then (CG.cond_f rfl ?_)
     refine CG.skip (EN.ts (CG.seq ?_))
     refine CG.regT [] mixed (by kernel_rfl) ?_
     refine G.q rfl rfl rfl rfl (q_field0 rfl rfl fo_53_1_F23) (G.ld ag_4_F23 ?_)
     refine G.mv ?_
     refine G.skip rfl rfl rfl (G.skip rfl rfl rfl (G.skip rfl rfl rfl ?_))
     try rw [hj]
     refine G.skip rfl rfl rfl (G.skip rfl rfl rfl (G.skip rfl rfl rfl ?_))
     try rw [show off + j * 5 + 0 + 0 = off + j * 5 from rfl]
     refine G.skip rfl rfl rfl (G.skip rfl rfl rfl (G.skip rfl rfl rfl (G.skip rfl rfl rfl (G.skip rfl rfl rfl (G.q rfl rfl rfl rfl (q_pick_f rfl rfl rfl) ?_)))))
     refine G.nil (EN.sub (sC 0 (sC 4 (sC 5 (sC 7 (sC 25 (sC 26 (sC 27 (sC 65 Sub.nil)))))))) ?_)
     refine EN.then (CG.cond_f rfl ?_)
     refine CG.skip (EN.ts ?_)
     have hat2 : ∀ a ∈ ats, a ≤ out.length := hat
     refine CG.reg (G.mv ?_)
     refine G.mv ?_
     refine G.q rfl rfl rfl rfl (q_len_str rfl rfl us_9_F1) (G.e rfl rfl rfl rfl (e_bslice rfl rfl (bs_78_1_all_F5 _)) (fun _ _ _ _ _ _ => trivial) ?_)
     rintro _ _ ⟨b69, rfl, rfl⟩
     refine G.e rfl rfl rfl rfl (e_append rfl rfl rfl se_78_F5 nf_3_F5 rfl tK1 mB (by rfl) (by simp [Value.oneCell', str]) oM) (fun _ _ _ _ _ _ => trivial) ?_
     rintro _ _ rfl
     rw [own_snocI]
     refine G.as ?_
     refine G.nil (EN.ts (CG.sr (G.q rfl rfl rfl rfl (q_field0 rfl rfl fo_53_1_F23) (G.ld ag_4_F23 ?_))))
     refine G.q rfl rfl rfl rfl (q_not rfl rfl) (G.nil (EN.then (CG.cond_t rfl ?_)))
     refine CG.seq ?_
     have hkn : x.kind = (x.kind.toNat : Int) := by omega
     have hhl := headL_len (k := x.kind.toNat) (n := x.data.length) oM
     have hzl := zw_len x.data oM
     have hS : stepB items i x out ats = .ok (out ++ (headL x.kind.toNat x.data.length ++ zw x.data)) := by unfold stepB; rw [if_neg oM, if_neg hn1, if_neg hn2, if_pos hdl]
     rw [hS] at hgo
     simp only at hgo
     have hol2 : (out ++ (headL x.kind.toNat x.data.length ++ zw x.data)).length ≤ 12 + 70000 * (i + 1) := by simp only [List.length_append]; omega
     have hat2 := ats_ok (o := out ++ (headL x.kind.toNat x.data.length ++ zw x.data)) hat (by simp)
     refine CG.regA (.ask 9 13 (.ord [0, 1, 2, 3, 4, 5, 6, 7, 8, 9, 10, 11, 12, 13, 14, 15, 16]) (.ord [0, 1, 2, 3, 4, 5, 6, 7, 8, 10, 11, 12, 13, 9, 14, 15, 16])) [77, 80, 86] (Keeps _ [cel b7 53 [.int .i64 x.kind, str x.data, .bool false, .int .i64 x.base, .bool x.byName]]) mixed (by kernel_rfl) (fun w hw => Keeps.of hw tK) ?_
     intro o ho; simp only [Ask.orders, List.cons_append, List.nil_append, List.mem_cons, List.not_mem_nil, or_false] at ho
     rcases ho with rfl | rfl
     ·
      dsimp only [pick, nth]
      refine G.mv ?_
      refine G.q rfl rfl rfl rfl (q_field0 rfl rfl fo_53_0_F23) (G.q rfl rfl rfl rfl (q_field0 rfl rfl fo_51_0_F13) (G.rK rfl rfl rfl rfl rfl (fun R => r_load rfl rfl ag_3_F1 mB rfl) ?_))
      refine G.q rfl rfl rfl rfl (q_field0 rfl rfl fo_53_0_F23) (G.q rfl rfl rfl rfl (q_field0 rfl rfl fo_51_1_F13) (G.rK rfl rfl rfl rfl rfl (fun R => r_load rfl rfl ag_9_F1 mB rfl) ?_))
      refine G.q rfl rfl rfl rfl (q_len_str rfl rfl us_9_F1) ?_
      rw [hkn]
      refine G.call (xs := [_, _]) rfl rfl (headOf_spec x.kind.toNat x.data.length oM oM) bd_36_F23 rfl rfl rfl rfl tK (fun _ _ _ w hR hw => by subst hR; exact Keeps.of hw tK) ?_
      rintro hv82 _ rfl
      try dsimp only [List.cons_append, List.nil_append]
      refine G.r rfl rfl rfl rfl (r_b2s rfl rfl bT_80_9_F23 mB) ?_
      refine G.q rfl rfl rfl rfl (q_field0 rfl rfl fo_53_0_F23) (G.q rfl rfl rfl rfl (q_field0 rfl rfl fo_51_1_F13) (G.rK rfl rfl rfl rfl rfl (fun R => r_load rfl rfl ag_9_F1 mB rfl) ?_))
      refine G.call (xs := [_]) rfl rfl (zwrite_spec x.data oM) bd_37_F23 rfl rfl rfl rfl tK (fun _ _ _ w hR hw => by obtain ⟨_, rfl⟩ := hR; exact Keeps.of hw tK) ?_
      rintro _ _ ⟨rfl, rfl⟩
      rw [zw_eq]
      try dsimp only [List.cons_append, List.nil_append]
      refine G.q rfl rfl rfl rfl (q_add_s rfl rfl rfl oM) (G.q rfl rfl rfl rfl (q_add_s rfl rfl rfl (by simp only [List.length_append]; omega)) (G.as ?_))
      refine G.nil (EN.sub (sC 0 (sC 4 (sC 5 (sC 7 (sC 25 (sC 26 (sC 27 Sub.nil))))))) ?_)
      refine EN.then (CG.exit ?_)
      refine EN.then_exit (EN.in_here ?_)
      refine EN.then ?_
      skip
      refine CG.reg (G.q rfl rfl rfl rfl (q_add_i rfl rfl rfl oM) ?_)
      rw [ei]
      refine G.mv ?_
      refine G.nil ?_
      exact EN.round (hl := [_, _, _]) (m) oM (⟨i + 1, _, ats ++ [out.length], _, by omega, hol2, by simp [hal], hat2, hck2, hgo, rfl, rfl⟩) sB rfl tK sF
     ·
      dsimp only [pick, nth]
      refine G.mv ?_
      refine G.q rfl rfl rfl rfl (q_field0 rfl rfl fo_53_0_F23) (G.q rfl rfl rfl rfl (q_field0 rfl rfl fo_51_0_F13) (G.rK rfl rfl rfl rfl rfl (fun R => r_load rfl rfl ag_3_F1 mB rfl) ?_))
      refine G.q rfl rfl rfl rfl (q_field0 rfl rfl fo_53_0_F23) (G.q rfl rfl rfl rfl (q_field0 rfl rfl fo_51_1_F13) (G.rK rfl rfl rfl rfl rfl (fun R => r_load rfl rfl ag_9_F1 mB rfl) ?_))
      refine G.q rfl rfl rfl rfl (q_len_str rfl rfl us_9_F1) ?_
      rw [hkn]
      refine G.call (xs := [_, _]) rfl rfl (headOf_spec x.kind.toNat x.data.length oM oM) bd_36_F23 rfl rfl rfl rfl tK (fun _ _ _ w hR hw => by subst hR; exact Keeps.of hw tK) ?_
      rintro hv82 _ rfl
      try dsimp only [List.cons_append, List.nil_append]
      refine G.q rfl rfl rfl rfl (q_field0 rfl rfl fo_53_0_F23) (G.q rfl rfl rfl rfl (q_field0 rfl rfl fo_51_1_F13) (G.rK rfl rfl rfl rfl rfl (fun R => r_load rfl rfl ag_9_F1 mB rfl) ?_))
      refine G.call (xs := [_]) rfl rfl (zwrite_spec x.data oM) bd_37_F23 rfl rfl rfl rfl tK (fun _ _ _ w hR hw => by obtain ⟨_, rfl⟩ := hR; exact Keeps.of hw tK) ?_
      rintro _ _ ⟨rfl, rfl⟩
      rw [zw_eq]
      try dsimp only [List.cons_append, List.nil_append]
      refine G.r rfl rfl rfl rfl (r_b2s rfl rfl bT_80_9_F23 mB) ?_
      refine G.q rfl rfl rfl rfl (q_add_s rfl rfl rfl oM) (G.q rfl rfl rfl rfl (q_add_s rfl rfl rfl (by simp only [List.length_append]; omega)) (G.as ?_))
      refine G.nil (EN.sub (sC 0 (sC 4 (sC 5 (sC 7 (sC 25 (sC 26 (sC 27 Sub.nil))))))) ?_)
      refine EN.then (CG.exit ?_)
      refine EN.then_exit (EN.in_here ?_)
      refine EN.then ?_
      skip
      refine CG.reg (G.q rfl rfl rfl rfl (q_add_i rfl rfl rfl oM) ?_)
      rw [ei]
      refine G.mv ?_
      refine G.nil ?_
      exact EN.round (hl := [_, _, _]) (m) oM (⟨i + 1, _, ats ++ [out.length], _, by omega, hol2, by simp [hal], hat2, hck2, hgo, rfl, rfl⟩) sB rfl tK sF
    ·
     refine CG.reg (G.q rfl rfl rfl rfl (q_field0 rfl rfl fo_53_1_F23) (G.ld ag_4_F23 ?_))
     refine G.mv ?_
     refine G.q rfl rfl rfl rfl (q_field0 rfl rfl fo_53_2_F23) (G.ld ag_3_F1 ?_)
     refine G.q rfl rfl rfl rfl (q_lss rfl rfl rfl) (G.mv ?_)
     refine G.split (t := 44) rfl (fun g44 => ?_) (fun g44 => ?_)
     ·
      have hS : stepB items i x out ats = .err 1 := by unfold stepB; rw [if_neg oM, if_pos ⟨hdl, .inl oM⟩]
      rw [hS] at hgo
      simp only at hgo
      have hE : buildE items = ([], 1) := by rw [hE0, ← hgo]; rfl
      refine G.skip rfl rfl rfl (G.skip rfl rfl rfl (G.skip rfl rfl rfl (G.skip rfl rfl rfl (G.q rfl rfl rfl rfl (q_pick_t rfl rfl rfl) (G.q rfl rfl rfl rfl (q_pick_t rfl rfl rfl) ?_)))))
      refine G.nil (EN.sub (sC 0 (sC 4 (sC 5 (sC 7 (sC 25 (sC 26 (sC 27 (sC 50 Sub.nil)))))))) ?_)
      refine EN.then (CG.cond_t rfl ?_)
      refine CG.sr (G.as ?_)
      refine G.as ?_
      refine G.nil (EN.then (CG.ret (EN.then_ret (EN.in_ret ?_))))
      refine EN.then_ret (EN.then_ret (EN.in_ret ?_))
      refine EN.then_ret ?_
      exact fin_ret2 rfl rfl rfl tK sF (⟨by rw [hE] <;> rfl, rfl⟩) _ (.inl rfl)
     ·
      refine G.q rfl rfl rfl rfl (q_field0 rfl rfl fo_53_2_F23) (G.ld ag_3_F1 ?_)
      refine G.mv ?_
      refine G.q rfl rfl rfl rfl (q_geq rfl rfl rfl) (G.q rfl rfl rfl rfl (q_pick_f rfl rfl rfl) (G.q rfl rfl rfl rfl (q_pick_t rfl rfl rfl) (G.nil (EN.sub (sC 0 (sC 4 (sC 5 (sC 7 (sC 25 (sC 26 (sC 27 (sC 50 Sub.nil)))))))) ?_))))
      refine EN.then ?_
      refine CG.cond rfl (fun h50 => ?_) (fun h50 => ?_)
      ·
       have hS : stepB items i x out ats = .err 1 := by unfold stepB; rw [if_neg oM, if_pos ⟨hdl, .inr oM⟩]
       rw [hS] at hgo
       simp only at hgo
       have hE : buildE items = ([], 1) := by rw [hE0, ← hgo]; rfl
       refine CG.sr (G.as ?_)
       refine G.as ?_
       refine G.nil (EN.then (CG.ret (EN.then_ret (EN.in_ret ?_))))
       refine EN.then_ret (EN.then_ret (EN.in_ret ?_))
       refine EN.then_ret ?_
       exact fin_ret2 rfl rfl rfl tK sF (⟨by rw [hE] <;> rfl, rfl⟩) _ (.inl rfl)
      ·
       have hb0 : 0 ≤ x.base ∧ x.base < i := by omega
       obtain ⟨j, hj⟩ := Int.eq_ofNat_of_zero_le hb0.1
       obtain ⟨y, hy⟩ := get_some (l := items) (k := j) oM
       have hgy := get_itm hy
       have hjl : j < items.length := by omega
       have hjt : x.base.toNat = j := by omega
       have hyc := hck j y oM hy
       have hyl := ocheck_len hyc
       have hn1 : ¬ (x.delta = true ∧ (x.base < 0 ∨ (i : Int) ≤ x.base)) := fun h => by omega
       refine CG.skip (EN.ts (CG.seq ?_))
       refine CG.regT [] mixed (by kernel_rfl) ?_
       refine G.q rfl rfl rfl rfl (q_field0 rfl rfl fo_53_1_F23) (G.ld ag_4_F23 ?_)
       refine G.mv ?_
       refine G.mv ?_
       refine G.q rfl rfl rfl rfl (q_field0 rfl rfl fo_53_2_F23) (G.ld ag_3_F1 ?_)
       try rw [hj]
       refine G.q rfl rfl rfl rfl (q_ixaddr rfl rfl rfl se_45_F23 sz_53_F23 (hjl)) (G.q rfl rfl rfl rfl (q_field rfl rfl fo_53_0_F23) (G.q rfl rfl rfl rfl (q_field rfl rfl fo_51_0_F13) ?_))
       try rw [show off + j * 5 + 0 + 0 = off + j * 5 from rfl]
       refine G.r rfl rfl rfl rfl (r_loadO rfl rfl ag_3_F1 mB (flat_nth (f := Itm.cells) (k := 0) itm_len hy rfl)) ?_
       refine G.q rfl rfl rfl rfl (q_field0 rfl rfl fo_53_0_F23) (G.q rfl rfl rfl rfl (q_field0 rfl rfl fo_51_0_F13) (G.ld ag_3_F1 ?_))
       refine G.q rfl rfl rfl rfl (q_neq rfl rfl rfl) (G.q rfl rfl rfl rfl (q_pick_t rfl rfl rfl) (G.nil (EN.sub (sC 0 (sC 4 (sC 5 (sC 7 (sC 25 (sC 26 (sC 27 (sC 65 Sub.nil)))))))) ?_)))
       refine EN.then ?_
       refine CG.cond rfl (fun h65 => ?_) (fun h65 => ?_)
       ·
        have hS : stepB items i x out ats = .err 10 := by unfold stepB; rw [if_neg oM, if_neg hn1, hjt, hgy, if_pos ⟨hdl, h65⟩]
        rw [hS] at hgo
        simp only at hgo
        have hE : buildE items = ([], 10) := by rw [hE0, ← hgo]; rfl
        refine CG.sr (G.as ?_)
        refine G.as ?_
        refine G.nil (EN.then (CG.ret (EN.then_ret (EN.in_ret ?_))))
        refine EN.then_ret (EN.then_ret (EN.in_ret ?_))
        refine EN.then_ret ?_
        exact fin_ret2 rfl rfl rfl tK sF (⟨by rw [hE] <;> rfl, rfl⟩) _ (.inl rfl)
       ·
        have hn2 : ¬ (x.delta = true ∧ (items.getD x.base.toNat Itm.none).kind ≠ x.kind) := fun h => by rw [hjt, hgy] at h; exact h65 h.2
        refine CG.skip (EN.ts ?_)
        have hat2 : ∀ a ∈ ats, a ≤ out.length := hat
        refine CG.reg (G.mv ?_)
        refine G.mv ?_
        refine G.q rfl rfl rfl rfl (q_len_str rfl rfl us_9_F1) (G.e rfl rfl rfl rfl (e_bslice rfl rfl (bs_78_1_all_F5 _)) (fun _ _ _ _ _ _ => trivial) ?_)
        rintro _ _ ⟨b69, rfl, rfl⟩
        refine G.e rfl rfl rfl rfl (e_append rfl rfl rfl se_78_F5 nf_3_F5 rfl tK1 mB (by rfl) (by simp [Value.oneCell', str]) oM) (fun _ _ _ _ _ _ => trivial) ?_
        rintro _ _ rfl
        rw [own_snocI]
        refine G.as ?_
        refine G.nil (EN.ts (CG.sr (G.q rfl rfl rfl rfl (q_field0 rfl rfl fo_53_1_F23) (G.ld ag_4_F23 ?_))))
        refine G.q rfl rfl rfl rfl (q_not rfl rfl) (G.nil (EN.then (CG.cond_f rfl ?_)))
        refine CG.skip (EN.tsr (G.mv ?_))
        refine G.q rfl rfl rfl rfl (q_field0 rfl rfl fo_53_2_F23) (G.ld ag_3_F1 ?_)
        try rw [hj]
        refine G.q rfl rfl rfl rfl (q_ixaddr rfl rfl rfl se_45_F23 sz_53_F23 (hjl)) (G.q rfl rfl rfl rfl (q_field rfl rfl fo_53_0_F23) ?_)
        rw [show off + j * 5 + 0 = off + j * 5 from rfl]
        refine G.r rfl rfl rfl rfl (r_loadOA (cs := [.int .i64 y.kind, str y.data]) rfl rfl ag_51_F16 sz_51_F16 mB rfl (flat_part (f := Itm.cells) itm_len hy (k := 0) (n := 2))) ?_
        refine G.e rfl rfl rfl rfl (e_alloc rfl zl_51_F23) (fun _ _ _ _ _ _ => trivial) ?_
        rintro _ _ ⟨b9, rfl, rfl⟩
        refine G.sa0 sz_51_F16 ?_
        refine G.nil (EN.sub (sC 0 (sC 4 (sC 5 (sC 7 (sC 9 (sC 25 (sC 26 (sC 27 Sub.nil)))))))) ?_)
        refine EN.tsr (G.q rfl rfl rfl rfl (q_field0 rfl rfl fo_51_1_F13) (G.ld ag_9_F1 ?_))
        refine G.q rfl rfl rfl rfl (q_field0 rfl rfl fo_53_0_F23) (G.q rfl rfl rfl rfl (q_field0 rfl rfl fo_51_1_F13) (G.ld ag_9_F1 ?_))
        refine G.call (xs := [_, _]) rfl rfl (make_spec y.data x.data oM oM) bd_38_F23 rfl rfl rfl rfl tK (fun _ _ _ _ _ _ => trivial) ?_
        rintro _ _ ⟨rfl, rfl⟩
        try dsimp only [List.cons_append, List.nil_append]
        refine G.as ?_
        refine G.nil (EN.ts (CG.sr (G.mv ?_)))
        refine G.q rfl rfl rfl rfl (q_len_str rfl rfl us_9_F1) (G.q rfl rfl rfl rfl (q_gtr rfl rfl rfl) (G.nil (EN.then ?_)))
        refine CG.cond rfl (fun h104 => ?_) (fun h104 => ?_)
        ·
         have hS : stepB items i x out ats = .err 2 := by unfold stepB; rw [if_neg oM, if_neg hn1, if_neg hn2, if_neg (by rw [hdl]; decide), hjt, hgy, if_pos oM]
         rw [hS] at hgo
         simp only at hgo
         have hE : buildE items = ([], 2) := by rw [hE0, ← hgo]; rfl
         refine CG.sr (G.as ?_)
         refine G.as ?_
         refine G.nil (EN.sub (sC 0 (sC 2 (sC 3 (sC 4 (sC 5 (sC 7 (sC 9 (sC 10 (sC 25 (sC 26 (sC 27 Sub.nil))))))))))) ?_)
         refine EN.then (CG.ret (EN.then_ret (EN.in_ret ?_)))
         refine EN.then_ret (EN.then_ret (EN.in_ret ?_))
         refine EN.then_ret ?_
         exact fin_ret2 rfl rfl rfl tK sF (⟨by rw [hE] <;> rfl, rfl⟩) _ (.inl rfl)
        ·
         obtain ⟨d, hd⟩ : ∃ d, Dlt.make y.data x.data = d := ⟨_, rfl⟩
         have hzl := zw_len (Dlt.make y.data x.data) oM
         have hgj : ats.getD j 0 ≤ out.length := by
           obtain ⟨a, ha⟩ := get_some (l := ats) (k := j) oM
           rw [List.getD_eq_getElem?_getD, ha]; exact hat a (List.mem_of_getElem? ha)
         have hb1 := backL_len (n := out.length - ats.getD j 0) oM
         have hs20 := sum1_len (encode y.kind y.data)
         have hh40 := Sums.hex_len (Sha.sum1 (encode y.kind y.data))
         refine CG.skip (EN.tsr (G.q rfl rfl rfl rfl (q_field0 rfl rfl fo_53_3_F23) (G.ld ag_4_F23 ?_)))
         refine G.nil (EN.sub (sC 0 (sC 4 (sC 5 (sC 7 (sC 9 (sC 10 (sC 25 (sC 26 (sC 27 (sC 106 Sub.nil)))))))))) ?_)
         refine EN.then ?_
         refine CG.condB rfl (fun h106 => ?_) (fun h106 => ?_)
         ·
          have hhl := headL_len (k := 7) (n := (Dlt.make y.data x.data).length) oM
          have hS : stepB items i x out ats = .ok (out ++ (headL 7 (Dlt.make y.data x.data).length ++ Sha.sum1 (encode y.kind y.data) ++ zw (Dlt.make y.data x.data))) := by unfold stepB; rw [if_neg oM, if_neg hn1, if_neg hn2, if_neg (by rw [hdl]; decide), hjt, hgy, if_neg oM, if_pos h106]
          rw [hS] at hgo
          simp only at hgo
          have hol2 : (out ++ (headL 7 (Dlt.make y.data x.data).length ++ Sha.sum1 (encode y.kind y.data) ++ zw (Dlt.make y.data x.data))).length ≤ 12 + 70000 * (i + 1) := by simp only [List.length_append]; omega
          have hat2 := ats_ok (o := out ++ (headL 7 (Dlt.make y.data x.data).length ++ Sha.sum1 (encode y.kind y.data) ++ zw (Dlt.make y.data x.data))) hat (by simp)
          refine CG.sr (G.ldA ag_51_F16 sz_51_F16 ?_)
          refine G.call (xs := [_]) rfl rfl (oid_spec y.kind y.data) bd_39_F23 rfl rfl rfl rfl tK (fun _ _ _ _ _ _ => trivial) ?_
          rintro _ _ ⟨rfl, rfl⟩
          rw [show idV y.kind y.data = .tuple #[str (Sums.hex (Sha.sum1 (encode y.kind y.data))), .int .i64 0] from if_pos hyc]
          try dsimp only [List.cons_append, List.nil_append]
          refine G.mv ?_
          refine G.q rfl rfl rfl rfl (q_extract rfl rfl rfl) (G.q rfl rfl rfl rfl (q_extract rfl rfl rfl) (G.as ?_))
          refine G.as ?_
          refine G.nil (EN.sub (sC 0 (sC 4 (sC 5 (sC 10 (sC 11 (sC 25 (sC 26 (sC 27 Sub.nil)))))))) ?_)
          refine EN.tsr (G.mv ?_)
          refine G.call (xs := [_]) rfl rfl (unhex_spec (Sums.hex (Sha.sum1 (encode y.kind y.data))) oM) bd_40_F23 rfl rfl rfl rfl tK (fun _ _ _ _ _ _ => trivial) ?_
          rintro _ _ ⟨rfl, rfl⟩
          rw [unhexV_hex]
          try dsimp only [List.cons_append, List.nil_append]
          refine G.mv ?_
          refine G.q rfl rfl rfl rfl (q_extract rfl rfl rfl) (G.q rfl rfl rfl rfl (q_extract rfl rfl rfl) (G.as ?_))
          refine G.as ?_
          refine G.nil (EN.then (CG.regA (.ask 4 8 (.ord [0, 1, 2, 3, 4, 5, 6, 7, 8, 9, 10, 11]) (.ord [0, 1, 2, 3, 5, 7, 8, 4, 6, 9, 10, 11])) [] (fun _ => True) mixed (by kernel_rfl) (fun w hw => trivial) ?_))
          intro o ho; simp only [Ask.orders, List.cons_append, List.nil_append, List.mem_cons, List.not_mem_nil, or_false] at ho
          rcases ho with rfl | rfl
          ·
           dsimp only [pick, nth]
           refine G.mv ?_
           refine G.mv ?_
           refine G.q rfl rfl rfl rfl (q_len_str rfl rfl us_9_F1) (G.call (xs := [_, _]) rfl rfl (headOf_spec 7 (Dlt.make y.data x.data).length oM oM) bd_36_F23 rfl rfl rfl rfl tK (fun _ _ _ _ _ _ => trivial) ?_)
           rintro hv _ rfl
           try dsimp only [List.cons_append, List.nil_append]
           refine G.r rfl rfl rfl rfl (r_b2s rfl rfl bT_80_9_F23 mB) ?_
           refine G.mv ?_
           refine G.q rfl rfl rfl rfl (q_add_s rfl rfl rfl oM) (G.mv ?_)
           refine G.call (xs := [_]) rfl rfl (zwrite_spec (Dlt.make y.data x.data) oM) bd_37_F23 rfl rfl rfl rfl tK (fun _ _ _ _ _ _ => trivial) ?_
           rintro _ _ ⟨rfl, rfl⟩
           rw [zw_eq]
           try dsimp only [List.cons_append, List.nil_append]
           refine G.q rfl rfl rfl rfl (q_add_s rfl rfl rfl (by simp only [List.length_append]; omega)) (G.q rfl rfl rfl rfl (q_add_s rfl rfl rfl (by simp only [List.length_append]; omega)) (G.as ?_))
           refine G.nil (EN.sub (sC 0 (sC 4 (sC 5 (sC 25 (sC 26 (sC 27 Sub.nil)))))) ?_)
           refine EN.in_normal (EN.then ?_)
           skip
           refine CG.reg (G.q rfl rfl rfl rfl (q_add_i rfl rfl rfl oM) ?_)
           rw [ei]
           refine G.mv ?_
           refine G.nil ?_
           exact EN.round (hl := [_, _, _]) (m) oM (⟨i + 1, _, ats ++ [out.length], _, by omega, hol2, by simp [hal], hat2, hck2, hgo, rfl, rfl⟩) sB rfl tK sF
          ·
           dsimp only [pick, nth]
           refine G.mv ?_
           refine G.mv ?_
           refine G.q rfl rfl rfl rfl (q_len_str rfl rfl us_9_F1) (G.call (xs := [_, _]) rfl rfl (headOf_spec 7 (Dlt.make y.data x.data).length oM oM) bd_36_F23 rfl rfl rfl rfl tK (fun _ _ _ _ _ _ => trivial) ?_)
           rintro hv _ rfl
           try dsimp only [List.cons_append, List.nil_append]
           refine G.mv ?_
           refine G.mv ?_
           refine G.call (xs := [_]) rfl rfl (zwrite_spec (Dlt.make y.data x.data) oM) bd_37_F23 rfl rfl rfl rfl tK (fun _ _ _ _ _ _ => trivial) ?_
           rintro _ _ ⟨rfl, rfl⟩
           rw [zw_eq]
           try dsimp only [List.cons_append, List.nil_append]
           refine G.r rfl rfl rfl rfl (r_b2s rfl rfl bT_80_9_F23 mB) ?_
           refine G.q rfl rfl rfl rfl (q_add_s rfl rfl rfl oM) (G.q rfl rfl rfl rfl (q_add_s rfl rfl rfl (by simp only [List.length_append]; omega)) (G.q rfl rfl rfl rfl (q_add_s rfl rfl rfl (by simp only [List.length_append]; omega)) (G.as ?_)))
           refine G.nil (EN.sub (sC 0 (sC 4 (sC 5 (sC 25 (sC 26 (sC 27 Sub.nil)))))) ?_)
           refine EN.in_normal (EN.then ?_)
           skip
           refine CG.reg (G.q rfl rfl rfl rfl (q_add_i rfl rfl rfl oM) ?_)
           rw [ei]
           refine G.mv ?_
           refine G.nil ?_
           exact EN.round (hl := [_, _, _]) (m) oM (⟨i + 1, _, ats ++ [out.length], _, by omega, hol2, by simp [hal], hat2, hck2, hgo, rfl, rfl⟩) sB rfl tK sF
         ·
          have hhl := headL_len (k := 6) (n := (Dlt.make y.data x.data).length) oM
          have hS : stepB items i x out ats = .ok (out ++ (headL 6 (Dlt.make y.data x.data).length ++ backL (out.length - ats.getD j 0) ++ zw (Dlt.make y.data x.data))) := by unfold stepB; rw [if_neg oM, if_neg hn1, if_neg hn2, if_neg (by rw [hdl]; decide), hjt, hgy, if_neg oM, if_neg (by rw [h106]; decide)]
          rw [hS] at hgo
          simp only at hgo
          have hol2 : (out ++ (headL 6 (Dlt.make y.data x.data).length ++ backL (out.length - ats.getD j 0) ++ zw (Dlt.make y.data x.data))).length ≤ 12 + 70000 * (i + 1) := by simp only [List.length_append]; omega
          have hat2 := ats_ok (o := out ++ (headL 6 (Dlt.make y.data x.data).length ++ backL (out.length - ats.getD j 0) ++ zw (Dlt.make y.data x.data))) hat (by simp)
          refine CG.openOwn (T := 3) (sz := 1) (n := (ats ++ [out.length]).length) tK1 (by simp) (fun g5 cap5 cur5 hv5 hcap5 hmx5 hcr5 hct5 => ?_)
          subst hv5
          have hj5 : j < (ats ++ [out.length]).length := by simp; omega
          have hld5 : nth cur5 j = some (.int .i64 ((ats.getD j 0 : Nat) : Int)) := nth_take hct5 (by
            obtain ⟨a, ha⟩ := get_some (l := ats) (k := j) oM
            rw [List.getElem?_map, List.getElem?_append_left oM, List.getD_eq_getElem?_getD, ha]; rfl)
          refine CG.regA (.ask 4 13 (.ask 14 17 (.ord [0, 1, 2, 3, 4, 5, 6, 7, 8, 9, 10, 11, 12, 13, 14, 15, 16, 17, 18, 19, 20]) (.ord [0, 1, 2, 3, 4, 5, 6, 7, 8, 9, 10, 11, 12, 13, 16, 17, 14, 15, 18, 19, 20])) (.ask 4 17 (.ask 14 17 (.ord [0, 1, 2, 3, 5, 6, 7, 8, 9, 10, 11, 12, 13, 4, 14, 15, 16, 17, 18, 19, 20]) (.ord [0, 1, 2, 3, 5, 6, 7, 8, 9, 10, 11, 12, 13, 4, 16, 17, 14, 15, 18, 19, 20])) (.ask 14 17 (.ord [0, 1, 2, 3, 5, 6, 7, 8, 9, 10, 11, 12, 13, 14, 16, 17, 4, 15, 18, 19, 20]) (.ord [0, 1, 2, 3, 5, 6, 7, 8, 9, 10, 11, 12, 13, 16, 17, 4, 14, 15, 18, 19, 20])))) [137, 139] (Keeps _ [cel b7 53 [.int .i64 x.kind, str x.data, .bool true, .int .i64 (j : Nat), .bool x.byName], cel g5 3 cur5]) mixed (by kernel_rfl) (fun w hw => Keeps.of hw tK) ?_
          intro o ho; simp only [Ask.orders, List.cons_append, List.nil_append, List.mem_cons, List.not_mem_nil, or_false] at ho
          rcases ho with rfl | rfl | rfl | rfl | rfl | rfl
          ·
           dsimp only [pick, nth]
           refine G.mv ?_
           refine G.mv ?_
           refine G.q rfl rfl rfl rfl (q_len_str rfl rfl us_9_F1) (G.call (xs := [_, _]) rfl rfl (headOf_spec 6 (Dlt.make y.data x.data).length oM oM) bd_36_F23 rfl rfl rfl rfl tK (fun _ _ _ w hR hw => by subst hR; exact Keeps.of hw tK) ?_)
           rintro hv _ rfl
           try dsimp only [List.cons_append, List.nil_append]
           refine G.r rfl rfl rfl rfl (r_b2s rfl rfl bT_80_9_F23 mB) ?_
           refine G.mv ?_
           refine G.q rfl rfl rfl rfl (q_len_str rfl rfl us_9_F1) (G.mv ?_)
           refine G.q rfl rfl rfl rfl (q_field0 rfl rfl fo_53_2_F23) (G.rK rfl rfl rfl rfl rfl (fun R => r_load rfl rfl ag_3_F1 mB rfl) ?_)
           refine G.q rfl rfl rfl rfl (q_ixaddr1 rfl rfl rfl se_78_F5 sz_3_F1 (hj5)) (G.rK rfl rfl rfl rfl rfl (fun R => r_load rfl rfl ag_3_F1 mB (hld5)) ?_)
           refine G.q rfl rfl rfl rfl (q_sub_i rfl rfl rfl oM) ?_
           rw [show (out.length : Int) - ((ats.getD j 0 : Nat) : Int) = ((out.length - ats.getD j 0 : Nat) : Int) by omega]
           refine G.call (xs := [_]) rfl rfl (backOf_spec (out.length - ats.getD j 0) oM) bd_41_F23 rfl rfl rfl rfl tK (fun _ _ _ w hR hw => by subst hR; exact Keeps.of hw tK) ?_
           rintro bv _ rfl
           try dsimp only [List.cons_append, List.nil_append]
           refine G.r rfl rfl rfl rfl (r_b2s rfl rfl bT_80_9_F23 mB) ?_
           refine G.q rfl rfl rfl rfl (q_add_s rfl rfl rfl oM) (G.mv ?_)
           refine G.call (xs := [_]) rfl rfl (zwrite_spec (Dlt.make y.data x.data) oM) bd_37_F23 rfl rfl rfl rfl tK (fun _ _ _ w hR hw => by obtain ⟨_, rfl⟩ := hR; exact Keeps.of hw tK) ?_
           rintro _ _ ⟨rfl, rfl⟩
           rw [zw_eq]
           try dsimp only [List.cons_append, List.nil_append]
           refine G.q rfl rfl rfl rfl (q_add_s rfl rfl rfl (by simp only [List.length_append]; omega)) (G.q rfl rfl rfl rfl (q_add_s rfl rfl rfl (by simp only [List.length_append]; omega)) (G.as ?_))
           refine G.nil (EN.sub (sC 0 (sC 4 (sC 5 (sC 25 (sC 26 (sC 27 Sub.nil)))))) ?_)
           refine EN.in_normal (EN.then (CG.closeOwn (g := g5) (sz := 1) (xs := (ats ++ [out.length]).map iv) tK1 hcap5 hmx5 hcr5 hct5 ?_))
           refine CG.reg (G.q rfl rfl rfl rfl (q_add_i rfl rfl rfl oM) ?_)
           rw [ei]
           refine G.mv ?_
           refine G.nil ?_
           exact EN.round (hl := [_, _, _]) (m) oM (⟨i + 1, _, ats ++ [out.length], _, by omega, hol2, by simp [hal], hat2, hck2, hgo, rfl, rfl⟩) sB rfl tK sF
          ·
           dsimp only [pick, nth]
           refine G.mv ?_
           refine G.mv ?_
           refine G.q rfl rfl rfl rfl (q_len_str rfl rfl us_9_F1) (G.call (xs := [_, _]) rfl rfl (headOf_spec 6 (Dlt.make y.data x.data).length oM oM) bd_36_F23 rfl rfl rfl rfl tK (fun _ _ _ w hR hw => by subst hR; exact Keeps.of hw tK) ?_)
           rintro hv _ rfl
           try dsimp only [List.cons_append, List.nil_append]
           refine G.r rfl rfl rfl rfl (r_b2s rfl rfl bT_80_9_F23 mB) ?_
           refine G.mv ?_
           refine G.q rfl rfl rfl rfl (q_len_str rfl rfl us_9_F1) (G.mv ?_)
           refine G.q rfl rfl rfl rfl (q_field0 rfl rfl fo_53_2_F23) (G.rK rfl rfl rfl rfl rfl (fun R => r_load rfl rfl ag_3_F1 mB rfl) ?_)
           refine G.q rfl rfl rfl rfl (q_ixaddr1 rfl rfl rfl se_78_F5 sz_3_F1 (hj5)) (G.rK rfl rfl rfl rfl rfl (fun R => r_load rfl rfl ag_3_F1 mB (hld5)) ?_)
           refine G.q rfl rfl rfl rfl (q_sub_i rfl rfl rfl oM) ?_
           rw [show (out.length : Int) - ((ats.getD j 0 : Nat) : Int) = ((out.length - ats.getD j 0 : Nat) : Int) by omega]
           refine G.call (xs := [_]) rfl rfl (backOf_spec (out.length - ats.getD j 0) oM) bd_41_F23 rfl rfl rfl rfl tK (fun _ _ _ w hR hw => by subst hR; exact Keeps.of hw tK) ?_
           rintro bv _ rfl
           try dsimp only [List.cons_append, List.nil_append]
           refine G.mv ?_
           refine G.call (xs := [_]) rfl rfl (zwrite_spec (Dlt.make y.data x.data) oM) bd_37_F23 rfl rfl rfl rfl tK (fun _ _ _ w hR hw => by obtain ⟨_, rfl⟩ := hR; exact Keeps.of hw tK) ?_
           rintro _ _ ⟨rfl, rfl⟩
           rw [zw_eq]
           try dsimp only [List.cons_append, List.nil_append]
           refine G.r rfl rfl rfl rfl (r_b2s rfl rfl bT_80_9_F23 mB) ?_
           refine G.q rfl rfl rfl rfl (q_add_s rfl rfl rfl oM) (G.q rfl rfl rfl rfl (q_add_s rfl rfl rfl (by simp only [List.length_append]; omega)) (G.q rfl rfl rfl rfl (q_add_s rfl rfl rfl (by simp only [List.length_append]; omega)) (G.as ?_)))
           refine G.nil (EN.sub (sC 0 (sC 4 (sC 5 (sC 25 (sC 26 (sC 27 Sub.nil)))))) ?_)
           refine EN.in_normal (EN.then (CG.closeOwn (g := g5) (sz := 1) (xs := (ats ++ [out.length]).map iv) tK1 hcap5 hmx5 hcr5 hct5 ?_))
           refine CG.reg (G.q rfl rfl rfl rfl (q_add_i rfl rfl rfl oM) ?_)
           rw [ei]
           refine G.mv ?_
           refine G.nil ?_
           exact EN.round (hl := [_, _, _]) (m) oM (⟨i + 1, _, ats ++ [out.length], _, by omega, hol2, by simp [hal], hat2, hck2, hgo, rfl, rfl⟩) sB rfl tK sF
          ·
           dsimp only [pick, nth]
           refine G.mv ?_
           refine G.mv ?_
           refine G.q rfl rfl rfl rfl (q_len_str rfl rfl us_9_F1) (G.call (xs := [_, _]) rfl rfl (headOf_spec 6 (Dlt.make y.data x.data).length oM oM) bd_36_F23 rfl rfl rfl rfl tK (fun _ _ _ w hR hw => by subst hR; exact Keeps.of hw tK) ?_)
           rintro hv _ rfl
           try dsimp only [List.cons_append, List.nil_append]
           refine G.mv ?_
           refine G.q rfl rfl rfl rfl (q_len_str rfl rfl us_9_F1) (G.mv ?_)
           refine G.q rfl rfl rfl rfl (q_field0 rfl rfl fo_53_2_F23) (G.rK rfl rfl rfl rfl rfl (fun R => r_load rfl rfl ag_3_F1 mB rfl) ?_)
           refine G.q rfl rfl rfl rfl (q_ixaddr1 rfl rfl rfl se_78_F5 sz_3_F1 (hj5)) (G.rK rfl rfl rfl rfl rfl (fun R => r_load rfl rfl ag_3_F1 mB (hld5)) ?_)
           refine G.q rfl rfl rfl rfl (q_sub_i rfl rfl rfl oM) ?_
           rw [show (out.length : Int) - ((ats.getD j 0 : Nat) : Int) = ((out.length - ats.getD j 0 : Nat) : Int) by omega]
           refine G.call (xs := [_]) rfl rfl (backOf_spec (out.length - ats.getD j 0) oM) bd_41_F23 rfl rfl rfl rfl tK (fun _ _ _ w hR hw => by subst hR; exact Keeps.of hw tK) ?_
           rintro bv _ rfl
           try dsimp only [List.cons_append, List.nil_append]
           refine G.r rfl rfl rfl rfl (r_b2s rfl rfl bT_80_9_F23 mB) ?_
           refine G.r rfl rfl rfl rfl (r_b2s rfl rfl bT_80_9_F23 mB) ?_
           refine G.q rfl rfl rfl rfl (q_add_s rfl rfl rfl oM) (G.mv ?_)
           refine G.call (xs := [_]) rfl rfl (zwrite_spec (Dlt.make y.data x.data) oM) bd_37_F23 rfl rfl rfl rfl tK (fun _ _ _ w hR hw => by obtain ⟨_, rfl⟩ := hR; exact Keeps.of hw tK) ?_
           rintro _ _ ⟨rfl, rfl⟩
           rw [zw_eq]
           try dsimp only [List.cons_append, List.nil_append]
           refine G.q rfl rfl rfl rfl (q_add_s rfl rfl rfl (by simp only [List.length_append]; omega)) (G.q rfl rfl rfl rfl (q_add_s rfl rfl rfl (by simp only [List.length_append]; omega)) (G.as ?_))
           refine G.nil (EN.sub (sC 0 (sC 4 (sC 5 (sC 25 (sC 26 (sC 27 Sub.nil)))))) ?_)
           refine EN.in_normal (EN.then (CG.closeOwn (g := g5) (sz := 1) (xs := (ats ++ [out.length]).map iv) tK1 hcap5 hmx5 hcr5 hct5 ?_))
           refine CG.reg (G.q rfl rfl rfl rfl (q_add_i rfl rfl rfl oM) ?_)
           rw [ei]
           refine G.mv ?_
           refine G.nil ?_
           exact EN.round (hl := [_, _, _]) (m) oM (⟨i + 1, _, ats ++ [out.length], _, by omega, hol2, by simp [hal], hat2, hck2, hgo, rfl, rfl⟩) sB rfl tK sF
          ·
           dsimp only [pick, nth]
           refine G.mv ?_
           refine G.mv ?_
           refine G.q rfl rfl rfl rfl (q_len_str rfl rfl us_9_F1) (G.call (xs := [_, _]) rfl rfl (headOf_spec 6 (Dlt.make y.data x.data).length oM oM) bd_36_F23 rfl rfl rfl rfl tK (fun _ _ _ w hR hw => by subst hR; exact Keeps.of hw tK) ?_)
           rintro hv _ rfl
           try dsimp only [List.cons_append, List.nil_append]
           refine G.mv ?_
           refine G.q rfl rfl rfl rfl (q_len_str rfl rfl us_9_F1) (G.mv ?_)
           refine G.q rfl rfl rfl rfl (q_field0 rfl rfl fo_53_2_F23) (G.rK rfl rfl rfl rfl rfl (fun R => r_load rfl rfl ag_3_F1 mB rfl) ?_)
           refine G.q rfl rfl rfl rfl (q_ixaddr1 rfl rfl rfl se_78_F5 sz_3_F1 (hj5)) (G.rK rfl rfl rfl rfl rfl (fun R => r_load rfl rfl ag_3_F1 mB (hld5)) ?_)
           refine G.q rfl rfl rfl rfl (q_sub_i rfl rfl rfl oM) ?_
           rw [show (out.length : Int) - ((ats.getD j 0 : Nat) : Int) = ((out.length - ats.getD j 0 : Nat) : Int) by omega]
           refine G.call (xs := [_]) rfl rfl (backOf_spec (out.length - ats.getD j 0) oM) bd_41_F23 rfl rfl rfl rfl tK (fun _ _ _ w hR hw => by subst hR; exact Keeps.of hw tK) ?_
           rintro bv _ rfl
           try dsimp only [List.cons_append, List.nil_append]
           refine G.r rfl rfl rfl rfl (r_b2s rfl rfl bT_80_9_F23 mB) ?_
           refine G.mv ?_
           refine G.call (xs := [_]) rfl rfl (zwrite_spec (Dlt.make y.data x.data) oM) bd_37_F23 rfl rfl rfl rfl tK (fun _ _ _ w hR hw => by obtain ⟨_, rfl⟩ := hR; exact Keeps.of hw tK) ?_
           rintro _ _ ⟨rfl, rfl⟩
           rw [zw_eq]
           try dsimp only [List.cons_append, List.nil_append]
           refine G.r rfl rfl rfl rfl (r_b2s rfl rfl bT_80_9_F23 mB) ?_
           refine G.q rfl rfl rfl rfl (q_add_s rfl rfl rfl oM) (G.q rfl rfl rfl rfl (q_add_s rfl rfl rfl (by simp only [List.length_append]; omega)) (G.q rfl rfl rfl rfl (q_add_s rfl rfl rfl (by simp only [List.length_append]; omega)) (G.as ?_)))
           refine G.nil (EN.sub (sC 0 (sC 4 (sC 5 (sC 25 (sC 26 (sC 27 Sub.nil)))))) ?_)
           refine EN.in_normal (EN.then (CG.closeOwn (g := g5) (sz := 1) (xs := (ats ++ [out.length]).map iv) tK1 hcap5 hmx5 hcr5 hct5 ?_))
           refine CG.reg (G.q rfl rfl rfl rfl (q_add_i rfl rfl rfl oM) ?_)
           rw [ei]
           refine G.mv ?_
           refine G.nil ?_
           exact EN.round (hl := [_, _, _]) (m) oM (⟨i + 1, _, ats ++ [out.length], _, by omega, hol2, by simp [hal], hat2, hck2, hgo, rfl, rfl⟩) sB rfl tK sF
          ·
           dsimp only [pick, nth]
           refine G.mv ?_
           refine G.mv ?_
           refine G.q rfl rfl rfl rfl (q_len_str rfl rfl us_9_F1) (G.call (xs := [_, _]) rfl rfl (headOf_spec 6 (Dlt.make y.data x.data).length oM oM) bd_36_F23 rfl rfl rfl rfl tK (fun _ _ _ w hR hw => by subst hR; exact Keeps.of hw tK) ?_)
           rintro hv _ rfl
           try dsimp only [List.cons_append, List.nil_append]
           refine G.mv ?_
           refine G.q rfl rfl rfl rfl (q_len_str rfl rfl us_9_F1) (G.mv ?_)
           refine G.q rfl rfl rfl rfl (q_field0 rfl rfl fo_53_2_F23) (G.rK rfl rfl rfl rfl rfl (fun R => r_load rfl rfl ag_3_F1 mB rfl) ?_)
           refine G.q rfl rfl rfl rfl (q_ixaddr1 rfl rfl rfl se_78_F5 sz_3_F1 (hj5)) (G.rK rfl rfl rfl rfl rfl (fun R => r_load rfl rfl ag_3_F1 mB (hld5)) ?_)
           refine G.q rfl rfl rfl rfl (q_sub_i rfl rfl rfl oM) ?_
           rw [show (out.length : Int) - ((ats.getD j 0 : Nat) : Int) = ((out.length - ats.getD j 0 : Nat) : Int) by omega]
           refine G.call (xs := [_]) rfl rfl (backOf_spec (out.length - ats.getD j 0) oM) bd_41_F23 rfl rfl rfl rfl tK (fun _ _ _ w hR hw => by subst hR; exact Keeps.of hw tK) ?_
           rintro bv _ rfl
           try dsimp only [List.cons_append, List.nil_append]
           refine G.r rfl rfl rfl rfl (r_b2s rfl rfl bT_80_9_F23 mB) ?_
           refine G.mv ?_
           refine G.call (xs := [_]) rfl rfl (zwrite_spec (Dlt.make y.data x.data) oM) bd_37_F23 rfl rfl rfl rfl tK (fun _ _ _ w hR hw => by obtain ⟨_, rfl⟩ := hR; exact Keeps.of hw tK) ?_
           rintro _ _ ⟨rfl, rfl⟩
           rw [zw_eq]
           try dsimp only [List.cons_append, List.nil_append]
           refine G.r rfl rfl rfl rfl (r_b2s rfl rfl bT_80_9_F23 mB) ?_
           refine G.q rfl rfl rfl rfl (q_add_s rfl rfl rfl oM) (G.q rfl rfl rfl rfl (q_add_s rfl rfl rfl (by simp only [List.length_append]; omega)) (G.q rfl rfl rfl rfl (q_add_s rfl rfl rfl (by simp only [List.length_append]; omega)) (G.as ?_)))
           refine G.nil (EN.sub (sC 0 (sC 4 (sC 5 (sC 25 (sC 26 (sC 27 Sub.nil)))))) ?_)
           refine EN.in_normal (EN.then (CG.closeOwn (g := g5) (sz := 1) (xs := (ats ++ [out.length]).map iv) tK1 hcap5 hmx5 hcr5 hct5 ?_))
           refine CG.reg (G.q rfl rfl rfl rfl (q_add_i rfl rfl rfl oM) ?_)
           rw [ei]
           refine G.mv ?_
           refine G.nil ?_
           exact EN.round (hl := [_, _, _]) (m) oM (⟨i + 1, _, ats ++ [out.length], _, by omega, hol2, by simp [hal], hat2, hck2, hgo, rfl, rfl⟩) sB rfl tK sF
          ·
           dsimp only [pick, nth]
           refine G.mv ?_
           refine G.mv ?_
           refine G.q rfl rfl rfl rfl (q_len_str rfl rfl us_9_F1) (G.call (xs := [_, _]) rfl rfl (headOf_spec 6 (Dlt.make y.data x.data).length oM oM) bd_36_F23 rfl rfl rfl rfl tK (fun _ _ _ w hR hw => by subst hR; exact Keeps.of hw tK) ?_)
           rintro hv _ rfl
           try dsimp only [List.cons_append, List.nil_append]
           refine G.mv ?_
           refine G.q rfl rfl rfl rfl (q_len_str rfl rfl us_9_F1) (G.mv ?_)
           refine G.q rfl rfl rfl rfl (q_field0 rfl rfl fo_53_2_F23) (G.rK rfl rfl rfl rfl rfl (fun R => r_load rfl rfl ag_3_F1 mB rfl) ?_)
           refine G.q rfl rfl rfl rfl (q_ixaddr1 rfl rfl rfl se_78_F5 sz_3_F1 (hj5)) (G.rK rfl rfl rfl rfl rfl (fun R => r_load rfl rfl ag_3_F1 mB (hld5)) ?_)
           refine G.q rfl rfl rfl rfl (q_sub_i rfl rfl rfl oM) ?_
           rw [show (out.length : Int) - ((ats.getD j 0 : Nat) : Int) = ((out.length - ats.getD j 0 : Nat) : Int) by omega]
           refine G.call (xs := [_]) rfl rfl (backOf_spec (out.length - ats.getD j 0) oM) bd_41_F23 rfl rfl rfl rfl tK (fun _ _ _ w hR hw => by subst hR; exact Keeps.of hw tK) ?_
           rintro bv _ rfl
           try dsimp only [List.cons_append, List.nil_append]
           refine G.mv ?_
           refine G.call (xs := [_]) rfl rfl (zwrite_spec (Dlt.make y.data x.data) oM) bd_37_F23 rfl rfl rfl rfl tK (fun _ _ _ w hR hw => by obtain ⟨_, rfl⟩ := hR; exact Keeps.of hw tK) ?_
           rintro _ _ ⟨rfl, rfl⟩
           rw [zw_eq]
           try dsimp only [List.cons_append, List.nil_append]
           refine G.r rfl rfl rfl rfl (r_b2s rfl rfl bT_80_9_F23 mB) ?_
           refine G.r rfl rfl rfl rfl (r_b2s rfl rfl bT_80_9_F23 mB) ?_
           refine G.q rfl rfl rfl rfl (q_add_s rfl rfl rfl oM) (G.q rfl rfl rfl rfl (q_add_s rfl rfl rfl (by simp only [List.length_append]; omega)) (G.q rfl rfl rfl rfl (q_add_s rfl rfl rfl (by simp only [List.length_append]; omega)) (G.as ?_)))
           refine G.nil (EN.sub (sC 0 (sC 4 (sC 5 (sC 25 (sC 26 (sC 27 Sub.nil)))))) ?_)
           refine EN.in_normal (EN.then (CG.closeOwn (g := g5) (sz := 1) (xs := (ats ++ [out.length]).map iv) tK1 hcap5 hmx5 hcr5 hct5 ?_))
           refine CG.reg (G.q rfl rfl rfl rfl (q_add_i rfl rfl rfl oM) ?_)
           rw [ei]
           refine G.mv ?_
           refine G.nil ?_
           exact EN.round (hl := [_, _, _]) (m) oM (⟨i + 1, _, ats ++ [out.length], _, by omega, hol2, by simp [hal], hat2, hck2, hgo, rfl, rfl⟩) sB rfl tK sF
  ·
   obtain rfl : m = 0 := by omega
   rw [goB] at hgo
   have hE : buildE items = (out ++ Sha.sum1 out, 0) := by rw [hE0, ← hgo]; rfl
   have hs20 := sum1_len out
   refine CG.exit ?_
   refine EN.then_exit (EN.then_exit (EN.in_here ?_))
   refine EN.tsr (G.mv ?_)
   refine G.mv ?_
   refine G.call (xs := [_]) rfl rfl (sum1_spec out oM) bd_20_F16 rfl rfl rfl rfl tK (fun _ _ _ _ _ _ => trivial) ?_
   rintro _ _ ⟨rfl, rfl⟩
   try dsimp only [List.cons_append, List.nil_append]
   refine G.q rfl rfl rfl rfl (q_add_s rfl rfl rfl oM) (G.as ?_)
   refine G.as ?_
   refine G.nil (EN.sub (sC 2 (sC 3 Sub.nil)) ?_)
   refine EN.then (CG.ret ?_)
   exact fin_ret2 rfl rfl rfl tK sF (⟨by rw [hE] <;> rfl, rfl⟩) _ (.inl rfl)

end Go.Eng
/-
  Laws of packs: awake, PackOne.
-/
set_option linter.unusedVariables false
set_option linter.unusedSimpArgs false
namespace Go.Eng
open Go.Proofs
theorem bd_15_F24 : bodied Tryz.prog 15 = true := by kernel_rfl
theorem zl_30_F24 : zeroL Tryz.prog 30 = some [.int .i64 0, .int .i64 0, .int .i64 0, str [], .int .i64 0, str [], .int .u32 0] := by kernel_rfl

/-- the empty pack -/
def pk0 : List UInt8 := headO 0 ++ Sha.sum1 (headO 0)
theorem pk0_b : buildE [] = (pk0, 0) := rfl
theorem pk0_len : pk0.length = 32 := by unfold pk0; simp [sum1_len, headO, Sums.big]
theorem head0 : headO 0 = [80, 65, 67, 75, 0, 0, 0, 2, 0, 0, 0, 0] := by decide +kernel
theorem pk0_take : pk0.take 12 = headO 0 := by unfold pk0; rw [List.take_append_of_le_length (by rw [head0]; decide), List.take_of_length_le (by rw [head0]; decide)]
theorem pk0_body : pk0.take (pk0.length - 20) = headO 0 := by rw [pk0_len]; exact pk0_take
theorem pk0_c : countE pk0 = (0, 0) := by
  unfold countE
  have h4 : pk0.take 4 = [80, 65, 67, 75] := by rw [show pk0.take 4 = (pk0.take 12).take 4 by rw [List.take_take]; rfl, pk0_take, head0]; rfl
  have h8 : (pk0.take 8).drop 4 = [0, 0, 0, 2] := by rw [show pk0.take 8 = (pk0.take 12).take 8 by rw [List.take_take]; rfl, pk0_take, head0]; rfl
  have h12 : (pk0.take 12).drop 8 = [0, 0, 0, 0] := by rw [pk0_take, head0]; rfl
  have f2 : Sums.fromBig [0, 0, 0, 2] = 2 := by decide +kernel
  have f0 : Sums.fromBig [0, 0, 0, 0] = 0 := by decide +kernel
  have hd : pk0.drop (pk0.length - 20) = Sha.sum1 (headO 0) := by rw [pk0_len]; unfold pk0; rw [List.drop_append_of_le_length (by rw [head0]; decide), List.drop_of_length_le (by rw [head0]; decide)]; rfl
  rw [if_neg (by rw [pk0_len]; decide), h4, h8, h12, f2, f0, pk0_body, hd, if_neg (by simp), if_neg (by decide), if_neg (by simp)]; rfl
theorem pk0_r : readE pk0 12 = (.zero, 6) := by
  have := readE_in (s := pk0) (a := 12) (by omega) (by rw [pk0_len]; omega)
  rw [show ((12 : Nat) : Int) = 12 from rfl] at this
  rw [this, pk0_body, head0]; rfl
def OneLaw : Prop := ∀ (k : Nat) (d : List UInt8), 1 ≤ k → k ≤ 4 → d.length ≤ 400 → ∀ s, s = headO 1 ++ (headL k d.length ++ zw d) → ∃ c, readE (s ++ Sha.sum1 s) 12 = (⟨12, (s.length : Nat), k, d, 0, [], c⟩, 0)
attribute [local irreducible] cel own exS ownG tabH TabI Sums.hex Sha.sum1 zw headL backL Dlt.make encode ocheck Sums.big readE buildE countE headO pk0

set_option maxRecDepth 100000 in
set_option maxHeartbeats 1000000 in
theorem awake_spec {tz : TypeId × Nat × Nat}  : Spec Tryz.prog 12 #[] [TabI tz] (Ret fun v hl => v = .bool true ∧ hl = [TabI tz]) := by
 refine Spec.enter Tryz.func12 rfl rfl rfl (fun F w0 => ?_)
 dsimp only [argL, List.cons_append, List.nil_append]
 refine CG.sr (G.as ?_)
 refine G.nil (EN.ts (CG.ownNil 53 5 ?_))
 refine CG.imp Take.here (q := ownO 53 5 (.slice none 0 0) 0 []) (fun h hh => ownG_weak (own_G.1 hh)) ?_
 refine CG.reg (G.call (xs := [_]) rfl rfl (build_spec [] none 0) bd_15_F24 rfl rfl rfl rfl tK (fun _ _ _ _ _ _ => trivial) ?_)
 rintro _ _ ⟨rfl, rfl⟩
 rw [pk0_b]
 try dsimp only [List.cons_append, List.nil_append]
 refine G.mv ?_
 refine G.q rfl rfl rfl rfl (q_extract rfl rfl rfl) (G.q rfl rfl rfl rfl (q_extract rfl rfl rfl) (G.as ?_))
 refine G.as ?_
 refine G.nil (EN.tsr (G.mv ?_))
 refine G.call (xs := [_]) rfl rfl (count_spec pk0 (by rw [pk0_len]; decide)) bd_6_F21 rfl rfl rfl rfl tK (fun _ _ _ _ _ _ => trivial) ?_
 rintro _ _ ⟨rfl, rfl⟩
 rw [pk0_c]
 try dsimp only [List.cons_append, List.nil_append]
 refine G.mv ?_
 refine G.q rfl rfl rfl rfl (q_extract rfl rfl rfl) (G.q rfl rfl rfl rfl (q_extract rfl rfl rfl) (G.as ?_))
 refine G.as ?_
 refine G.nil (EN.sub (sC 0 (sC 1 (sC 2 (sC 3 (sC 4 Sub.nil))))) ?_)
 refine EN.tsr (G.mv ?_)
 refine G.call (xs := [_, _]) rfl rfl (pread_spec pk0 12 (by rw [pk0_len]; decide)) bd_8_F21 rfl rfl rfl rfl tK (fun _ _ _ _ _ _ => trivial) ?_
 rintro _ _ ⟨rfl, rfl⟩
 rw [pk0_r]
 try dsimp only [List.cons_append, List.nil_append]
 refine G.mv ?_
 refine G.q rfl rfl rfl rfl (q_extract rfl rfl rfl) (G.q rfl rfl rfl rfl (q_extract rfl rfl rfl) (G.e rfl rfl rfl rfl (e_alloc rfl zl_30_F24) (fun _ _ _ _ _ _ => trivial) ?_))
 rintro _ _ ⟨b5, rfl, rfl⟩
 refine G.sa0 sz_30_F19 ?_
 refine G.as ?_
 refine G.nil (EN.tsr (G.mv ?_))
 refine G.q rfl rfl rfl rfl (q_eql rfl rfl rfl) (G.mv ?_)
 refine G.split (t := 23) rfl (fun g23 => ?_) (fun g23 => absurd (rfl) g23)
 refine G.mv ?_
 refine G.q rfl rfl rfl rfl (q_eql rfl rfl rfl) (G.q rfl rfl rfl rfl (q_pick_t rfl rfl rfl) (G.mv ?_))
 refine G.split (t := 27) rfl (fun g27 => ?_) (fun g27 => absurd (rfl) g27)
 refine G.mv ?_
 refine G.q rfl rfl rfl rfl (q_eql rfl rfl rfl) (G.q rfl rfl rfl rfl (q_pick_t rfl rfl rfl) (G.mv ?_))
 refine G.split (t := 31) rfl (fun g31 => ?_) (fun g31 => absurd (rfl) g31)
 refine G.mv ?_
 refine G.q rfl rfl rfl rfl (q_eql rfl rfl rfl) (G.q rfl rfl rfl rfl (q_pick_t rfl rfl rfl) (G.mv ?_))
 refine G.split (t := 35) rfl (fun g35 => ?_) (fun g35 => absurd (rfl) g35)
 refine G.mv ?_
 refine G.q rfl rfl rfl rfl (q_len_str rfl rfl us_9_F1) (G.q rfl rfl rfl rfl (q_eql rfl rfl rfl) (G.q rfl rfl rfl rfl (q_pick_t rfl rfl rfl) (G.mv ?_)))
 refine G.split (t := 40) rfl (fun g40 => ?_) (fun g40 => absurd (by rw [pk0_len]; rfl) g40)
 refine G.mv ?_
 refine G.q rfl rfl rfl rfl (q_slice_hi rfl rfl rfl us_9_F1 (by rw [pk0_len]; decide)) ?_
 rw [pk0_take, head0]
 refine G.q rfl rfl rfl rfl (q_eql_s rfl rfl rfl) (G.q rfl rfl rfl rfl (q_pick_t rfl rfl rfl) (G.as ?_))
 refine G.nil (EN.sub (sC 0 Sub.nil) ?_)
 refine EN.then (CG.ret ?_)
 exact fin_ret1 rfl rfl tK sF (⟨by simp, rfl⟩) _ (.inl rfl)

end Go.Eng
/-
  Closing the cards: what every law of packs shares.
-/
set_option linter.unusedVariables false
set_option linter.constructorNameAsVariable false
set_option maxRecDepth 100000
namespace Go.Proofs.YtpoaiohhbpbofaaGreatDoor
open Go.ChangeShapes Go.WideShapes Go.ChangeAt Go.RowKit Go.Eng
section
variable {H : Type} {enc : TypeId × Value → H} {P : Program}
/-- all that stood stands as it stood -/
theorem post_of_kept {f : Func} {s : ChangeSpec} {apart fresh handsOn again : Bool} {W W' : World} {args : Array Value} {v : Value} {ds gs : List (DataW H)} {before pa pv : List MemPlace}
    (hW : DataW.Whole enc P f.params.toList s.vars apart W args.toList ds gs before)
    (hres : ∀ (b : Nat) (sp : Nat → Bool) (hd : Bool), DataW.TrodAll enc P W' b sp hd f.resultTypes.toList (v.resultList f.resultTypes.size) (s.fn H (ds ++ gs)).results [])
    (hargs : ∀ sp : Nat → Bool, (∀ p ∈ before, sp p.block = true) → DataW.TrodAll enc P W' 0 sp true f.params.toList args.toList (s.fn H (ds ++ gs)).args pa)
    (hvars : ∀ sp : Nat → Bool, (∀ p ∈ before, sp p.block = true) → DataW.TrodVars enc P W' sp s.vars (s.fn H (ds ++ gs)).vars pv)
    (hps : before = pa ++ pv) (hos : W'.os = W.os) (hout : W'.output = W.output) (hh : ∀ i, i < W.heap.size → W'.heap[i]? = W.heap[i]?)
    (hok : ∀ (j : Nat) (t : TypeId) (r : Value), f.resultTypes[j]? = some t → (v.resultList f.resultTypes.size)[j]? = some r → Value.okWide P W' .any 0 t r) :
    s.post enc P f apart fresh handsOn again W args v W' := by
  have hk : W.keptBut W' (· ∈ before) := ⟨hos, hout, fun i hi => by
    rw [hh i hi]
    split
    · rename_i h1 h2; rw [h1] at h2; cases h2; exact ⟨rfl, rfl, rfl, fun _ _ => rfl⟩
    · rename_i h1 h2; rw [h1] at h2; cases h2; exact .inr ⟨rfl, rfl⟩
    · rfl⟩
  have hlt : ∀ p ∈ before, p.block < W.heap.size := fun p hp => hW.lt p hp
  have hold : ∀ p ∈ before, (fun b => decide (b < W.heap.size)) p.block = true := fun p hp => by simpa using hlt p hp
  refine ⟨ds, gs, before, [], pa, pv, hW, hres _ _ _, hargs _ hold, hvars _ hold, World.keptBut_mono (fun p hp => ⟨hp, ?_⟩) hk, fun _ => ?_⟩
  · rw [hps, List.mem_append] at hp
    exact Or.inr hp
  · obtain ⟨_, _, _, _, _, hz, hn⟩ := hW
    refine ⟨hok, _, _, ([] ++ pa) ++ pv, ⟨[] ++ pa, pv, trodAll_append (hargs _ (fun _ _ => rfl)) (hres _ _ _), hvars _ (fun _ _ => rfl), rfl, ?_, ?_⟩, ?_⟩
    · intro b off hp
      have hb : MemPlace.cell b off ∈ before := by rw [hps]; simpa using hp
      have h1 := hh b (hlt _ hb)
      have h2 := hz b off hb
      unfold World.frozen? at h2 ⊢
      rw [show (⟨b, off, none⟩ : Addr).block = b from rfl] at h2 ⊢
      rw [h1]; exact h2
    · intro ha
      have := hn ha
      rw [hps] at this
      simpa using this
    · intro p hp _
      rw [hps]
      simpa using hp
end
theorem own : ownKnob Tryz.prog.godebug = none := by kernel_rfl
theorem gTab : Tryz.prog.globalNamed "internal/strconv.uint64pow10" = some 0 := by kernel_rfl
theorem gTabType : (Tryz.prog.globals[0]?).map (·.type) = some 186 := by kernel_rfl
theorem cellsA : Tryz.prog.cellsOf 186 = 20 := by kernel_rfl
theorem cellsE : Tryz.prog.cellsOf 58 = 1 := by kernel_rfl
theorem tabEq {H : Type} : (Rows.laid_internal_strconv_uint64pow10 : DataW H) = Lib.tabData .u64 Lib.pow10Tab := by kernel_rfl
def laid3 : List (String × DataW Unit) := [("math/bits.deBruijn32tab", Rows.laid_math_bits_deBruijn32tab), ("math/bits.deBruijn64tab", Rows.laid_math_bits_deBruijn64tab), ("internal/strconv.uint64pow10", Rows.laid_internal_strconv_uint64pow10)]
theorem table {W : World} (h : laidMetH Tryz.prog laid3 W) : Lib.TabIs Tryz.prog W "internal/strconv.uint64pow10" .u64 Lib.pow10Tab := by
  have h' : laidMet Tryz.prog laid3 W := h
  unfold laid3 at h'
  obtain ⟨ps, ⟨_, _, _, _, _, _, _, _, _, _, ⟨_, _, _, _, _, _, _, _, _, _, ⟨g', t', cs, fuel, p, q, hg', ht', hvar, hd, _, _⟩, _⟩, _⟩, _⟩ := h'
  obtain rfl := Option.some.inj (gTabType.symm.trans (by rw [← Option.some.inj (gTab.symm.trans hg')] at ht'; exact ht'))
  rw [tabEq] at hd
  unfold Lib.TabIs
  rw [hvar, ← Lib.cells_of_tab Tryz.underlying186 Tryz.underlying58 cellsE cellsA hd]
/-- the table's block -/
theorem tableAt {W : World} (h : laidMetH Tryz.prog laid3 W) : ∃ tz : TypeId × Nat × Nat, W.heap[0]? = some (.cells (Lib.pow10Tab.map fun z => .int .u64 z).toArray tz.1 tz.2) := by
  have ht := table h
  unfold Lib.TabIs World.var? at ht
  rw [gTab, Option.bind_some] at ht
  split at ht
  · rename_i cs T z hc
    cases ht
    exact ⟨(T, z), hc⟩
  · cases ht
def litV : DataW Unit → Value
  | .lit (.int k n) => .int k n
  | _ => .bool false
def tabV : DataW Unit → Array Value
  | .agg l => (l.map litV).toArray
  | _ => #[]
def layV (d : DataW Unit) : Obj → Obj
  | .cells _ t z => .cells (tabV d) t z
  | o => o
/-- A WORLD FOR THE WITNESS -/
noncomputable def laidWorld (os : Os) : World :=
  { World.holding Tryz.prog os ⟨#[], #[], []⟩ with heap := (((World.holding Tryz.prog os ⟨#[], #[], []⟩).heap.modify 1 (layV Rows.laid_math_bits_deBruijn32tab)).modify 2 (layV Rows.laid_math_bits_deBruijn64tab)).modify 0 (layV Rows.laid_internal_strconv_uint64pow10) }
theorem laid_met (os : Os) (args : Array Value) : laidMet Tryz.prog laid3 ((laidWorld os).forCall (fun _ _ => 0) ⟨#[], args, []⟩).memory :=
  laidMet_of_run' 8 (by kernel_rfl) (by kernel_rfl)
theorem str_of (s : ByteArray) : Value.string s = str s.data.toList := by unfold str; rfl
end Go.Proofs.YtpoaiohhbpbofaaGreatDoor
/-
  A caller's slice, read only; several blocks kept. Speaks of no program.
-/
set_option linter.unusedVariables false
set_option linter.unusedSimpArgs false
namespace Go.Eng
/-- n elements of sz cells of a caller's slice, in the block o -/
def rowR (ad : Option Addr) (n sz : Nat) (xs : List Value) (o : Obj) : HP := fun h =>
  xs.length = n * sz ∧ (n = 0 ∨ ∃ g off cur T z, ad = some ⟨g, off, none⟩ ∧ o = .cells cur T z ∧ h g = some o ∧ (cur.toList.drop off).take (n * sz) = xs)
section
variable {P : Program} {w0 : World} {N : Nat} {Q : Exit → Act → World → Prop} {D : List Deferred} {L : List (Nat × Value)} {H H1 : List HP} {o : Oper}
end
section
variable {P : Program} {f : FuncId} {args : Array Value} {v : Value}
end
end Go.Eng
/-
  Rows of a string's conversion: they bear a mark behind their cells. Speaks of no program.
-/
set_option linter.unusedVariables false
set_option linter.unusedSimpArgs false
namespace Go.Eng
def okZ (z : Nat × Nat) (n : Nat) : Prop := z = (0, 0) ∨ n ≤ z.1
theorem okZ_frz {z : Nat × Nat} {n i : Nat} (h : okZ z n) (hi : i < n) : (decide (z.1 ≤ i) && decide (i < z.2)) = false := by
  rcases h with rfl | h
  · simp
  · simp only [Bool.and_eq_false_iff, decide_eq_false_iff_not]; left; omega
/-- a block of cells with a mark -/
def celZ (b : Nat) (T : TypeId) (z : Nat × Nat) (l : List Value) : HP := pt b (.cells l.toArray T z)
/-- a slice of n one-cell elements that owns its row, which may bear a mark -/
def ownM (T : TypeId) (v : Value) (n : Nat) (xs : List Value) : HP := fun h =>
  xs.length = n ∧ ∃ g cap cur z, v = .slice (some ⟨g, 0, none⟩) n cap ∧ h g = some (.cells cur T z) ∧ okZ z cur.size ∧ n ≤ cap ∧ cap ≤ maxLen ∧ cur.size = cap ∧ cur.toList.take n = xs
theorem setCells_heapZ (b : Nat) {T : Nat} {z : Nat × Nat} : ∀ (vs : List Value) (o : Nat) (w : World) (cs : List Value), w.heap[b]? = some (.cells cs.toArray T z) → o + vs.length ≤ cs.length →
    (w.setCells b o vs).heap[b]? = some (.cells (cs.take o ++ vs ++ cs.drop (o + vs.length)).toArray T z) ∧ ∀ k, k ≠ b → (w.setCells b o vs).heap[k]? = w.heap[k]?
  | [], o, w, cs, hb, _ => by simpa [World.setCells] using hb
  | v :: vs, o, w, cs, hb, hl => by
    simp only [List.length_cons] at hl
    have h1 : (w.setCell ⟨b, o, none⟩ v).heap[b]? = some (.cells (cs.set o v).toArray T z) := by
      simp [World.setCell, Array.getElem?_modify, hb]
    obtain ⟨h2, h3⟩ := setCells_heapZ b vs (o + 1) _ _ h1 (by simp; omega)
    refine ⟨?_, fun k hk => ?_⟩
    · rw [World.setCells, h2]
      have e1 : (cs.set o v).take (o + 1) = cs.take o ++ [v] := by
        rw [List.take_add_one, List.take_set_of_le (Nat.le_refl _)]
        simp [show o < cs.length by omega]
      have e2 : (cs.set o v).drop (o + 1 + vs.length) = cs.drop (o + (vs.length + 1)) := by
        rw [List.drop_set_of_lt (by omega)]; congr 1; omega
      rw [e1, e2]; simp
    · rw [World.setCells, h3 k hk]
      exact RowKit.Below.heap_setCell _ _ _ _ hk
section
variable {P : Program} {L : List (Nat × Value)} {H : List HP} {o : Oper}
theorem cell_celZ {w0 w : World} {b T off : Nat} {z : Nat × Nat} {cs : List Value} {v : Value} (hw : WS w0 H w) (hm : Mem (celZ b T z cs) H) (hv : nth cs off = some v) : w.cell? ⟨b, off, none⟩ = some v := by
  have := hw.pt hm
  rw [nth_eq] at hv
  simp [World.cell?, this, hv]
theorem r_loadZ {x : Operand} {T U : TypeId} {b off : Nat} {z : Nat × Nat} {cs : List Value} {v : Value} (ho : o.op = .load T x) (hx : ev L x = some (.pointer (some ⟨b, off, none⟩))) (hT : aggB P T = some false) (hm : Mem (celZ b U z cs) H) (hv : nth cs off = some v) : ROp P L H o v := by
  intro N D a w w0 hf hw
  unfold execOp; rw [ho]
  simp [hf.ev hx, Instr.loadAt, Instr.sureAddr, loadVar, run_isAgg hT, cell_celZ hw hm hv]
/-- append to such a row -/
theorem e_appendM {x y : Operand} {t tx e bytes : Nat} {zs : List Value} {v v2 : Value} {n m : Nat} {xs news : List Value} {H1 : List HP} (ho : o.op = .call { callee := .builtin .append, args := #[x, y], argTypes := #[t, tx] })
    (hx : ev L x = some v) (hy : ev L y = some v2) (hs : sliceE P t = some e) (hi : infoB P e = some (some zs, 1, bytes)) (hz : Nat.beq zs.length 1 = true)
    (ht : Take H (ownM e v n xs) H1) (hsrc : ∀ w0 w, WS w0 H1 w → Src P 1 tx v2 m news w) (hm0 : 0 < m) (hb : (n + m) * bytes ≤ 140737488355328 ∧ n + m ≤ 140737488355328) :
    EOp P L H o (fun u H' => H' = ownM e u (n + m) (xs ++ news) :: H1) := by
  intro N D a w w0 K Q hf hw hk
  obtain ⟨i, zv, hi1, hi2, hi3, hi4, hi5⟩ := infoB_spec hi
  have hz' := Nat.eq_of_beq_eq_true hz
  have hw2 : WS w0 (ownM e v n xs :: H1) w := hw.take1 ht
  have hS := hsrc w0 w ⟨star_tail hw2.sat, hw2.os, hw2.tape, hw2.output⟩
  rw [← hi4] at hS
  obtain ⟨S, hp⟩ := hw2.get .here
  have hnl : news.length = m := by rw [hS.newsLen, hi4, Nat.mul_one]
  have hlen : (xs ++ news).length = n + m := by rw [List.length_append, hp.1, hnl]
  have hst := sliceE_spec hs
  have grown : ∀ (old : Nat), old < n + m → ∀ u, u = Value.slice (some ⟨w.heap.size, 0, none⟩) (n + m) (grownCap w (n + m) old e) →
      WS w0 (ownM e u (n + m) (xs ++ news) :: H1) (w.drew.alloc (.cells ((xs ++ news).toArray ++ Builtin.zeroCells zv.cells (grownCap w (n + m) old e - (n + m))) e)) := by
    rintro old ho u rfl
    have hge := grownCap_ge w (n + m) old e
    have hcm : grownCap w (n + m) old e ≤ maxLen := grownCap_le_maxLen w (n + m) old e (by unfold maxLen; omega)
    have hsz : ((xs ++ news).toArray ++ Builtin.zeroCells zv.cells (grownCap w (n + m) old e - (n + m))).size = grownCap w (n + m) old e := by
      simp only [Array.size_append, List.size_toArray, size_zeroCells, hi3, hz', hlen]
      omega
    refine hw2.upd .here (fun S' hp' => ⟨⟨hlen, w.heap.size, _, _, (0, 0), rfl, ?_, .inl rfl, hge, hcm, hsz, ?_⟩, fun k hk _ => RowKit.Below.heap_alloc w.drew _ k hk⟩) rfl rfl rfl
    · rw [res_in (.inr (Nat.le_refl _))]; exact heap_alloc_new w.drew _
    · rw [← hlen]
      simp only [Array.toList_append]
      exact List.take_left
  have hrun : ∃ u w', (Builtin.append_ #[t, tx] o.type #[v, v2]).run P w = .ok u w' ∧ WS w0 (ownM e u (n + m) (xs ++ news) :: H1) w' := by
    obtain ⟨_, g, cap, cur, z, rfl, hg, hok, hnc, hcm, hfit, htk⟩ := hp
    have hgw := (res_pt hg).2
    by_cases hroom : n + m ≤ cap
    · have hcl : cur.toList.length = cur.size := Array.length_toList
      have hfit2 : n + news.length ≤ cur.toList.length := by omega
      have hr := run_append_room_src (P := P) w t tx o.type e i hst hi1 g 0 n cap v2 m news hS hroom (fun j hj => by
          rw [hi4]
          have h2 : n + j < cur.size := by omega
          simp [World.cell?, hgw, h2]) (fun j hj => by
          rw [hi4]
          simp only [World.frozen?, hgw]; exact okZ_frz hok (by omega))
      rw [hi4] at hr
      rw [show 0 + n * 1 = n by omega] at hr
      obtain ⟨h3, h4⟩ := setCells_heapZ g news n w cur.toList (by simpa using hgw) hfit2
      refine ⟨_, _, hr, ?_⟩
      have hk0 := World.keptBut_setCells g (may := fun _ => True) news n w (fun _ _ => trivial)
      refine hw2.upd .here (fun S' hp' => ?_) hk0.1 ?_ hk0.2.1
      · have hSg : S' g := by
          obtain ⟨_, g', cap', cur', z', e1, hg', _⟩ := hp'
          cases e1; exact (res_pt hg').1
        refine ⟨⟨hlen, g, cap, (cur.toList.take n ++ news ++ cur.toList.drop (n + news.length)).toArray, z, rfl, ?_, ?_, hroom, hcm, ?_, ?_⟩, fun k hlt hk => h4 k (fun e => hk (e ▸ hSg))⟩
        · rw [res_in (.inl hSg)]; exact h3
        · rcases hok with h | h
          · exact .inl h
          · right; simp only [List.size_toArray, List.length_append, List.length_take, List.length_drop] at hfit2 ⊢; omega
        · simp only [List.size_toArray, List.length_append, List.length_take, List.length_drop] at hfit2 ⊢; omega
        · rw [htk, ← hlen]
          exact List.take_left
      · have : ∀ (vs : List Value) (o : Nat) (w : World), (w.setCells g o vs).tape = w.tape := by
          intro vs
          induction vs with
          | nil => intro o w; rfl
          | cons v vs ih => intro o w; exact (ih _ _).trans rfl
        exact this _ _ _
    · have hgd : w.drew.heap[g]? = some (.cells cur e z) := hgw
      have hold : (Builtin.firstCells i.size n (.slice (some ⟨g, 0, none⟩) n cap)).run P w.drew = .ok xs.toArray w.drew := by
        refine run_firstCells_some w.drew i.size n _ _ _ xs (by rw [hi4, ← htk, List.length_take, Array.length_toList]; omega) (fun j u hj => ?_)
        rw [Addr.add_lit, Nat.zero_add]
        rw [← htk, List.getElem?_take] at hj
        split at hj
        · rw [Array.getElem?_toList] at hj
          simp [World.cell?, hgd, hj]
        · cases hj
      have hr := run_append_grow_src (P := P) w t tx o.type e i zv hst hi1 hi2 (some ⟨g, 0, none⟩) n cap xs hold v2 m news hS (by omega) (by omega) (growslice_fits (by omega) (by rw [hi5]; exact hb.1))
      exact ⟨_, _, hr, grown cap (by omega) _ rfl⟩
  obtain ⟨u, w', h1, h2⟩ := hrun
  have hrun : (execOp a.eval o).run P w = .ok (.value u) w' := by
    unfold execOp; rw [ho]
    simp [resolve, invoke, builtin, hf.ev hx, hf.ev hy, h1]
  unfold Oper.wp; rw [hrun]
  exact hk _ _ _ rfl h2
/-- string to bytes -/
def strB (P : Program) (S T : TypeId) : Option TypeId := match P.underlying S, P.underlying T with
  | some .string, some (.slice e) => match P.underlying e with | some (.int .u8) => some e | _ => none
  | _, _ => none
theorem strB_spec {S T e : TypeId} (h : strB P S T = some e) : P.underlying S = some .string ∧ P.underlying T = some (.slice e) ∧ P.underlying e = some (.int .u8) := by
  unfold strB at h
  split at h
  · rename_i e' h1 h2
    split at h
    · rename_i h3; cases h; exact ⟨h1, h2, h3⟩
    · cases h
  · cases h
theorem e_s2b {x : Operand} {S T e : TypeId} {l : List UInt8} (ho : o.op = .convert S T x) (hx : ev L x = some (str l)) (hT : strB P S T = some e) (hl : l.length ≤ 1000000000) : EOp P L H o (fun u H' => H' = ownM e u l.length (l.map u8v) :: H) := by
  intro N D a w w0 K Q hf hw hk
  obtain ⟨h1, h2, h3⟩ := strB_spec hT
  have hr := run_bytes_of_string (P := P) w S T e ⟨l.toArray⟩ h1 h2 h3
  have hsz : (⟨l.toArray⟩ : ByteArray).size = l.length := by simp [ByteArray.size]
  rw [hsz] at hr
  generalize hC : bytesRow ⟨l.toArray⟩ (grownCap w l.length 0 e) = C at hr
  have hrun : (execOp a.eval o).run P w = .ok (.value (.slice (some ⟨w.heap.size, 0, none⟩) l.length (grownCap w l.length 0 e))) (w.drew.alloc (.cells C e (C.size, C.size + 1))) := by
    unfold execOp; rw [ho]
    simp only [hf.ev hx, str, Sem.run_bind, hr]; rfl
  have hge := grownCap_ge w l.length 0 e
  have hcm : grownCap w l.length 0 e ≤ maxLen := grownCap_le_maxLen w l.length 0 e (by unfold maxLen; omega)
  have hCs : C.size = grownCap w l.length 0 e := by
    rw [← hC]; simp [bytesRow, ByteArray.size]; omega
  have hCt : C.toList.take l.length = l.map u8v := by
    rw [← hC]; unfold bytesRow
    rw [Array.toList_append, List.take_append_of_le_length (by simp)]
    simp only [Array.toList_map]
    rw [List.take_of_length_le (by simp)]
    rfl
  unfold Oper.wp; rw [hrun]
  refine hk _ _ _ rfl ?_
  have hw1 : WS w0 H w.drew := hw.heapEq rfl rfl rfl rfl
  have hw2 := hw1.alloc (.cells C e (C.size, C.size + 1))
  exact hw2.imp fun h hh => ⟨by simp, _, _, C, _, rfl, hh, .inr (Nat.le_refl _), hge, hcm, hCs, hCt⟩
/-- s[l:l+m] -/
theorem q_slsl_lh {x y y2 : Operand} {t e sz len cap b off l m : Nat} {k k' : IntKind} (ho : o.op = .slice t x (some y) (some y2) none) (hx : ev L x = some (.slice (some ⟨b, off, none⟩) len cap)) (hy : ev L y = some (.int k (l : Int))) (hy2 : ev L y2 = some (.int k' ((l + m : Nat) : Int))) (hs : sliceE P t = some e) (hz : sizeB P e = some sz) (h : l ≤ len ∧ l + m ≤ cap ∧ l < cap) : QOp P L o (.slice (some ⟨b, off + l * sz, none⟩) m (cap - l)) := by
  intro N D ac w hf
  unfold execOp; rw [ho]
  have := sliced_run (ad := some ⟨b, off, none⟩) (len := len) (lo := l) (hi := l + m) (cap := cap) hs hz (some (.int k l)) (some (.int k' ((l + m : Nat) : Int))) w ⟨k, rfl⟩ ⟨k', rfl⟩ (Nat.le_add_right _ _) h.2.1 h.1
  simp only [hf.ev hx, hf.ev hy, hf.ev hy2, Option.map_none, Option.map_some, Sem.run_bind] at this ⊢
  rw [this, if_neg (by omega), Nat.add_sub_cancel_left]
  simp [Addr.add_lit]
end
section
variable {P : Program} {w0 : World} {N : Nat} {Q : Exit → Act → World → Prop} {D : List Deferred} {L : List (Nat × Value)} {H H1 : List HP}
theorem WS.openM {w : World} {T n : Nat} {v : Value} {xs : List Value} (h : WS w0 (ownM T v n xs :: H) w) :
    ∃ g cap cur z, v = .slice (some ⟨g, 0, none⟩) n cap ∧ xs.length = n ∧ okZ z cur.length ∧ n ≤ cap ∧ cap ≤ maxLen ∧ cur.length = cap ∧ cur.take n = xs ∧ WS w0 (celZ g T z cur :: H) w := by
  obtain ⟨S, h1, h2⟩ := star_cons.1 h.sat
  obtain ⟨hx, g, cap, cur, z, rfl, hg, hok, hc1, hc2, hc3, hc4⟩ := h1
  refine ⟨g, cap, cur.toList, z, rfl, hx, by simpa using hok, hc1, hc2, by simpa using hc3, hc4, star_cons.2 ⟨S, ?_, h2⟩, h.os, h.tape, h.output⟩
  simpa [celZ, Eng.pt] using hg
theorem CG.openM {c : Code} {T n : Nat} {v : Value} {xs : List Value} (ht : Take H (ownM T v n xs) H1)
    (k : ∀ g cap cur z, v = .slice (some ⟨g, 0, none⟩) n cap → xs.length = n → okZ z cur.length → n ≤ cap → cap ≤ maxLen → cur.length = cap → cur.take n = xs → CG P w0 N c Q D L (celZ g T z cur :: H1)) : CG P w0 N c Q D L H := by
  intro a w hf hw
  obtain ⟨g, cap, cur, z, h1, h2, h3, h4, h5, h6, h7, h8⟩ := (hw.take1 ht).openM
  exact k g cap cur z h1 h2 h3 h4 h5 h6 h7 a w hf h8
theorem ownM_shape {T n : Nat} {v : Value} {xs : List Value} {h : Hp} (hh : ownM T v n xs h) : xs.length = n ∧ n ≤ maxLen ∧ ∃ ad c, v = .slice ad n c ∧ n ≤ c := by
  obtain ⟨h1, g, cap, cur, z, rfl, h4, h5, h6, h7, h8, h9⟩ := hh
  exact ⟨h1, by omega, _, _, rfl, h6⟩
end
end Go.Eng
/-
  Slices that are only read, whatever holds their rows; rows of rows. Speaks of no program.
-/
set_option linter.unusedVariables false
set_option linter.unusedSimpArgs false
namespace Go.Eng
def bv (b : Bool) : Value := .bool b
/-- where p holds, the cells from ad on are xs -/
def RdA (p : HP) (ad : Option Addr) (xs : List Value) : Prop := ∀ (S : Nat → Prop) (w : World), p (res S w) → ∀ (i : Nat) (v : Value), xs[i]? = some v → ∃ g off, ad = some ⟨g, off, none⟩ ∧ w.cell? ⟨g, off + i, none⟩ = some v
theorem rd_ownG {z : Bool} {T n c : Nat} {ad : Option Addr} {xs : List Value} : RdA (ownG z T 1 (.slice ad n c) n xs) ad xs := by
  intro S w hh i v hi
  obtain ⟨hl, ⟨e, h0⟩ | ⟨g, off, cap, cur, e, h4, h5, h6, h7, h8, h9⟩⟩ := hh
  · have := (List.getElem?_eq_some_iff.1 hi).1
    omega
  · cases e
    refine ⟨g, off, rfl, ?_⟩
    have hg := (res_pt h4).2
    rw [← h8, List.getElem?_take] at hi
    split at hi
    · rw [List.getElem?_drop, Array.getElem?_toList] at hi
      simp [World.cell?, hg, hi]
    · cases hi
theorem rd_own {T n c : Nat} {ad : Option Addr} {xs : List Value} : RdA (own T 1 (.slice ad n c) n xs) ad xs := by rw [own_eq]; exact rd_ownG
theorem rd_cel {g T n : Nat} {cur xs : List Value} (h : cur.take n = xs) : RdA (cel g T cur) (some ⟨g, 0, none⟩) xs := by
  intro S w hh i v hi
  refine ⟨g, 0, rfl, ?_⟩
  have hg := (res_pt hh).2
  rw [← h, List.getElem?_take] at hi
  split at hi
  · rw [Nat.zero_add]; simp [World.cell?, hg, hi]
  · cases hi
theorem rd_nil {p : HP} {ad : Option Addr} : RdA p ad [] := fun _ _ _ i v h => by cases h
/-- the address of s[l:] -/
def adLH (cap l sz : Nat) (ad : Option Addr) : Option Addr := if cap = l then ad else ad.map (·.add (l * sz))
theorem rd_sub {p : HP} {ad : Option Addr} {xs : List Value} {cap l m : Nat} (h : RdA p ad xs) (hx : xs.length ≤ cap) : RdA p (adLH cap l 1 ad) ((xs.drop l).take m) := by
  intro S w hh i v hi
  rw [List.getElem?_take] at hi
  split at hi
  · rw [List.getElem?_drop] at hi
    have hlt := (List.getElem?_eq_some_iff.1 hi).1
    obtain ⟨g, off, rfl, hc⟩ := h S w hh (l + i) v hi
    refine ⟨g, off + l, ?_, by rw [Nat.add_assoc]; exact hc⟩
    unfold adLH; rw [if_neg (by omega)]; simp [Addr.add_lit]
  · cases hi
section
variable {P : Program} {L : List (Nat × Value)} {H : List HP} {o : Oper}
theorem q_slLH {x y y2 : Operand} {t e sz len cap l m : Nat} {ad : Option Addr} {k k' : IntKind} (ho : o.op = .slice t x (some y) (some y2) none) (hx : ev L x = some (.slice ad len cap)) (hy : ev L y = some (.int k (l : Int))) (hy2 : ev L y2 = some (.int k' ((l + m : Nat) : Int))) (hs : sliceE P t = some e) (hz : sizeB P e = some sz) (h : l ≤ len ∧ l + m ≤ cap) : QOp P L o (.slice (adLH cap l sz ad) m (cap - l)) := by
  intro N D ac w hf
  unfold execOp; rw [ho]
  have := sliced_run (ad := ad) (len := len) (lo := l) (hi := l + m) (cap := cap) hs hz (some (.int k l)) (some (.int k' ((l + m : Nat) : Int))) w ⟨k, rfl⟩ ⟨k', rfl⟩ (Nat.le_add_right _ _) h.2 h.1
  simp only [hf.ev hx, hf.ev hy, hf.ev hy2, Option.map_none, Option.map_some, Sem.run_bind] at this ⊢
  rw [this, Nat.add_sub_cancel_left]
  rfl
theorem q_ixad1 {x y : Operand} {t e : TypeId} {b off len cap : Nat} {k : IntKind} {i : Nat} (ho : o.op = .indexAddr t x y) (hx : ev L x = some (.slice (some ⟨b, off, none⟩) len cap)) (hy : ev L y = some (.int k i))
    (hs : sliceE P t = some e) (hz : sizeB P e = some 1) (h : i < len) : QOp P L o (.pointer (some ⟨b, off + i, none⟩)) := by
  have := q_ixaddr ho hx hy hs hz h
  rw [Nat.mul_one] at this; exact this
theorem q_neq_b {x y : Operand} {T U : TypeId} {a b : Bool} (ho : o.op = .binOp .neq T x y U) (hx : ev L x = some (.bool a)) (hy : ev L y = some (.bool b)) (hT : P.underlying T = some .bool) : QOp P L o (.bool (decide (a ≠ b))) := q_bin ho hx hy fun w => by
  have h : (Op.equal T (.bool a) (.bool b)).run P w = .ok (a == b) w := by
    unfold Op.equal Op.maxDepth
    exact run_equalIn_bool' w 9999 T a b hT
  have e : (!(a == b)) = decide (a ≠ b) := by cases a <;> cases b <;> rfl
  simp [eqGuard, binOp, h, ← e]
theorem r_loadRd {x : Operand} {T g off i : Nat} {p : HP} {xs : List Value} {v : Value} (ho : o.op = .load T x) (hx : ev L x = some (.pointer (some ⟨g, off + i, none⟩))) (hT : aggB P T = some false) (hm : Mem p H) (hr : RdA p (some ⟨g, off, none⟩) xs) (hv : xs[i]? = some v) : ROp P L H o v := by
  intro N D a w w0 hf hw
  obtain ⟨S, hh⟩ := hw.get hm
  obtain ⟨g', off', e, hc⟩ := hr S w hh i v hv
  cases e
  unfold execOp; rw [ho]
  simp [hf.ev hx, Instr.loadAt, Instr.sureAddr, loadVar, run_isAgg hT, hc]
end
section
variable {P : Program} {w0 : World} {N : Nat} {Q : Exit → Act → World → Prop} {D : List Deferred} {L : List (Nat × Value)} {H H1 : List HP}
theorem WS.someRd {w : World} {p : HP} {ad : Option Addr} {xs : List Value} (hw : WS w0 H w) (hm : Mem p H) (hr : RdA p ad xs) (hn : 0 < xs.length) : ∃ g off, ad = some ⟨g, off, none⟩ := by
  obtain ⟨S, hh⟩ := hw.get hm
  obtain ⟨v, hv⟩ := get_some (l := xs) (k := 0) hn
  obtain ⟨g, off, e, _⟩ := hr S w hh 0 v hv
  exact ⟨g, off, e⟩
theorem fin_ret4 {fn : Func} {F : List HP} {post : Ending → List HP → Prop} {t u s r : Tmp} {v x y z : Value} {hl R : List HP} (hr : fn.results = #[.tmp t, .tmp u, .tmp s, .tmp r]) (hv : get? L t = some v) (hx : get? L u = some x) (hy : get? L s = some y) (hz : get? L r = some z) (ht : Takes H hl R) (hsu : Suf R F) (hp : post (.returned (.tuple #[v, x, y, z])) hl) (e : Exit) (he : e = .ret ∨ e = .normal) : EN w0 N (Fin P w0 fn F post) e [] L H := by
  intro a w hf hw
  have hw' : WS w0 (hl ++ F) w := hw.sel ht hsu
  have hrun : (results fn a.tmps).run P w = .ok (.tuple #[v, x, y, z]) w := by
    have h1 := hf.val t v hv
    have h2 := hf.val u x hx
    have h3 := hf.val s y hy
    have h4 := hf.val r z hz
    rw [Array.getD_eq_getD_getElem?] at h1 h2 h3 h4
    simp [results, hr, h1, h2, h3, h4]
  rcases he with rfl | rfl
  all_goals exact ⟨hf.defs, _, hrun, hl, hp, hw'⟩
theorem CG.someRd {c : Code} {p : HP} {ad : Option Addr} {xs : List Value} (hm : Mem p H) (hr : RdA p ad xs) (hn : 0 < xs.length) (k : ∀ g off, ad = some ⟨g, off, none⟩ → CG P w0 N c Q D L H) : CG P w0 N c Q D L H := fun a w hf hw => by
  obtain ⟨g, off, e⟩ := hw.someRd hm hr hn
  exact k g off e a w hf hw
theorem G.someRd {E : Env} {l : List Oper} {p : HP} {ad : Option Addr} {xs : List Value} (hm : Mem p H) (hr : RdA p ad xs) (hn : 0 < xs.length) (k : ∀ g off, ad = some ⟨g, off, none⟩ → G E D l L H) : G E D l L H := fun a w hf hw => by
  obtain ⟨g, off, e⟩ := hw.someRd hm hr hn
  exact k g off e a w hf hw
end
/- rows of rows -/
def rowsH (e : TypeId) (vs : List Value) (css : List (List Value)) : HP := fun h => vs.length = css.length ∧ star (List.zipWith (fun v cs => own e 1 v cs.length cs) vs css) h
open Classical in
theorem star_get {l : List HP} {h : Hp} {i : Nat} {p : HP} (hs : star l h) (hi : l[i]? = some p) : ∃ S : Nat → Prop, p (fun k => if S k then h k else none) := by
  obtain ⟨own, ho⟩ := hs
  refine ⟨fun k => own k = i, ?_⟩
  have := ho i p hi
  rw [show part own i h = fun k => if own k = i then h k else none from rfl] at this
  refine cast (congrArg p ?_) this
  funext k; by_cases hk : own k = i <;> simp [hk]
open Classical in
theorem rows_at {e : TypeId} {vs : List Value} {css : List (List Value)} {h : Hp} {i : Nat} {cs : List Value} (hh : rowsH e vs css h) (hi : css[i]? = some cs) : ∃ (v : Value) (S : Nat → Prop), vs[i]? = some v ∧ own e 1 v cs.length cs (fun k => if S k then h k else none) := by
  obtain ⟨hl, hs⟩ := hh
  have hlt := (List.getElem?_eq_some_iff.1 hi).1
  obtain ⟨v, hv⟩ := get_some (l := vs) (k := i) (by omega)
  obtain ⟨S, h1⟩ := star_get (i := i) (p := own e 1 v cs.length cs) hs (by rw [List.getElem?_zipWith, hv, hi])
  exact ⟨v, S, hv, h1⟩
theorem rows_shape {e : TypeId} {vs : List Value} {css : List (List Value)} {h : Hp} {i : Nat} {cs : List Value} (hh : rowsH e vs css h) (hi : css[i]? = some cs) : ∃ ad c, vs[i]? = some (.slice ad cs.length c) ∧ cs.length ≤ c := by
  obtain ⟨v, S, hv, h1⟩ := rows_at hh hi
  obtain ⟨_, _, ad, c, rfl, hc⟩ := own_shape h1
  exact ⟨ad, c, hv, hc⟩
open Classical in
theorem rd_rows {e : TypeId} {vs : List Value} {css : List (List Value)} {i n c : Nat} {cs : List Value} {ad : Option Addr} (hi : css[i]? = some cs) (hv : vs[i]? = some (.slice ad n c)) : RdA (rowsH e vs css) ad cs := by
  intro S w hh j u hj
  obtain ⟨v, S', hv', h1⟩ := rows_at hh hi
  rw [hv] at hv'; cases hv'
  have hn : cs.length = n := by
    obtain ⟨_, _, ad', c', e1, _⟩ := own_shape h1
    cases e1; rfl
  rw [hn] at h1
  refine rd_own (T := e) (n := n) (c := c) (fun k => S k ∧ S' k) w ?_ j u hj
  refine cast (congrArg _ ?_) h1
  funext k
  unfold res
  by_cases h2 : S' k <;> by_cases h3 : S k <;> simp [h2, h3]
section
variable {P : Program} {w0 : World} {N : Nat} {Q : Exit → Act → World → Prop} {D : List Deferred} {L : List (Nat × Value)} {H H1 : List HP}
theorem WS.rowsNil {w : World} (h : WS w0 H w) (e : TypeId) : WS w0 (rowsH e [] [] :: H) w :=
  ⟨star_cons.2 ⟨fun _ => False, ⟨rfl, ⟨fun _ => 0, fun i p hp => by cases hp⟩⟩, by simpa using h.sat⟩, h.os, h.tape, h.output⟩
theorem CG.rowsNil {c : Code} (e : TypeId) (k : CG P w0 N c Q D L (rowsH e [] [] :: H)) : CG P w0 N c Q D L H := fun a w hf hw => k a w hf (hw.rowsNil e)
theorem star_nilOwn {e : TypeId} {l : List HP} {h : Hp} (hs : star l h) : star (l ++ [own e 1 (.slice none 0 0) 0 []]) h := by
  refine star_perm List.perm_append_comm (star_cons.2 ⟨fun _ => False, ⟨by simp, .inl ⟨rfl, rfl⟩⟩, by simpa using hs⟩)
theorem rows_snoc {e : TypeId} {vs : List Value} {css : List (List Value)} {h : Hp} (hh : rowsH e vs css h) : rowsH e (vs ++ [.slice none 0 0]) (css ++ [[]]) h := by
  obtain ⟨hl, hs⟩ := hh
  refine ⟨by simp [hl], ?_⟩
  rw [List.zipWith_append hl]
  exact star_nilOwn hs
theorem rep_set {l : List HP} {i : Nat} {p : HP} (hi : i < l.length) : (p :: l).Perm (l[i] :: l.set i p) := by
  induction l generalizing i with
  | nil => simp at hi
  | cons x l ih =>
    cases i with
    | zero => simpa using List.Perm.swap x p l
    | succ i =>
      simp only [List.getElem_cons_succ, List.set_cons_succ]
      have := ih (i := i) (by simpa using hi)
      exact ((List.Perm.swap x p l).trans ((List.Perm.cons x this).trans (List.Perm.swap _ _ _)))
theorem zip_set {α β γ : Type} (f : α → β → γ) : ∀ (l : List α) (m : List β) (i : Nat) (a : α) (b : β), List.zipWith f (l.set i a) (m.set i b) = (List.zipWith f l m).set i (f a b)
  | [], _, _, _, _ => by simp
  | _ :: _, [], _, _, _ => by simp
  | x :: l, y :: m, 0, a, b => by simp
  | x :: l, y :: m, i + 1, a, b => by simp [zip_set f l m i a b]
/-- a new row stands in place i -/
theorem WS.rowsSet {w : World} {e : TypeId} {vs : List Value} {css : List (List Value)} {i : Nat} {v : Value} {cs : List Value} (h : WS w0 (Eng.own e 1 v cs.length cs :: rowsH e vs css :: H) w) (hi : i < css.length) : WS w0 (rowsH e (vs.set i v) (css.set i cs) :: H) w := by
  obtain ⟨S, h1, h2⟩ := star_cons.1 h.sat
  obtain ⟨S2, ⟨hl, h3⟩, h4⟩ := star_cons.1 h2
  refine ⟨?_, h.os, h.tape, h.output⟩
  classical
  obtain ⟨l, hz⟩ : ∃ l, List.zipWith (fun v cs => Eng.own e 1 v cs.length cs) vs css = l := ⟨_, rfl⟩
  have hll : l.length = css.length := by rw [← hz]; simp [hl]
  have hsat : star (star (Eng.own e 1 v cs.length cs :: l) :: H) (hp w) := by
    refine (star_flat _).2 ?_
    refine star_cons.2 ⟨S, h1, (star_flat _).1 (star_cons.2 ⟨S2, ?_, h4⟩)⟩
    rw [hz] at h3; exact h3
  refine star_imp hsat fun h' hh => ⟨by simp [hl], ?_⟩
  rw [zip_set, hz]
  exact star_tail (star_perm (rep_set (l := l) (i := i) (p := Eng.own e 1 v cs.length cs) (by omega)) hh)
theorem CG.rowsSet {c : Code} {e : TypeId} {vs : List Value} {css : List (List Value)} (i : Nat) {v : Value} {cs : List Value} (ht : Takes H [own e 1 v cs.length cs, rowsH e vs css] H1) (hi : i < css.length) (k : CG P w0 N c Q D L (rowsH e (vs.set i v) (css.set i cs) :: H1)) : CG P w0 N c Q D L H := fun a w hf hw => k a w hf (WS.rowsSet (hw.takes ht) hi)
theorem G.rowsSet {E : Env} {l : List Oper} {e : TypeId} {vs : List Value} {css : List (List Value)} (i : Nat) {v : Value} {cs : List Value} (ht : Takes H [own e 1 v cs.length cs, rowsH e vs css] H1) (hi : i < css.length) (k : G E D l L (rowsH e (vs.set i v) (css.set i cs) :: H1)) : G E D l L H := fun a w hf hw => k a w hf (WS.rowsSet (hw.takes ht) hi)
end
end Go.Eng
/-
  Plain: what is written in bits is read in bits (bitin), no program in sight.
-/
set_option linter.unusedVariables false
set_option linter.unusedSimpArgs false
namespace Go.Eng
/-- the n low bits, the lowest first -/
def wb (x n : Nat) : List Bool := (List.range n).map fun i => x.testBit i
/-- the n low bits, the highest first -/
def cb (x : Nat) : Nat → List Bool
  | 0 => []
  | n + 1 => x.testBit n :: cb x n
def bb (s : List UInt8) : List Bool := s.flatMap fun c => wb c.toNat 8
@[simp] theorem wb_len (x n : Nat) : (wb x n).length = n := by simp [wb]
theorem wb_get (x n i : Nat) : (wb x n)[i]? = if i < n then some (x.testBit i) else none := by
  unfold wb; rw [List.getElem?_map]
  by_cases h : i < n
  · rw [List.getElem?_range h, if_pos h]; rfl
  · rw [List.getElem?_eq_none (by simpa using h), if_neg h]; rfl
theorem wb_zero (x : Nat) : wb x 0 = [] := rfl
theorem wb_split (x m n : Nat) : wb x (m + n) = wb x m ++ wb (x >>> m) n := by
  apply List.ext_getElem?
  intro i
  rw [List.getElem?_append, wb_get, wb_get, wb_get, wb_len]
  by_cases h1 : i < m
  · rw [if_pos h1, if_pos h1, if_pos (by omega)]
  · rw [if_neg h1, Nat.testBit_shiftRight, show m + (i - m) = i by omega]
    by_cases h2 : i < m + n
    · rw [if_pos h2, if_pos (by omega)]
    · rw [if_neg h2, if_neg (by omega)]
theorem wb_congr {x y n : Nat} (h : ∀ i, i < n → x.testBit i = y.testBit i) : wb x n = wb y n := by
  apply List.ext_getElem?
  intro i
  rw [wb_get, wb_get]
  split
  · rw [h i (by assumption)]
  · rfl
theorem wb_or {a x m n : Nat} (h : a < 2 ^ m) : wb (a ||| (x % 2 ^ n) <<< m) (m + n) = wb a m ++ wb x n := by
  rw [wb_split]
  have e1 : wb (a ||| (x % 2 ^ n) <<< m) m = wb a m := wb_congr fun i hi => by
    rw [Nat.testBit_or, Nat.testBit_shiftLeft, show decide (i ≥ m) = false from decide_eq_false (by omega)]; simp
  have e2 : wb ((a ||| (x % 2 ^ n) <<< m) >>> m) n = wb x n := wb_congr fun i hi => by
    rw [Nat.testBit_shiftRight, Nat.testBit_or, Nat.testBit_shiftLeft, Nat.testBit_lt_two_pow (Nat.lt_of_lt_of_le h (Nat.pow_le_pow_right (by omega) (by omega))), show decide (m + i ≥ m) = true from decide_eq_true (by omega), Nat.testBit_mod_two_pow, show m + i - m = i by omega]
    simp [hi]
  rw [e1, e2]
theorem bb_cons (c : UInt8) (s : List UInt8) : bb (c :: s) = wb c.toNat 8 ++ bb s := rfl
theorem bb_app (s t : List UInt8) : bb (s ++ t) = bb s ++ bb t := by simp [bb]
theorem bb_len (s : List UInt8) : (bb s).length = 8 * s.length := by
  induction s with
  | nil => rfl
  | cons c s ih => rw [bb_cons, List.length_append, ih, wb_len, List.length_cons]; omega
theorem wb_inj {x y n : Nat} (hx : x < 2 ^ n) (hy : y < 2 ^ n) (h : wb x n = wb y n) : x = y := by
  apply Nat.eq_of_testBit_eq
  intro i
  have := congrArg (fun l => l[i]?) h
  simp only [wb_get] at this
  by_cases hi : i < n
  · rw [if_pos hi, if_pos hi] at this; simpa using this
  · have h2 : 2 ^ n ≤ 2 ^ i := Nat.pow_le_pow_right (by omega) (by omega)
    rw [Nat.testBit_lt_two_pow (Nat.lt_of_lt_of_le hx h2), Nat.testBit_lt_two_pow (Nat.lt_of_lt_of_le hy h2)]
namespace WR
def den (w : WR) : List Bool := bb w.out ++ wb w.hold w.hav
theorem wb_one (x : Nat) : wb x 1 = [x.testBit 0] := rfl
end WR
namespace RD
def den (r : RD) : List Bool := wb r.hold r.hav ++ bb (r.s.drop r.pos)
theorem den_len (r : RD) : r.den.length = r.left := by unfold den left; rw [List.length_append, wb_len, bb_len, List.length_drop]; omega
theorem fill_den (n : Nat) (hn : n ≤ 32) (r : RD) : r.Ok → (r.fill n).den = r.den ∧ (r.fill n).s = r.s ∧ (r.fill n).frm = r.frm := by
  induction r using RD.fill.induct n with
  | case1 r h ih =>
    intro ho
    rw [fill, dif_pos h]
    have hd : r.step.den = r.den ∧ r.step.s = r.s ∧ r.step.frm = r.frm := by
      unfold RD.step
      rw [List.getElem?_eq_getElem h.2]
      refine ⟨?_, rfl, rfl⟩
      unfold den
      simp only
      have hc : (r.s[r.pos]).toNat < 2 ^ 8 := (r.s[r.pos]).toNat_lt
      have := wb_or (a := r.hold) (x := (r.s[r.pos]).toNat) (m := r.hav) (n := 8) ho.hold
      rw [Nat.mod_eq_of_lt hc] at this
      rw [this, List.append_assoc, ← bb_cons, List.getElem_cons_drop]
    have := ih (ho.step (by omega) h.2)
    exact ⟨this.1.trans hd.1, this.2.1.trans hd.2.1, this.2.2.trans hd.2.2⟩
  | case2 r h => intro ho; rw [fill, dif_neg h]; exact ⟨rfl, rfl, rfl⟩
/-- a reader r' of the same text stands behind: rest -/
structure At (r r' : RD) (rest : List Bool) : Prop where
  ok : r'.Ok
  den : r'.den = rest
  s : r'.s = r.s
  frm : r'.frm = r.frm
theorem At.trans {r r' r'' : RD} {x y : List Bool} (h1 : At r r' x) (h2 : At r' r'' y) : At r r'' y := ⟨h2.ok, h2.den, h2.s.trans h1.s, h2.frm.trans h1.frm⟩
theorem bits_den {r : RD} (hr : r.Ok) {n x : Nat} {rest : List Bool} (hn : n ≤ 32) (hx : x < 2 ^ n) (hd : r.den = wb x n ++ rest) : ∃ r', r.bits n = (r', x, true) ∧ At r r' rest := by
  obtain ⟨f1, f2, f3⟩ := fill_den n hn r hr
  have fo := fill_ok n hn r hr
  have fe := fill_end n r
  obtain ⟨q, hfq⟩ : ∃ q, r.fill n = q := ⟨_, rfl⟩
  rw [hfq] at f1 f2 f3 fo fe
  have hq : q.den = wb x n ++ rest := f1.trans hd
  have hl := den_len q
  rw [hq, List.length_append, wb_len] at hl
  have hv : ¬ q.hav < n := fun h => by
    have : ¬ q.pos < q.s.length := fun h2 => fe ⟨h, h2⟩
    unfold left at hl; omega
  have hden : q.den = wb q.hold n ++ (wb (q.hold >>> n) (q.hav - n) ++ bb (q.s.drop q.pos)) := by
    unfold den; rw [← List.append_assoc, ← wb_split, show n + (q.hav - n) = q.hav by omega]
  have he := hden.symm.trans hq
  have h1 := List.append_inj he (by simp)
  refine ⟨q.took n, ?_, fo.took (by omega), ?_, f2, f3⟩
  · unfold bits
    rw [hfq, if_neg hv]
    have e : wb (q.hold % 2 ^ n) n = wb x n := by
      rw [← h1.1]; exact wb_congr fun i hi => by rw [Nat.testBit_mod_two_pow]; simp [hi]
    rw [wb_inj (Nat.mod_lt _ (Nat.pow_pos (by omega))) hx e]
  · unfold den took; simp only; exact h1.2
end RD
end Go.Eng
/-
  Plain: the reference's inflate on a list of bits, no program in sight.
-/
set_option linter.unusedVariables false
namespace Go.Eng
namespace RI
def numB : List Bool → Nat
  | [] => 0
  | b :: r => 2 * numB r + (if b then 1 else 0)
structure St where
  pos : Nat
  out : List UInt8
  err : Nat
def fail (e : Nat) (s : St) : St := if s.err = 0 then ⟨s.pos, s.out, e⟩ else s
def number (B : List Bool) (n : Nat) (s : St) : Nat × St :=
  if s.err ≠ 0 then (0, s) else if B.length < s.pos + n then (0, fail 6 s) else (numB ((B.drop s.pos).take n), ⟨s.pos + n, s.out, s.err⟩)
/-- the first code with which b begins -/
def find (b : List Bool) : List (List Bool) → Nat → Option (Nat × Nat)
  | [], _ => none
  | c :: r, i => if 0 < c.length ∧ c.isPrefixOf b = true then some (i, c.length) else find b r (i + 1)
def some4 (codes : List (List Bool)) : Bool := codes.any fun c => decide (0 < c.length)
def more4 (codes : List (List Bool)) (b : List Bool) : Bool := codes.any fun c => decide (b.length < c.length) && b.isPrefixOf c
def read4 (codes : List (List Bool)) (b : List Bool) : Nat × Nat × Nat := match find b codes 0 with
  | some p => (p.1, p.2, 0)
  | none => if some4 codes = false then (0, 0, 3) else if more4 codes b = true then (0, 0, 6) else (0, 0, 3)
def symbol (B : List Bool) (codes : List (List Bool)) (s : St) : Nat × St :=
  if s.err ≠ 0 then (0, s) else
  (fun (x : Nat × Nat × Nat) => if x.2.2 ≠ 0 then (0, fail x.2.2 s) else (x.1, ⟨s.pos + x.2.1, s.out, s.err⟩)) (read4 codes ((B.drop s.pos).take 16))
def put (most : Nat) (c : UInt8) (s : St) : St := if s.err ≠ 0 then s else if most ≤ s.out.length then ⟨s.pos, s.out, 2⟩ else ⟨s.pos, s.out ++ [c], s.err⟩
def up (n : Nat) : Nat := (n + 7) / 8 * 8
def storedGo (B : List Bool) (most : Nat) : Nat → St → St
  | 0, s => s
  | k + 1, s => if s.err ≠ 0 then s else storedGo B most k (put most (u8i (number B 8 s).1) (number B 8 s).2)
def failIf (p : Prop) [Decidable p] (e : Nat) (s : St) : St := if s.err = 0 ∧ p then fail e s else s
def stored (B : List Bool) (most : Nat) (s : St) : St :=
  (fun (x : Nat × St) => (fun (y : Nat × St) => storedGo B most x.1 (failIf (x.1 + y.1 ≠ 65535) 3 y.2)) (number B 16 x.2)) (number B 16 ⟨up s.pos, s.out, s.err⟩)
/-- a code's sum, how many, how many of one bit -/
def kraft (l : List Nat) : Nat := (l.map fun n => if 0 < n then 2 ^ (15 - n) else 0).sum
def nCodes (l : List Nat) : Nat := (l.map fun n => if 0 < n then 1 else 0).sum
def check (l : List Nat) : Nat :=
  if 320 < l.length then 2 else if 32768 < kraft l ∨ (kraft l < 32768 ∧ 0 < nCodes l ∧ ¬ (nCodes l = 1 ∧ l.count 1 = 1)) then 4 else 0
/-- one length's codes put in -/
def codesRow (n : Nat) : List Nat → Nat → Nat × List (List Bool) → Nat × List (List Bool)
  | [], _, x => x
  | l :: ls, i, x => codesRow n ls (i + 1) (if l = n then (x.1 + 1, x.2.set i (cb x.1 n)) else x)
def codesGo (ls : List Nat) : Nat → Nat × List (List Bool)
  | 0 => (0, List.replicate ls.length [])
  | n + 1 => codesRow (n + 1) ls 0 (2 * (codesGo ls n).1, (codesGo ls n).2)
def codes (ls : List Nat) : List (List Bool) := (codesGo ls 15).2
def clGo (B : List Bool) : List Nat → List Nat → St → List Nat × St
  | [], f, s => (f, s)
  | o :: os, f, s => if s.err ≠ 0 then (f, s) else clGo B os (f.set o (number B 3 s).1) (number B 3 s).2
def repA (total t w : Nat) (l : List Nat) (s : St) : List Nat × St :=
  (fun (s' : St) => (if s'.err = 0 then l ++ List.replicate t w else l, s')) (failIf (total < l.length + t) 3 s)
def lensGo (B : List Bool) (cs : List (List Bool)) (total : Nat) : Nat → List Nat → St → List Nat × St
  | 0, l, s => (l, s)
  | f + 1, l, s => if total ≤ l.length ∨ s.err ≠ 0 then (l, s) else
    (fun (x : Nat × St) =>
      if x.1 = 16 then (if l.length = 0 then (l, fail 3 x.2) else
        (fun (y : Nat × St) => (fun (z : List Nat × St) => lensGo B cs total f z.1 z.2) (repA total (3 + y.1) (l.getD (l.length - 1) 0) l y.2)) (number B 2 x.2))
      else if x.1 = 17 then (fun (y : Nat × St) => (fun (z : List Nat × St) => lensGo B cs total f z.1 z.2) (repA total (3 + y.1) 0 l y.2)) (number B 3 x.2)
      else if x.1 = 18 then (fun (y : Nat × St) => (fun (z : List Nat × St) => lensGo B cs total f z.1 z.2) (repA total (11 + y.1) 0 l y.2)) (number B 7 x.2)
      else (fun (z : List Nat × St) => lensGo B cs total f z.1 z.2) (repA total 1 x.1 l x.2)) (symbol B cs s)
def copyR (most back : Nat) : Nat → St → St
  | 0, s => s
  | k + 1, s => if s.err ≠ 0 then s else copyR most back k (put most (s.out.getD (s.out.length - back) 0) s)
abbrev Dyn := List Nat × List Nat × St
def dyn4 (nl : Nat) (z : List Nat × St) : Dyn :=
  if z.2.err ≠ 0 then ([], [], z.2) else
  if z.1.getD 256 0 = 0 ∨ check (z.1.take nl) ≠ 0 ∨ check (z.1.drop nl) ≠ 0 then ([], [], fail 3 z.2) else (z.1.take nl, z.1.drop nl, z.2)
def dyn3 (B : List Bool) (nl nd : Nat) (f : List Nat) (s : St) : Dyn :=
  if s.err ≠ 0 then ([], [], s) else dyn4 nl (lensGo B (codes f) (nl + nd) (nl + nd + 1) [] s)
def dyn2 (B : List Bool) (nl nd nc : Nat) (s : St) : Dyn :=
  (fun (x : List Nat × St) => dyn3 B nl nd x.1 (failIf (check x.1 ≠ 0) 3 x.2)) (clGo B (Infl.order.take nc) (List.replicate 19 0) s)
def dyn1 (B : List Bool) (nl nd nc : Nat) (s : St) : Dyn := dyn2 B nl nd nc (failIf (286 < nl ∨ 30 < nd) 3 s)
def dynamic (B : List Bool) (s : St) : Dyn :=
  (fun (a : Nat × St) => (fun (b : Nat × St) => (fun (c : Nat × St) => dyn1 B (a.1 + 257) (b.1 + 1) (c.1 + 4) c.2) (number B 4 b.2)) (number B 5 a.2)) (number B 5 (failIf (B.length < s.pos + 14) 6 s))
def pack3 (B : List Bool) (most : Nat) (n : Nat) (k : Nat × St) : St :=
  (fun (s3 : St) => if s3.err ≠ 0 then s3 else
    (fun (z : Nat × St) => (fun (s4 : St) => copyR most ((Infl.distBase k.1).1 + z.1) n s4) (failIf (z.2.out.length < (Infl.distBase k.1).1 + z.1) 3 z.2)) (number B (Infl.distBase k.1).2 s3)) (failIf (29 < k.1) 3 k.2)
def packedGo (B : List Bool) (most : Nat) (lit dist : List (List Bool)) : Nat → St → St
  | 0, s => s
  | f + 1, s => if s.err ≠ 0 then s else
    (fun (x : Nat × St) =>
      if x.2.err ≠ 0 ∨ x.1 = 256 then x.2 else
      if x.1 < 256 then packedGo B most lit dist f (put most (u8i x.1) x.2) else
      if 285 < x.1 then fail 3 x.2 else
      (fun (y : Nat × St) => (fun (s' : St) => packedGo B most lit dist f s') (pack3 B most ((Infl.lengthBase (x.1 - 257)).1 + y.1) (symbol B dist y.2))) (number B (Infl.lengthBase (x.1 - 257)).2 x.2)) (symbol B lit s)
def packed (B : List Bool) (most : Nat) (l d : List Nat) (s : St) : St := packedGo B most (codes l) (codes d) (B.length + 1 - s.pos) s
def block (B : List Bool) (most kind : Nat) (s : St) : St :=
  if kind = 0 then stored B most s else if kind = 1 then packed B most Infl.fixedLit Infl.fixedDist s else
  if kind = 2 then (fun (d : Dyn) => if d.2.2.err ≠ 0 then d.2.2 else packed B most d.1 d.2.1 d.2.2) (dynamic B s) else fail 3 s
def runGo (B : List Bool) (most : Nat) : Nat → St → St
  | 0, s => s
  | g + 1, s =>
    (fun (x : Nat × St) => (fun (y : Nat × St) => (fun (z : St) => if z.err ≠ 0 ∨ x.1 = 1 then z else runGo B most g z) (if y.2.err = 0 then block B most y.1 y.2 else y.2)) (number B 2 x.2)) (number B 1 (failIf (B.length < s.pos + 3) 6 s))
def inflate (B : List Bool) (most : Nat) : List UInt8 × Nat × Nat :=
  (fun (z : St) => if z.err ≠ 0 then ([], 0, z.err) else (z.out, up z.pos / 8, 0)) (runGo B most (B.length + 1) ⟨0, [], 0⟩)
end RI
end Go.Eng
/-
  The reference (ref03): bits of a text, a number of bits.
-/
set_option linter.unusedVariables false
set_option linter.unusedSimpArgs false
namespace Go.Eng
open Go.Proofs
theorem bs_125_0_all_F35 : ∀ (w : World), (Instr.buildSlice 125 0 [].toArray).run Tryz.prog w = .ok (.slice (some ⟨w.heap.size, 0, none⟩) 0 0) { w with heap := w.heap.push (.cells [].toArray 4) } := fun _ => by kernel_rfl
theorem bs_125_1_all_F35 : ∀ (x0 : Bool) (w : World), (Instr.buildSlice 125 1 [(0, .bool x0)].toArray).run Tryz.prog w = .ok (.slice (some ⟨w.heap.size, 0, none⟩) 1 1) { w with heap := w.heap.push (.cells [.bool x0].toArray 4) } := fun _ _ => by kernel_rfl
theorem nf_4_F35 : infoB Tryz.prog 4 = some (some [.bool false], 1, 1) := by kernel_rfl
theorem se_125_F35 : sliceE Tryz.prog 125 = some 4 := by kernel_rfl
theorem sz_4_F35 : sizeB Tryz.prog 4 = some 1 := by kernel_rfl

theorem wb_snoc (x n : Nat) : wb x n ++ [x.testBit n] = wb x (n + 1) := by unfold wb; rw [List.range_succ, List.map_append]; rfl
theorem bit_of {c j y : Nat} (hy : c / 2 ^ j = y) : decide ((y : Int) % 2 = 1) = c.testBit j := by
  subst hy
  rw [Nat.testBit_eq_decide_div_mod_eq]
  by_cases h : c / 2 ^ j % 2 = 1
  · rw [decide_eq_true h, decide_eq_true (by omega)]
  · rw [decide_eq_false h, decide_eq_false (by omega)]
theorem own_bit {e : Nat} {u : Value} {l : List Bool} {x : Bool} : own e 1 u (l.length + 1) (l.map bv ++ [.bool x]) = own e 1 u (l ++ [x]).length ((l ++ [x]).map bv) := by simp [bv]
theorem bb_snoc {s : List UInt8} {k : Nat} {c : UInt8} (h : s[k]? = some c) : bb (s.take k) ++ wb c.toNat 8 = bb (s.take (k + 1)) := by rw [take_snoc h, bb_app]; simp [bb]
theorem numB_lt : ∀ l : List Bool, RI.numB l < 2 ^ l.length
  | [] => by simp [RI.numB]
  | b :: r => by
    have := numB_lt r
    rw [RI.numB, List.length_cons, Nat.pow_succ]
    split <;> omega
theorem numB_step {B : List Bool} {k : Nat} {x : Bool} (h : B[k]? = some x) : RI.numB (B.drop k) = 2 * RI.numB (B.drop (k + 1)) + (if x then 1 else 0) := by
  obtain ⟨hk, rfl⟩ := List.getElem?_eq_some_iff.1 h
  rw [List.drop_eq_getElem_cons hk, RI.numB]
theorem get_bv {B : List Bool} {k : Nat} {x : Bool} (h : B[k]? = some x) : (B.map bv)[k]? = some (.bool x) := by rw [List.getElem?_map, h]; rfl

attribute [local irreducible] cel celZ own ownM ownG exS bb wb

set_option maxRecDepth 100000 in
set_option maxHeartbeats 1000000 in
theorem bits03_spec (s : List UInt8) (hs : s.length ≤ 1000000000) : Spec Tryz.prog 81 #[str s] [] (Ret fun v hl => hl = [own 4 1 v (bb s).length ((bb s).map bv)]) := by
 refine Spec.enter Tryz.func81 rfl rfl rfl (fun F w0 => ?_)
 dsimp only [argL, List.cons_append, List.nil_append]
 refine CG.sr (G.as ?_)
 refine G.nil (EN.tsr (G.e rfl rfl rfl rfl (e_bslice rfl rfl (bs_125_0_all_F35)) (fun _ _ _ _ _ _ => trivial) ?_))
 rintro _ _ ⟨b6, rfl, rfl⟩
 refine G.as ?_
 refine G.nil (EN.ts (CG.sr (G.as ?_)))
 refine G.nil (EN.then (CG.block (CG.closeOwn (g := b6) (sz := 1) (n := 0) (cap := 0) (xs := []) tK1 (by decide) (by decide) rfl rfl ?_)))
 rw [show own 4 1 (.slice (some ⟨b6, 0, none⟩) 0 0) 0 [] = own 4 1 (.slice (some ⟨b6, 0, none⟩) 0 0) (bb (s.take 0)).length ((bb (s.take 0)).map bv) by unfold bb; rfl]
 refine CG.loopI (fun m L H => ∃ (k : Nat) (v : Value), k ≤ s.length ∧ m = s.length - k ∧ L = [(0, str s), (3, v), (4, .int .i64 k)] ∧ H = [own 4 1 v (bb (s.take k)).length ((bb (s.take k)).map bv)] ++ F) (s.length - 0) (hl := [_]) (⟨0, _, Nat.zero_le _, rfl, rfl, rfl⟩) sB rfl tK sF ?_
 rintro m L H ⟨k, v, hk, rfl, rfl, rfl⟩
 try dsimp only [List.cons_append, List.nil_append]
 refine CG.seq (CG.sr (G.mv ?_))
 refine G.mv ?_
 refine G.q rfl rfl rfl rfl (q_len_str rfl rfl us_9_F1) (G.q rfl rfl rfl rfl (q_lss rfl rfl rfl) (G.nil (EN.then ?_)))
 refine CG.cond rfl (fun h10 => ?_) (fun h10 => ?_)
 ·
  have hk2 : k < s.length := by omega
  obtain ⟨c, hc⟩ := get_some (l := s) (k := k) hk2
  have hcl := c.toNat_lt
  have hbl := bb_len (s.take k)
  rw [List.length_take, Nat.min_eq_left hk] at hbl
  refine CG.skip (EN.ts (CG.block (CG.sr (G.as ?_))))
  refine G.nil (EN.then (CG.block ?_))
  rw [show bb (s.take k) = bb (s.take k) ++ wb c.toNat 0 by rw [wb_zero]; simp]
  refine CG.loopI (fun m L H => ∃ (j : Nat) (v : Value), j ≤ 8 ∧ m = 8 - j ∧ L = [(0, str s), (3, v), (4, .int .i64 k), (5, .int .i64 j)] ∧ H = [own 4 1 v (bb (s.take k) ++ wb c.toNat j).length ((bb (s.take k) ++ wb c.toNat j).map bv)] ++ F) (8 - 0) (hl := [_]) (⟨0, _, Nat.zero_le _, rfl, rfl, rfl⟩) sB rfl tK sF ?_
  rintro m L H ⟨j, v, hj, rfl, rfl, rfl⟩
  try dsimp only [List.cons_append, List.nil_append]
  have hjl : (bb (s.take k) ++ wb c.toNat j).length = 8 * k + j := by rw [List.length_append, wb_len, hbl]
  refine CG.seq (CG.sr (G.mv ?_))
  refine G.q rfl rfl rfl rfl (q_lss rfl rfl rfl) (G.nil (EN.then ?_))
  refine CG.cond rfl (fun h14 => ?_) (fun h14 => ?_)
  ·
   have hj2 : j < 8 := by omega
   have hdl : c.toNat / 2 ^ j ≤ c.toNat := Nat.div_le_self _ _
   have hmn : min ((j : Nat) : Int).toNat IntKind.u8.bits = j := by simp only [IntKind.bits]; omega
   have ediv : (c.toNat : Int) / 2 ^ j = ((c.toNat / 2 ^ j : Nat) : Int) := by simp
   refine CG.skip (EN.ts (CG.block (CG.reg (G.mv ?_))))
   refine G.mv ?_
   refine G.mv ?_
   refine G.q rfl rfl rfl rfl (q_index rfl rfl rfl us_9_F1 (hc)) (G.mv ?_)
   refine G.q rfl rfl rfl rfl (q_shr rfl rfl rfl oM) ?_
   rw [hmn, ediv]
   generalize hy : c.toNat / 2 ^ j = y at hdl ⊢
   refine G.q rfl rfl rfl rfl (q_andm (j := 1) (d := 2) rfl rfl rfl lOm lOm (by decide) (by decide) (by decide)) (G.q rfl rfl rfl rfl (q_eql rfl rfl rfl) ?_)
   rw [bit_of hy]
   refine G.e rfl rfl rfl rfl (e_bslice rfl rfl (bs_125_1_all_F35 _)) (fun _ _ _ _ _ _ => trivial) ?_
   rintro _ _ ⟨b25, rfl, rfl⟩
   refine G.e rfl rfl rfl rfl (e_append rfl rfl rfl se_125_F35 nf_4_F35 rfl tK1 mB (by rfl) (by simp [Value.oneCell', str]) oM) (fun _ _ _ _ _ _ => trivial) ?_
   rintro _ _ rfl
   rw [own_bit, List.append_assoc, wb_snoc]
   refine G.as ?_
   refine G.nil (EN.sub (sC 0 (sC 3 (sC 4 (sC 5 Sub.nil)))) ?_)
   refine EN.in_normal (EN.tr ?_)
   refine G.mv ?_
   refine G.q rfl rfl rfl rfl (q_add_i rfl rfl rfl oM) (G.as ?_)
   refine G.nil ?_
   exact EN.round (hl := [_]) (8 - (j + 1)) oM (⟨j + 1, _, by omega, rfl, rfl, rfl⟩) sB rfl tK sF
  ·
   obtain rfl : j = 8 := by omega
   rw [bb_snoc hc]
   refine CG.exit ?_
   refine EN.then_exit (EN.then_exit (EN.in_here ?_))
   refine EN.in_normal (EN.tr ?_)
   refine G.mv ?_
   refine G.q rfl rfl rfl rfl (q_add_i rfl rfl rfl oM) (G.as ?_)
   refine G.nil ?_
   exact EN.round (hl := [_]) (s.length - (k + 1)) oM (⟨k + 1, _, by omega, rfl, rfl, rfl⟩) sB rfl tK sF
 ·
  obtain rfl : k = s.length := by omega
  refine CG.exit ?_
  refine EN.then_exit (EN.then_exit (EN.in_here ?_))
  refine EN.tsr (G.mv ?_)
  refine G.as ?_
  refine G.nil (EN.then (CG.ret ?_))
  rw [List.take_length]
  exact fin_ret1 rfl rfl tK sF (rfl) _ (.inl rfl)

set_option maxRecDepth 100000 in
set_option maxHeartbeats 1000000 in
theorem num03_spec (ad : Option Addr) (n c : Nat) (B : List Bool) (p : HP) (hr : RdA p ad (B.map bv)) (hn : B.length = n) (hB : n ≤ 31) : Spec Tryz.prog 109 #[.slice ad n c] [p] (Ret fun v hl => v = .int .u32 (RI.numB B) ∧ hl = [p]) := by
 subst hn
 refine Spec.enter Tryz.func109 rfl rfl rfl (fun F w0 => ?_)
 dsimp only [argL, List.cons_append, List.nil_append]
 refine CG.sr (G.as ?_)
 refine G.nil (EN.tsr (G.as ?_))
 refine G.nil (EN.ts (CG.sr (G.mv ?_)))
 refine G.q rfl rfl rfl rfl (q_len_sl rfl rfl se_125_F35) (G.q rfl rfl rfl rfl (q_sub_i rfl rfl rfl oM) (G.as ?_))
 refine G.nil (EN.then (CG.block ?_))
 rw [show (B.length : Int) - 1 = (B.length : Int) - 1 - (0 : Nat) by omega, show Value.int .u32 0 = .int .u32 (RI.numB (B.drop (B.length - 0)) : Nat) by rw [Nat.sub_zero, List.drop_length]; rfl]
 refine CG.loopI (fun m L H => ∃ j : Nat, j ≤ B.length ∧ m = B.length - j ∧ L = [(0, .slice ad B.length c), (3, .int .u32 (RI.numB (B.drop (B.length - j)) : Nat)), (4, .int .i64 ((B.length : Int) - 1 - j))] ∧ H = [p] ++ F) (B.length - 0) (hl := [_]) (⟨0, Nat.zero_le _, rfl, rfl, rfl⟩) sB rfl tK sF ?_
 rintro m L H ⟨j, hj, rfl, rfl, rfl⟩
 try dsimp only [List.cons_append, List.nil_append]
 refine CG.seq (CG.sr (G.mv ?_))
 refine G.q rfl rfl rfl rfl (q_geq rfl rfl rfl) (G.nil (EN.then ?_))
 refine CG.cond rfl (fun h9 => ?_) (fun h9 => ?_)
 ·
  have hj2 : j < B.length := by omega
  obtain ⟨x, hx⟩ := get_some (l := B) (k := B.length - (j + 1)) oM
  have hn := numB_step hx
  rw [show B.length - (j + 1) + 1 = B.length - j by omega] at hn
  have hlt := numB_lt (B.drop (B.length - j))
  have h31 : 2 ^ (B.drop (B.length - j)).length ≤ 2 ^ 30 := Nat.pow_le_pow_right oM (by simp; omega)
  rw [show (2 : Nat) ^ 30 = 1073741824 by decide] at h31
  refine CG.someRd mB hr (by simp; omega) (fun g off e => ?_)
  subst e
  have ei : (B.length : Int) - 1 - j = ((B.length - (j + 1) : Nat) : Int) := by omega
  refine CG.skip (EN.ts (CG.block (CG.sr (G.mv ?_))))
  refine G.q rfl rfl rfl rfl (q_mulw rfl rfl rfl lOm lOm) (G.as ?_)
  refine G.nil (EN.tsr (G.mv ?_))
  refine G.mv ?_
  rw [ei]
  refine G.q rfl rfl rfl rfl (q_ixad1 rfl rfl rfl se_125_F35 sz_4_F35 oM) (G.r rfl rfl rfl rfl (r_loadRd rfl rfl ag_4_F23 mB hr (get_bv hx)) ?_)
  refine G.nil (EN.then ?_)
  refine CG.condB rfl (fun h17 => ?_) (fun h17 => ?_)
  ·
   have hst : (2 : Int) * (RI.numB (B.drop (B.length - j)) : Nat) + 1 = (RI.numB (B.drop (B.length - (j + 1))) : Nat) := by rw [hn, h17]; simp
   refine CG.reg (G.mv ?_)
   refine G.q rfl rfl rfl rfl (q_addw rfl rfl rfl lOm lOm) (G.as ?_)
   refine G.nil (EN.sub (sC 0 (sC 3 (sC 4 Sub.nil))) ?_)
   refine EN.in_normal (EN.tr ?_)
   refine G.mv ?_
   refine G.q rfl rfl rfl rfl (q_sub_i rfl rfl rfl oM) (G.as ?_)
   refine G.nil ?_
   rw [show ((B.length - (j + 1) : Nat) : Int) - 1 = (B.length : Int) - 1 - ((j + 1 : Nat) : Int) by omega, hst]
   exact EN.round (hl := [_]) (B.length - (j + 1)) oM (⟨j + 1, by omega, rfl, rfl, rfl⟩) sB rfl tK sF
  ·
   have hst : (2 : Int) * (RI.numB (B.drop (B.length - j)) : Nat) = (RI.numB (B.drop (B.length - (j + 1))) : Nat) := by rw [hn, h17]; simp
   refine CG.skip (EN.in_normal (EN.tr ?_))
   refine G.mv ?_
   refine G.q rfl rfl rfl rfl (q_sub_i rfl rfl rfl oM) (G.as ?_)
   refine G.nil ?_
   rw [show ((B.length - (j + 1) : Nat) : Int) - 1 = (B.length : Int) - 1 - ((j + 1 : Nat) : Int) by omega, hst]
   exact EN.round (hl := [_]) (B.length - (j + 1)) oM (⟨j + 1, by omega, rfl, rfl, rfl⟩) sB rfl tK sF
 ·
  obtain rfl : j = B.length := by omega
  refine CG.exit ?_
  refine EN.then_exit (EN.then_exit (EN.in_here ?_))
  refine EN.tsr (G.mv ?_)
  refine G.as ?_
  refine G.nil (EN.then (CG.ret ?_))
  rw [Nat.sub_self, List.drop_zero]
  exact fin_ret1 rfl rfl tK sF (⟨rfl, rfl⟩) _ (.inl rfl)

set_option maxRecDepth 100000 in
set_option maxHeartbeats 1000000 in
theorem up_spec (n : Nat) (h : n ≤ 100000000000) : Spec Tryz.prog 88 #[.int .i64 n] [] (Ret fun v hl => v = .int .i64 (RI.up n : Nat) ∧ hl = []) := by
 refine Spec.enter Tryz.func88 rfl rfl rfl (fun F w0 => ?_)
 dsimp only [argL, List.cons_append, List.nil_append]
 refine CG.sr (G.as ?_)
 refine G.nil (EN.tsr (G.mv ?_))
 refine G.q rfl rfl rfl rfl (q_add_i rfl rfl rfl oM) (G.q rfl rfl rfl rfl (q_quo_i rfl rfl rfl oM) (G.q rfl rfl rfl rfl (q_mul_i rfl rfl rfl oM) (G.as ?_)))
 refine G.nil (EN.then (CG.ret ?_))
 rw [show ((n : Int) + 7) / 8 * 8 = (RI.up n : Nat) by unfold RI.up; omega]
 exact fin_ret1 rfl rfl tK sF (⟨rfl, rfl⟩) _ (.inl rfl)

end Go.Eng
/-
  The reference (ref04): a code read.
-/
set_option linter.unusedVariables false
set_option linter.unusedSimpArgs false
namespace Go.Eng
open Go.Proofs
theorem ag_125_F36 : aggB Tryz.prog 125 = some false := by kernel_rfl
theorem bd_130_F36 : bodied Tryz.prog 130 = true := by kernel_rfl
theorem se_161_F36 : sliceE Tryz.prog 161 = some 125 := by kernel_rfl
theorem sz_125_F36 : sizeB Tryz.prog 125 = some 1 := by kernel_rfl

theorem prefix_step : ∀ {a b : List Bool} {k : Nat} {x y : Bool}, a[k]? = some x → b[k]? = some y → (a.drop k).isPrefixOf (b.drop k) = (decide (x = y) && (a.drop (k + 1)).isPrefixOf (b.drop (k + 1))) := by
  intro a b k x y ha hb
  rw [drop_cons ha, drop_cons hb]
  show (x == y && _) = _
  cases x <;> cases y <;> simp
theorem prefix_nil {b : List Bool} : ([] : List Bool).isPrefixOf b = true := by cases b <;> rfl
theorem prefix_long {a b : List Bool} (h : b.length < a.length) : a.isPrefixOf b = false := by
  cases hp : a.isPrefixOf b with
  | false => rfl
  | true => have := (List.isPrefixOf_iff_prefix.1 hp).length_le; omega
theorem find_step {b : List Bool} {cs : List (List Bool)} {i : Nat} {x : List Bool} (h : cs[i]? = some x) : RI.find b (cs.drop i) i = if 0 < x.length ∧ x.isPrefixOf b = true then some (i, x.length) else RI.find b (cs.drop (i + 1)) (i + 1) := by
  rw [drop_cons h, RI.find]
theorem some_step {cs : List (List Bool)} {i : Nat} {x : List Bool} (h : cs[i]? = some x) : RI.some4 (cs.take (i + 1)) = (RI.some4 (cs.take i) || decide (0 < x.length)) := by
  rw [take_snoc h]; unfold RI.some4; rw [List.any_append]; simp
theorem more_step {b : List Bool} {cs : List (List Bool)} {i : Nat} {x : List Bool} (h : cs[i]? = some x) : RI.more4 (cs.drop i) b = ((decide (b.length < x.length) && b.isPrefixOf x) || RI.more4 (cs.drop (i + 1)) b) := by
  rw [drop_cons h]; unfold RI.more4; rw [List.any_cons]
attribute [local irreducible] cel celZ own ownM ownG exS bb wb rowsH

set_option maxRecDepth 100000 in
set_option maxHeartbeats 1000000 in
theorem begins_spec (ad ad2 : Option Addr) (c c2 : Nat) (b a : List Bool) (p q : HP) (hb : RdA p ad (b.map bv)) (ha : RdA q ad2 (a.map bv)) (hbl : b.length ≤ 100000000000) (hal : a.length ≤ 100000000000) : Spec Tryz.prog 130 #[.slice ad b.length c, .slice ad2 a.length c2] [p, q] (Ret fun v hl => v = .bool (a.isPrefixOf b) ∧ hl = [p, q]) := by
 refine Spec.enter Tryz.func130 rfl rfl rfl (fun F w0 => ?_)
 dsimp only [argL, List.cons_append, List.nil_append]
 refine CG.sr (G.as ?_)
 refine G.nil (EN.ts (CG.sr (G.mv ?_)))
 refine G.q rfl rfl rfl rfl (q_len_sl rfl rfl se_125_F35) (G.mv ?_)
 refine G.q rfl rfl rfl rfl (q_len_sl rfl rfl se_125_F35) (G.q rfl rfl rfl rfl (q_gtr rfl rfl rfl) (G.nil (EN.then ?_)))
 refine CG.cond rfl (fun h10 => ?_) (fun h10 => ?_)
 ·
  have hE : a.isPrefixOf b = false := prefix_long oM
  refine CG.sr (G.as ?_)
  refine G.nil (EN.then (CG.ret (EN.then_ret ?_)))
  rw [hE]
  exact fin_ret1 rfl rfl tK sF (⟨rfl, rfl⟩) _ (.inl rfl)
 ·
  refine CG.skip (EN.ts (CG.sr (G.mv ?_)))
  refine G.q rfl rfl rfl rfl (q_len_sl rfl rfl se_125_F35) (G.mv ?_)
  refine G.nil (EN.then (CG.block (CG.loopI (fun m L H => ∃ k : Nat, k ≤ a.length ∧ m = a.length - k ∧ a.isPrefixOf b = (a.drop k).isPrefixOf (b.drop k) ∧ L = [(0, .slice ad b.length c), (1, .slice ad2 a.length c2), (12, .int .i64 a.length), (13, .int .i64 k)] ∧ H = [p, q] ++ F) (a.length - 0) (hl := [_, _]) (⟨0, Nat.zero_le _, rfl, rfl, rfl, rfl⟩) sB rfl tK sF ?_)))
  rintro m L H ⟨k, hk, rfl, hgo, rfl, rfl⟩
  try dsimp only [List.cons_append, List.nil_append]
  refine CG.sr (G.q rfl rfl rfl rfl (q_lss rfl rfl rfl) (G.nil (EN.ts ?_)))
  refine CG.cond rfl (fun h14 => ?_) (fun h14 => ?_)
  ·
   have hk2 : k < a.length := by omega
   obtain ⟨x, hx⟩ := get_some (l := a) (k := k) hk2
   obtain ⟨y, hy⟩ := get_some (l := b) (k := k) oM
   have hst := prefix_step hx hy
   refine CG.someRd mB hb (by simp; omega) (fun g1 o1 e => ?_)
   subst e
   refine CG.someRd mB ha (by simp; omega) (fun g2 o2 e => ?_)
   subst e
   refine CG.skip (EN.ts (CG.block (CG.sr (G.mv ?_))))
   refine G.as ?_
   refine G.nil (EN.ts ?_)
   refine CG.regT [] mixed (by kernel_rfl) ?_
   refine G.mv ?_
   refine G.mv ?_
   refine G.q rfl rfl rfl rfl (q_ixad1 rfl rfl rfl se_125_F35 sz_4_F35 oM) (G.r rfl rfl rfl rfl (r_loadRd rfl rfl ag_4_F23 mB ha (get_bv hx)) ?_)
   refine G.mv ?_
   refine G.mv ?_
   refine G.q rfl rfl rfl rfl (q_ixad1 rfl rfl rfl se_125_F35 sz_4_F35 oM) (G.r rfl rfl rfl rfl (r_loadRd rfl rfl ag_4_F23 mB hb (get_bv hy)) ?_)
   refine G.q rfl rfl rfl rfl (q_neq_b rfl rfl rfl Tryz.underlying4) (G.nil (EN.sub (sC 0 (sC 1 (sC 12 (sC 13 (sC 24 Sub.nil))))) ?_))
   refine EN.then ?_
   refine CG.cond rfl (fun h24 => ?_) (fun h24 => ?_)
   ·
    have hE : a.isPrefixOf b = false := hgo.trans (hst.trans (by simp [h24]))
    refine CG.sr (G.as ?_)
    refine G.nil (EN.then (CG.ret (EN.in_ret ?_)))
    refine EN.then_ret (EN.then_ret (EN.in_ret ?_))
    refine EN.then_ret ?_
    rw [hE]
    exact fin_ret1 rfl rfl tK sF (⟨rfl, rfl⟩) _ (.inl rfl)
   ·
    have hxy : x = y := Decidable.byContradiction fun h => h24 h
    refine CG.skip (EN.in_normal (EN.tr ?_))
    refine G.q rfl rfl rfl rfl (q_add_i rfl rfl rfl oM) (G.mv ?_)
    refine G.nil ?_
    rw [show (k : Int) + 1 = ((k + 1 : Nat) : Int) by omega]
    exact EN.round (hl := [_, _]) (a.length - (k + 1)) oM (⟨k + 1, by omega, rfl, hgo.trans (hst.trans (by rw [hxy]; simp)), rfl, rfl⟩) sB rfl tK sF
  ·
   obtain rfl : k = a.length := by omega
   have hE : a.isPrefixOf b = true := hgo.trans (by rw [List.drop_length]; exact prefix_nil)
   refine CG.exit ?_
   refine EN.then_exit (EN.then_exit (EN.in_here ?_))
   refine EN.tsr (G.as ?_)
   refine G.nil (EN.then (CG.ret ?_))
   rw [hE]
   exact fin_ret1 rfl rfl tK sF (⟨rfl, rfl⟩) _ (.inl rfl)

set_option maxRecDepth 100000 in
set_option maxHeartbeats 1000000 in
theorem read04_spec (cad bad : Option Addr) (cc bc : Nat) (vs : List Value) (cs : List (List Bool)) (b : List Bool) (p : HP) (hb : RdA p bad (b.map bv)) (hbl : b.length ≤ 1000) (hvl : vs.length = cs.length) (hcs : ∀ x ∈ cs, x.length ≤ 1000) (hcl : cs.length ≤ 100000) : Spec Tryz.prog 125 #[.slice cad cs.length cc, .slice bad b.length bc] [own 125 1 (.slice cad cs.length cc) cs.length vs, rowsH 4 vs (cs.map fun c => c.map bv), p] (Ret fun v hl => v = .tuple #[.int .i64 ((RI.read4 cs b).1 : Nat), .int .i64 ((RI.read4 cs b).2.1 : Nat), .int .i64 ((RI.read4 cs b).2.2 : Nat)] ∧ hl = [own 125 1 (.slice cad cs.length cc) cs.length vs, rowsH 4 vs (cs.map fun c => c.map bv), p]) := by
 refine Spec.enter Tryz.func125 rfl rfl rfl (fun F w0 => ?_)
 dsimp only [argL, List.cons_append, List.nil_append]
 refine CG.sr (G.as ?_)
 refine G.as ?_
 refine G.as ?_
 refine G.nil (EN.tsr (G.as ?_))
 refine G.nil (EN.ts (CG.sr (G.mv ?_)))
 refine G.q rfl rfl rfl rfl (q_len_sl rfl rfl se_161_F36) (G.mv ?_)
 refine G.nil (EN.then (CG.block (CG.loopI (fun m L H => ∃ i : Nat, i ≤ cs.length ∧ m = cs.length - i ∧ RI.find b cs 0 = RI.find b (cs.drop i) i ∧ L = [(0, .slice cad cs.length cc), (1, .slice bad b.length bc), (7, .bool (RI.some4 (cs.take i))), (12, .slice cad cs.length cc), (13, .int .i64 cs.length), (14, .int .i64 i)] ∧ H = [own 125 1 (.slice cad cs.length cc) cs.length vs, rowsH 4 vs (cs.map fun c => c.map bv), p] ++ F) (cs.length - 0) (hl := [_, _, _]) (⟨0, Nat.zero_le _, rfl, rfl, rfl, rfl⟩) sB rfl tK sF ?_)))
 rintro m L H ⟨i, hi0, rfl, hgo, rfl, rfl⟩
 try dsimp only [List.cons_append, List.nil_append]
 refine CG.sr (G.q rfl rfl rfl rfl (q_lss rfl rfl rfl) (G.nil (EN.ts ?_)))
 refine CG.cond rfl (fun h15 => ?_) (fun h15 => ?_)
 ·
  have hi : i < cs.length := by omega
  obtain ⟨x, hx⟩ := get_some (l := cs) (k := i) hi
  refine CG.fact (p := rowsH 4 vs (cs.map fun c => c.map bv)) (α := ∃ ad c, vs[i]? = some (.slice ad x.length c)) tK1 (fun h hh => (by obtain ⟨ad, c, h1, _⟩ := rows_shape hh (i := i) (cs := x.map bv) (by rw [List.getElem?_map, hx]; rfl); rw [List.length_map] at h1; exact ⟨ad, c, h1⟩)) (fun hv => ?_)
  obtain ⟨xa, xc, hv⟩ := hv
  have hrx : RdA (rowsH 4 vs (cs.map fun c => c.map bv)) xa (x.map bv) := rd_rows (by rw [List.getElem?_map, hx]; rfl) hv
  refine CG.someRd mB (rd_own) (by rw [hvl]; omega) (fun g0 o0 e => ?_)
  subst e
  have hs1 := some_step hx
  rw [find_step hx] at hgo
  have hxl := hcs x (List.mem_of_getElem? hx)
  refine CG.skip (EN.ts (CG.block (CG.sr (G.mv ?_))))
  refine G.q rfl rfl rfl rfl (q_ixad1 rfl rfl rfl se_161_F36 sz_125_F36 hi) (G.r rfl rfl rfl rfl (r_loadRd rfl rfl ag_125_F36 mB rd_own hv) ?_)
  refine G.as ?_
  refine G.as ?_
  refine G.nil (EN.tsr (G.mv ?_))
  refine G.q rfl rfl rfl rfl (q_len_sl rfl rfl se_125_F35) (G.q rfl rfl rfl rfl (q_gtr rfl rfl rfl) (G.nil (EN.then ?_)))
  refine CG.cond rfl (fun h21 => ?_) (fun h21 => ?_)
  ·
   have hx0 : 0 < x.length := by omega
   rw [decide_eq_true hx0, Bool.or_true] at hs1
   refine CG.sr (G.as ?_)
   refine G.nil (EN.tsr (G.mv ?_))
   refine G.mv ?_
   refine G.call (xs := [_, _]) rfl rfl (begins_spec bad xa bc xc b x p _ hb hrx oM oM) bd_130_F36 rfl rfl rfl rfl tK (fun _ _ _ _ _ _ => trivial) ?_
   rintro _ _ ⟨rfl, rfl⟩
   try dsimp only [List.cons_append, List.nil_append]
   refine G.nil (EN.sub (sC 0 (sC 1 (sC 7 (sC 8 (sC 9 (sC 12 (sC 13 (sC 14 (sC 24 Sub.nil))))))))) ?_)
   refine EN.then ?_
   refine CG.condB rfl (fun h24 => ?_) (fun h24 => ?_)
   ·
    have hE : RI.read4 cs b = (i, x.length, 0) := by unfold RI.read4; rw [hgo, if_pos ⟨hx0, h24⟩]
    refine CG.sr (G.mv ?_)
    refine G.mv ?_
    refine G.q rfl rfl rfl rfl (q_len_sl rfl rfl se_125_F35) (G.as ?_)
    refine G.as ?_
    refine G.as ?_
    refine G.nil (EN.then (CG.ret (EN.in_ret ?_)))
    refine EN.then_ret (EN.then_ret (EN.in_ret ?_))
    refine EN.then_ret ?_
    rw [hE]
    exact fin_ret3 rfl rfl rfl rfl tK sF (⟨rfl, rfl⟩) _ (.inl rfl)
   ·
    have hgo2 := hgo.trans (if_neg (fun h => by rw [h24] at h; cases h.2))
    refine CG.skip (EN.in_normal (EN.tr ?_))
    refine G.q rfl rfl rfl rfl (q_add_i rfl rfl rfl oM) (G.mv ?_)
    refine G.nil ?_
    rw [show (i : Int) + 1 = ((i + 1 : Nat) : Int) by omega]
    rw [← hs1]
    exact EN.round (hl := [_, _, _]) (cs.length - (i + 1)) oM (⟨i + 1, by omega, rfl, hgo2, rfl, rfl⟩) sB rfl tK sF
  ·
   have hx0 : ¬ 0 < x.length := by omega
   rw [decide_eq_false hx0, Bool.or_false] at hs1
   have hgo2 := hgo.trans (if_neg (fun h => hx0 h.1))
   refine CG.skip (EN.in_normal (EN.tr ?_))
   refine G.q rfl rfl rfl rfl (q_add_i rfl rfl rfl oM) (G.mv ?_)
   refine G.nil ?_
   rw [show (i : Int) + 1 = ((i + 1 : Nat) : Int) by omega]
   rw [← hs1]
   exact EN.round (hl := [_, _, _]) (cs.length - (i + 1)) oM (⟨i + 1, by omega, rfl, hgo2, rfl, rfl⟩) sB rfl tK sF
 ·
  obtain rfl : i = cs.length := by omega
  rw [List.drop_length] at hgo
  rw [List.take_length]
  refine CG.exit ?_
  refine EN.then_exit (EN.then_exit (EN.in_here ?_))
  refine EN.ts (CG.sr (G.mv ?_))
  refine G.q rfl rfl rfl rfl (q_not rfl rfl) (G.nil (EN.then ?_))
  refine CG.condB rfl (fun h30 => ?_) (fun h30 => ?_)
  ·
   have hE : RI.read4 cs b = (0, 0, 3) := by unfold RI.read4; rw [hgo]; show (if RI.some4 cs = false then _ else _) = _; rw [if_pos (by simpa using h30)]
   refine CG.sr (G.as ?_)
   refine G.as ?_
   refine G.as ?_
   refine G.nil (EN.then (CG.ret (EN.then_ret ?_)))
   rw [hE]
   exact fin_ret3 rfl rfl rfl rfl tK sF (⟨rfl, rfl⟩) _ (.inl rfl)
  ·
   have hE0 : RI.read4 cs b = if RI.more4 cs b = true then (0, 0, 6) else (0, 0, 3) := by unfold RI.read4; rw [hgo]; show (if RI.some4 cs = false then _ else _) = _; rw [if_neg (by simpa using h30)]
   refine CG.skip (EN.ts (CG.sr (G.mv ?_)))
   refine G.q rfl rfl rfl rfl (q_len_sl rfl rfl se_161_F36) (G.mv ?_)
   refine G.nil (EN.then (CG.block (CG.loopI (fun m L H => ∃ i : Nat, i ≤ cs.length ∧ m = cs.length - i ∧ RI.more4 cs b = RI.more4 (cs.drop i) b ∧ L = [(1, .slice bad b.length bc), (31, .slice cad cs.length cc), (32, .int .i64 cs.length), (33, .int .i64 i)] ∧ H = [own 125 1 (.slice cad cs.length cc) cs.length vs, rowsH 4 vs (cs.map fun c => c.map bv), p] ++ F) (cs.length - 0) (hl := [_, _, _]) (⟨0, Nat.zero_le _, rfl, rfl, rfl, rfl⟩) sB rfl tK sF ?_)))
   rintro m L H ⟨i, hi0, rfl, hmo, rfl, rfl⟩
   try dsimp only [List.cons_append, List.nil_append]
   refine CG.sr (G.q rfl rfl rfl rfl (q_lss rfl rfl rfl) (G.nil (EN.ts ?_)))
   refine CG.cond rfl (fun h34 => ?_) (fun h34 => ?_)
   ·
    have hi : i < cs.length := by omega
    obtain ⟨x, hx⟩ := get_some (l := cs) (k := i) hi
    refine CG.fact (p := rowsH 4 vs (cs.map fun c => c.map bv)) (α := ∃ ad c, vs[i]? = some (.slice ad x.length c)) tK1 (fun h hh => (by obtain ⟨ad, c, h1, _⟩ := rows_shape hh (i := i) (cs := x.map bv) (by rw [List.getElem?_map, hx]; rfl); rw [List.length_map] at h1; exact ⟨ad, c, h1⟩)) (fun hv => ?_)
    obtain ⟨xa, xc, hv⟩ := hv
    have hrx : RdA (rowsH 4 vs (cs.map fun c => c.map bv)) xa (x.map bv) := rd_rows (by rw [List.getElem?_map, hx]; rfl) hv
    refine CG.someRd mB (rd_own) (by rw [hvl]; omega) (fun g0 o0 e => ?_)
    subst e
    rw [more_step hx] at hmo
    have hxl := hcs x (List.mem_of_getElem? hx)
    refine CG.skip (EN.ts (CG.block (CG.sr (G.q rfl rfl rfl rfl (q_ixad1 rfl rfl rfl se_161_F36 sz_125_F36 hi) (G.r rfl rfl rfl rfl (r_loadRd rfl rfl ag_125_F36 mB rd_own hv) ?_)))))
    refine G.as ?_
    refine G.nil (EN.tsr (G.mv ?_))
    refine G.q rfl rfl rfl rfl (q_len_sl rfl rfl se_125_F35) (G.mv ?_)
    refine G.q rfl rfl rfl rfl (q_len_sl rfl rfl se_125_F35) (G.q rfl rfl rfl rfl (q_gtr rfl rfl rfl) (G.mv ?_))
    refine G.split (t := 42) rfl (fun g42 => ?_) (fun g42 => ?_)
    ·
     have hbx : b.length < x.length := by omega
     rw [decide_eq_true hbx, Bool.true_and] at hmo
     refine G.mv ?_
     refine G.mv ?_
     refine G.call (xs := [_, _]) rfl rfl (begins_spec xa bad xc bc x b _ p hrx hb oM oM) bd_130_F36 rfl rfl rfl rfl tK (fun _ _ _ _ _ _ => trivial) ?_
     rintro _ _ ⟨rfl, rfl⟩
     try dsimp only [List.cons_append, List.nil_append]
     refine G.q rfl rfl rfl rfl (q_pick_t rfl rfl rfl) (G.nil (EN.sub (sC 1 (sC 31 (sC 32 (sC 33 (sC 46 Sub.nil))))) ?_))
     refine EN.then ?_
     refine CG.condB rfl (fun h46 => ?_) (fun h46 => ?_)
     ·
      have hE : RI.read4 cs b = (0, 0, 6) := by rw [hE0, if_pos (by rw [hmo, h46] <;> rfl)]
      refine CG.sr (G.as ?_)
      refine G.as ?_
      refine G.as ?_
      refine G.nil (EN.then (CG.ret (EN.in_ret ?_)))
      refine EN.then_ret (EN.then_ret (EN.in_ret ?_))
      refine EN.then_ret ?_
      rw [hE]
      exact fin_ret3 rfl rfl rfl rfl tK sF (⟨rfl, rfl⟩) _ (.inl rfl)
     ·
      have hmo2 := hmo.trans (by rw [h46] <;> rfl)
      refine CG.skip (EN.in_normal (EN.tr ?_))
      refine G.q rfl rfl rfl rfl (q_add_i rfl rfl rfl oM) (G.mv ?_)
      refine G.nil ?_
      rw [show (i : Int) + 1 = ((i + 1 : Nat) : Int) by omega]
      exact EN.round (hl := [_, _, _]) (cs.length - (i + 1)) oM (⟨i + 1, by omega, rfl, hmo2, rfl, rfl⟩) sB rfl tK sF
    ·
     have hmo2 := hmo.trans (by rw [decide_eq_false oM] <;> rfl)
     refine G.skip rfl rfl rfl (G.skip rfl rfl rfl (G.skip rfl rfl rfl (G.q rfl rfl rfl rfl (q_pick_f rfl rfl rfl) (G.nil (EN.sub (sC 1 (sC 31 (sC 32 (sC 33 (sC 46 Sub.nil))))) ?_)))))
     refine EN.then (CG.cond_f rfl ?_)
     refine CG.skip (EN.in_normal (EN.tr ?_))
     refine G.q rfl rfl rfl rfl (q_add_i rfl rfl rfl oM) (G.mv ?_)
     refine G.nil ?_
     rw [show (i : Int) + 1 = ((i + 1 : Nat) : Int) by omega]
     exact EN.round (hl := [_, _, _]) (cs.length - (i + 1)) oM (⟨i + 1, by omega, rfl, hmo2, rfl, rfl⟩) sB rfl tK sF
   ·
    obtain rfl : i = cs.length := by omega
    rw [List.drop_length] at hmo
    have hE : RI.read4 cs b = (0, 0, 3) := by rw [hE0, if_neg (by rw [hmo]; simp [RI.more4])]
    refine CG.exit ?_
    refine EN.then_exit (EN.then_exit (EN.in_here ?_))
    refine EN.tsr (G.as ?_)
    refine G.as ?_
    refine G.as ?_
    refine G.nil (EN.then (CG.ret ?_))
    rw [hE]
    exact fin_ret3 rfl rfl rfl rfl tK sF (⟨rfl, rfl⟩) _ (.inl rfl)

end Go.Eng
/-
  The reference (ref05): fail, number, symbol, put.
-/
set_option linter.unusedVariables false
set_option linter.unusedSimpArgs false
namespace Go.Eng
open Go.Proofs
theorem bd_109_F37 : bodied Tryz.prog 109 = true := by kernel_rfl
theorem bd_125_F37 : bodied Tryz.prog 125 = true := by kernel_rfl
theorem bd_82_F37 : bodied Tryz.prog 82 = true := by kernel_rfl
theorem fo_128_0_F37 : fieldOff Tryz.prog 128 0 = some 0 := by kernel_rfl
theorem fo_128_1_F37 : fieldOff Tryz.prog 128 1 = some 1 := by kernel_rfl
theorem fo_128_2_F37 : fieldOff Tryz.prog 128 2 = some 2 := by kernel_rfl
theorem fo_128_3_F37 : fieldOff Tryz.prog 128 3 = some 3 := by kernel_rfl
theorem fo_128_4_F37 : fieldOff Tryz.prog 128 4 = some 4 := by kernel_rfl
theorem ik_3_F37 : intK Tryz.prog 3 = some .i64 := by kernel_rfl

theorem rd_bits {p : HP} {ad : Option Addr} {B : List Bool} {c l m : Nat} (h : RdA p ad (B.map bv)) (hc : B.length ≤ c) : RdA p (adLH c l 1 ad) (((B.drop l).take m).map bv) := by
  have := rd_sub (l := l) (m := m) h (by rw [List.length_map]; exact hc)
  rw [List.map_take, List.map_drop]; exact this
theorem own_snocU {e : Nat} {u : Value} {l : List UInt8} {x : UInt8} : own e 1 u (l.length + 1) (l.map u8v ++ [.int .u8 (x.toNat : Int)]) = own e 1 u (l ++ [x]).length ((l ++ [x]).map u8v) := by simp [u8v]
theorem fail_t {e : Nat} {s : RI.St} (h : s.err = 0) : RI.fail e s = ⟨s.pos, s.out, e⟩ := if_pos h
theorem fail_f {e : Nat} {s : RI.St} (h : ¬ s.err = 0) : RI.fail e s = s := if_neg h
theorem numB_le31 {B : List Bool} (h : B.length ≤ 31) : RI.numB B < 2147483648 := Nat.lt_of_lt_of_le (numB_lt B) (Nat.le_trans (Nat.pow_le_pow_right (by omega) h) (by decide))
theorem find_spec (b : List Bool) : ∀ (cs : List (List Bool)) (i : Nat) (p : Nat × Nat), RI.find b cs i = some p → p.1 < i + cs.length ∧ 0 < p.2 ∧ p.2 ≤ b.length
  | [], _, _, h => by cases h
  | x :: r, i, p, h => by
    unfold RI.find at h
    split at h
    · rename_i hx
      cases h
      have := (List.isPrefixOf_iff_prefix.1 hx.2).length_le
      simp only [List.length_cons]; omega
    · have := find_spec b r (i + 1) p h
      simp only [List.length_cons]; omega
theorem read4_le (cs : List (List Bool)) (b : List Bool) : (RI.read4 cs b).2.1 ≤ b.length ∧ (RI.read4 cs b).2.2 ≤ 6 ∧ (RI.read4 cs b).1 ≤ cs.length ∧ ((RI.read4 cs b).2.2 = 0 → 0 < (RI.read4 cs b).2.1) := by
  unfold RI.read4
  cases h : RI.find b cs 0 with
  | some p => have := find_spec b cs 0 p h; simp only; exact ⟨this.2.2, by omega, by omega, fun _ => this.2.1⟩
  | none =>
    dsimp only
    split
    · simp
    · split <;> simp

attribute [local irreducible] cel celZ own ownM ownG exS bb wb rowsH

set_option maxRecDepth 100000 in
set_option maxHeartbeats 1000000 in
theorem fail_spec (b : Nat) (vb : Value) (most e : Nat) (s : RI.St) (w : Value) : Spec Tryz.prog 82 #[.pointer (some ⟨b, 0, none⟩), .int .i64 e] [cel b 128 [vb, .int .i64 ((s).pos : Nat), w, .int .i64 (most : Nat), .int .i64 ((s).err : Nat)]] (Ret fun v hl => v = .tuple #[] ∧ hl = [cel b 128 [vb, .int .i64 ((RI.fail e s).pos : Nat), w, .int .i64 (most : Nat), .int .i64 ((RI.fail e s).err : Nat)]]) := by
 refine Spec.enter Tryz.func82 rfl rfl rfl (fun F w0 => ?_)
 dsimp only [argL, List.cons_append, List.nil_append]
 refine CG.sr (G.mv ?_)
 refine G.np ?_
 refine G.q rfl rfl rfl rfl (q_field0 rfl rfl fo_128_4_F37) (G.ld ag_3_F1 ?_)
 refine G.q rfl rfl rfl rfl (q_eql rfl rfl rfl) (G.nil (EN.then ?_))
 refine CG.cond rfl (fun h8 => ?_) (fun h8 => ?_)
 ·
  have hE := fail_t (e := e) (s := s) oM
  refine CG.reg (G.mv ?_)
  refine G.mv ?_
  refine G.np ?_
  refine G.q rfl rfl rfl rfl (q_field0 rfl rfl fo_128_4_F37) ?_
  refine G.st0 sz_3_F1 ?_
  refine G.nil ?_
  refine EN.sub Sub.nil ?_
  rw [hE]
  exact fin_ret0 rfl tK sF (⟨rfl, rfl⟩) _ (.inr rfl)
 ·
  have hE := fail_f (e := e) (s := s) oM
  refine CG.skip ?_
  rw [hE]
  exact fin_ret0 rfl tK sF (⟨rfl, rfl⟩) _ (.inr rfl)

set_option maxRecDepth 100000 in
set_option maxHeartbeats 1000000 in
theorem number5_spec (b c most : Nat) (ad : Option Addr) (B : List Bool) (s : RI.St) (w : Value) (n : Nat) (p : HP) (hB : RdA p ad (B.map bv)) (hBc : B.length ≤ c) (hBl : B.length ≤ 100000000000) (hsp : s.pos ≤ 100000000000) (hn : n ≤ 31) : Spec Tryz.prog 83 #[.pointer (some ⟨b, 0, none⟩), .int .i64 n] [cel b 128 [.slice ad B.length c, .int .i64 ((s).pos : Nat), w, .int .i64 (most : Nat), .int .i64 ((s).err : Nat)], p] (Ret fun v hl => v = .int .i64 ((RI.number B n s).1 : Nat) ∧ hl = [cel b 128 [.slice ad B.length c, .int .i64 (((RI.number B n s).2).pos : Nat), w, .int .i64 (most : Nat), .int .i64 (((RI.number B n s).2).err : Nat)], p]) := by
 refine Spec.enter Tryz.func83 rfl rfl rfl (fun F w0 => ?_)
 dsimp only [argL, List.cons_append, List.nil_append]
 refine CG.sr (G.as ?_)
 refine G.nil (EN.ts (CG.sr (G.mv ?_)))
 refine G.np ?_
 refine G.q rfl rfl rfl rfl (q_field0 rfl rfl fo_128_4_F37) (G.ld ag_3_F1 ?_)
 refine G.q rfl rfl rfl rfl (q_neq rfl rfl rfl) (G.nil (EN.then ?_))
 refine CG.cond rfl (fun h10 => ?_) (fun h10 => ?_)
 ·
  have hE : RI.number B n s = (0, s) := if_pos oM
  refine CG.sr (G.as ?_)
  refine G.nil (EN.then (CG.ret (EN.then_ret ?_)))
  rw [hE]
  exact fin_ret1 rfl rfl tK sF (⟨rfl, rfl⟩) _ (.inl rfl)
 ·
  refine CG.skip (EN.ts (CG.seq ?_))
  refine CG.regT [] mixed (by kernel_rfl) ?_
  refine G.mv ?_
  refine G.np ?_
  refine G.q rfl rfl rfl rfl (q_field0 rfl rfl fo_128_1_F37) (G.ld ag_3_F1 ?_)
  refine G.mv ?_
  refine G.q rfl rfl rfl rfl (q_add_i rfl rfl rfl oM) (G.mv ?_)
  refine G.np ?_
  refine G.q rfl rfl rfl rfl (q_field0 rfl rfl fo_128_0_F37) (G.ld ag_125_F36 ?_)
  refine G.q rfl rfl rfl rfl (q_len_sl rfl rfl se_125_F35) (G.q rfl rfl rfl rfl (q_gtr rfl rfl rfl) (G.nil (EN.sub (sC 0 (sC 1 (sC 4 (sC 22 Sub.nil)))) ?_)))
  refine EN.then ?_
  refine CG.cond rfl (fun h22 => ?_) (fun h22 => ?_)
  ·
   have hE : RI.number B n s = (0, RI.fail 6 s) := by unfold RI.number; rw [if_neg oM, if_pos oM]
   refine CG.sr (G.mv ?_)
   refine G.call (xs := [_, _]) rfl rfl (fail_spec b (.slice ad B.length c) most 6 s w) bd_82_F37 rfl rfl rfl rfl tK (fun _ _ _ _ _ _ => trivial) ?_
   rintro _ _ ⟨rfl, rfl⟩
   try dsimp only [List.cons_append, List.nil_append]
   refine G.nil (EN.tsr (G.as ?_))
   refine G.nil (EN.then (CG.ret (EN.then_ret ?_)))
   rw [hE]
   exact fin_ret1 rfl rfl tK sF (⟨rfl, rfl⟩) _ (.inl rfl)
  ·
   have hE : RI.number B n s = (RI.numB ((B.drop s.pos).take n), ⟨s.pos + n, s.out, s.err⟩) := by unfold RI.number; rw [if_neg oM, if_neg oM]
   have hnl : ((B.drop s.pos).take n).length = n := by simp; omega
   have hlt := numB_le31 (B := (B.drop s.pos).take n) oM
   have ep : (s.pos : Int) + n = ((s.pos + n : Nat) : Int) := by omega
   refine CG.skip (EN.ts ?_)
   refine CG.regT [41] mixed (by kernel_rfl) ?_
   refine G.mv ?_
   refine G.np ?_
   refine G.q rfl rfl rfl rfl (q_field0 rfl rfl fo_128_0_F37) (G.ld ag_125_F36 ?_)
   refine G.mv ?_
   refine G.np ?_
   refine G.q rfl rfl rfl rfl (q_field0 rfl rfl fo_128_1_F37) (G.ld ag_3_F1 ?_)
   refine G.mv ?_
   refine G.np ?_
   refine G.q rfl rfl rfl rfl (q_field0 rfl rfl fo_128_1_F37) (G.ld ag_3_F1 ?_)
   refine G.mv ?_
   refine G.q rfl rfl rfl rfl (q_add_i rfl rfl rfl oM) ?_
   rw [ep]
   refine G.q rfl rfl rfl rfl (q_slLH rfl rfl rfl rfl se_125_F35 sz_4_F35 oM) (G.call (xs := [_]) rfl rfl (num03_spec _ n _ ((B.drop s.pos).take n) p (rd_bits hB hBc) hnl hn) bd_109_F37 rfl rfl rfl rfl tK (fun _ _ _ _ _ _ => trivial) ?_)
   rintro _ _ ⟨rfl, rfl⟩
   try dsimp only [List.cons_append, List.nil_append]
   refine G.q rfl rfl rfl rfl (q_conv_in rfl rfl is_28_F2 ik_3_F37 (wrap64_in oM)) (G.as ?_)
   refine G.nil (EN.sub (sC 0 (sC 1 (sC 4 (sC 5 Sub.nil)))) ?_)
   refine EN.tsr (G.mv ?_)
   refine G.np ?_
   refine G.q rfl rfl rfl rfl (q_field0 rfl rfl fo_128_1_F37) (G.ld ag_3_F1 ?_)
   refine G.mv ?_
   refine G.q rfl rfl rfl rfl (q_add_i rfl rfl rfl oM) ?_
   rw [ep]
   refine G.np ?_
   refine G.q rfl rfl rfl rfl (q_field0 rfl rfl fo_128_1_F37) ?_
   refine G.st0 sz_3_F1 ?_
   refine G.nil (EN.sub (sC 4 (sC 5 Sub.nil)) ?_)
   refine EN.tsr (G.mv ?_)
   refine G.as ?_
   refine G.nil (EN.then (CG.ret ?_))
   rw [hE]
   exact fin_ret1 rfl rfl tK sF (⟨rfl, rfl⟩) _ (.inl rfl)

set_option maxRecDepth 100000 in
set_option maxHeartbeats 1000000 in
theorem symbol5_spec (b c most : Nat) (ad : Option Addr) (B : List Bool) (s : RI.St) (w : Value) (cad : Option Addr) (cc : Nat) (vs : List Value) (cs : List (List Bool)) (p : HP) (hB : RdA p ad (B.map bv)) (hBc : B.length ≤ c) (hBl : B.length ≤ 100000000000) (hsp : s.pos ≤ 100000000000) (hsB : s.pos ≤ B.length) (hvl : vs.length = cs.length) (hcs : ∀ x ∈ cs, x.length ≤ 1000) (hcl : cs.length ≤ 100000) : Spec Tryz.prog 113 #[.pointer (some ⟨b, 0, none⟩), .slice cad cs.length cc] [cel b 128 [.slice ad B.length c, .int .i64 ((s).pos : Nat), w, .int .i64 (most : Nat), .int .i64 ((s).err : Nat)], own 125 1 (.slice cad cs.length cc) cs.length vs, rowsH 4 vs (cs.map fun c => c.map bv), p] (Ret fun v hl => v = .int .i64 ((RI.symbol B cs s).1 : Nat) ∧ hl = [cel b 128 [.slice ad B.length c, .int .i64 (((RI.symbol B cs s).2).pos : Nat), w, .int .i64 (most : Nat), .int .i64 (((RI.symbol B cs s).2).err : Nat)], own 125 1 (.slice cad cs.length cc) cs.length vs, rowsH 4 vs (cs.map fun c => c.map bv), p]) := by
 refine Spec.enter Tryz.func113 rfl rfl rfl (fun F w0 => ?_)
 dsimp only [argL, List.cons_append, List.nil_append]
 refine CG.sr (G.as ?_)
 refine G.nil (EN.ts (CG.sr (G.mv ?_)))
 refine G.np ?_
 refine G.q rfl rfl rfl rfl (q_field0 rfl rfl fo_128_4_F37) (G.ld ag_3_F1 ?_)
 refine G.q rfl rfl rfl rfl (q_neq rfl rfl rfl) (G.nil (EN.then ?_))
 refine CG.cond rfl (fun h12 => ?_) (fun h12 => ?_)
 ·
  have hE : RI.symbol B cs s = (0, s) := if_pos oM
  refine CG.sr (G.as ?_)
  refine G.nil (EN.then (CG.ret (EN.then_ret ?_)))
  rw [hE]
  exact fin_ret1 rfl rfl tK sF (⟨rfl, rfl⟩) _ (.inl rfl)
 ·
  obtain ⟨q, hq⟩ : ∃ q, (B.drop s.pos).take 16 = q := ⟨_, rfl⟩
  have hql : q.length ≤ 16 ∧ s.pos + q.length ≤ B.length ∧ (s.pos + q.length < B.length → q.length = 16) := by rw [← hq]; simp; omega
  have hrq : RdA p (adLH c s.pos 1 ad) (q.map bv) := by rw [← hq]; exact rd_bits hB hBc
  obtain ⟨x, hx⟩ : ∃ x, RI.read4 cs q = x := ⟨_, rfl⟩
  have hle := read4_le cs q
  rw [hx] at hle
  have hE0 : RI.symbol B cs s = if x.2.2 ≠ 0 then (0, RI.fail x.2.2 s) else (x.1, ⟨s.pos + x.2.1, s.out, s.err⟩) := by unfold RI.symbol; rw [if_neg oM, hq, hx]
  refine CG.skip (EN.ts ?_)
  refine CG.regT [] mixed (by kernel_rfl) ?_
  refine G.mv ?_
  refine G.mv ?_
  refine G.np ?_
  refine G.q rfl rfl rfl rfl (q_field0 rfl rfl fo_128_0_F37) (G.ld ag_125_F36 ?_)
  refine G.mv ?_
  refine G.np ?_
  refine G.q rfl rfl rfl rfl (q_field0 rfl rfl fo_128_1_F37) (G.ld ag_3_F1 ?_)
  refine G.mv ?_
  refine G.np ?_
  refine G.q rfl rfl rfl rfl (q_field0 rfl rfl fo_128_1_F37) (G.ld ag_3_F1 ?_)
  refine G.q rfl rfl rfl rfl (q_add_i rfl rfl rfl oM) (G.mv ?_)
  refine G.np ?_
  refine G.q rfl rfl rfl rfl (q_field0 rfl rfl fo_128_0_F37) (G.ld ag_125_F36 ?_)
  refine G.q rfl rfl rfl rfl (q_len_sl rfl rfl se_125_F35) (G.q rfl rfl rfl rfl (q_min rfl rfl rfl) ?_)
  rw [show (if (B.length : Int) < (s.pos : Int) + 16 then (B.length : Int) else (s.pos : Int) + 16) = ((s.pos + q.length : Nat) : Int) by split <;> omega]
  refine G.q rfl rfl rfl rfl (q_slLH rfl rfl rfl rfl se_125_F35 sz_4_F35 oM) (G.call (xs := [_, _]) rfl rfl (read04_spec cad _ cc _ vs cs q p hrq oM hvl hcs hcl) bd_125_F37 rfl rfl rfl rfl tK (fun _ _ _ _ _ _ => trivial) ?_)
  rintro _ _ ⟨rfl, rfl⟩
  rw [hx]
  try dsimp only [List.cons_append, List.nil_append]
  refine G.mv ?_
  refine G.q rfl rfl rfl rfl (q_extract rfl rfl rfl) (G.q rfl rfl rfl rfl (q_extract rfl rfl rfl) (G.q rfl rfl rfl rfl (q_extract rfl rfl rfl) (G.as ?_)))
  refine G.as ?_
  refine G.as ?_
  refine G.nil (EN.sub (sC 0 (sC 4 (sC 5 (sC 6 (sC 7 Sub.nil))))) ?_)
  refine EN.ts (CG.sr (G.mv ?_))
  refine G.q rfl rfl rfl rfl (q_neq rfl rfl rfl) (G.nil (EN.then ?_))
  refine CG.cond rfl (fun h40 => ?_) (fun h40 => ?_)
  ·
   have hE : RI.symbol B cs s = (0, RI.fail x.2.2 s) := by rw [hE0, if_pos oM]
   refine CG.sr (G.mv ?_)
   refine G.mv ?_
   refine G.call (xs := [_, _]) rfl rfl (fail_spec b (.slice ad B.length c) most x.2.2 s w) bd_82_F37 rfl rfl rfl rfl tK (fun _ _ _ _ _ _ => trivial) ?_
   rintro _ _ ⟨rfl, rfl⟩
   try dsimp only [List.cons_append, List.nil_append]
   refine G.nil (EN.tsr (G.as ?_))
   refine G.nil (EN.then (CG.ret (EN.then_ret ?_)))
   rw [hE]
   exact fin_ret1 rfl rfl tK sF (⟨rfl, rfl⟩) _ (.inl rfl)
  ·
   have hE : RI.symbol B cs s = (x.1, ⟨s.pos + x.2.1, s.out, s.err⟩) := by rw [hE0, if_neg oM]
   refine CG.skip (EN.tsr (G.mv ?_))
   refine G.np ?_
   refine G.q rfl rfl rfl rfl (q_field0 rfl rfl fo_128_1_F37) (G.ld ag_3_F1 ?_)
   refine G.mv ?_
   refine G.q rfl rfl rfl rfl (q_add_i rfl rfl rfl oM) ?_
   rw [show (s.pos : Int) + x.2.1 = ((s.pos + x.2.1 : Nat) : Int) by omega]
   refine G.np ?_
   refine G.q rfl rfl rfl rfl (q_field0 rfl rfl fo_128_1_F37) ?_
   refine G.st0 sz_3_F1 ?_
   refine G.nil (EN.sub (sC 4 (sC 5 Sub.nil)) ?_)
   refine EN.tsr (G.mv ?_)
   refine G.as ?_
   refine G.nil (EN.then (CG.ret ?_))
   rw [hE]
   exact fin_ret1 rfl rfl tK sF (⟨rfl, rfl⟩) _ (.inl rfl)

set_option maxRecDepth 100000 in
set_option maxHeartbeats 1000000 in
theorem put5_spec (b : Nat) (vb : Value) (most : Nat) (s : RI.St) (w : Value) (x : UInt8) (ho : s.out.length ≤ 100000000) : Spec Tryz.prog 110 #[.pointer (some ⟨b, 0, none⟩), .int .u8 x.toNat] [cel b 128 [vb, .int .i64 ((s).pos : Nat), w, .int .i64 (most : Nat), .int .i64 ((s).err : Nat)], own 5 1 w (s).out.length ((s).out.map u8v)] (Ret fun v hl => v = .tuple #[] ∧ ∃ w2, hl = [cel b 128 [vb, .int .i64 ((RI.put most x s).pos : Nat), w2, .int .i64 (most : Nat), .int .i64 ((RI.put most x s).err : Nat)], own 5 1 w2 (RI.put most x s).out.length ((RI.put most x s).out.map u8v)]) := by
 refine Spec.enter Tryz.func110 rfl rfl rfl (fun F w0 => ?_)
 dsimp only [argL, List.cons_append, List.nil_append]
 refine CG.cut (fun L H => ∃ (s1 : RI.St) (wad : Option Addr) (wc : Nat), RI.put most x s = (if s1.err = 0 then ⟨s1.pos, s1.out ++ [x], s1.err⟩ else s1) ∧ s1.out = s.out ∧ L = [(0, .pointer (some ⟨b, 0, none⟩)), (1, .int .u8 x.toNat)] ∧ H = [cel b 128 [vb, .int .i64 ((s1).pos : Nat), .slice wad s.out.length wc, .int .i64 (most : Nat), .int .i64 ((s1).err : Nat)], own 5 1 (.slice wad s.out.length wc) (s).out.length ((s).out.map u8v)] ++ F) ?_ ?_
 ·
  refine CG.seq ?_
  refine CG.ownLen tK1 (fun wad wc hw hl1 hl2 => ?_)
  subst hw
  refine CG.regT [] mixed (by kernel_rfl) ?_
  refine G.mv ?_
  refine G.np ?_
  refine G.q rfl rfl rfl rfl (q_field0 rfl rfl fo_128_4_F37) (G.ld ag_3_F1 ?_)
  refine G.q rfl rfl rfl rfl (q_eql rfl rfl rfl) (G.mv ?_)
  refine G.split (t := 9) rfl (fun g9 => ?_) (fun g9 => ?_)
  ·
   have he : s.err = 0 := by omega
   refine G.mv ?_
   refine G.np ?_
   refine G.q rfl rfl rfl rfl (q_field0 rfl rfl fo_128_2_F37) (G.ld ag_80_F2 ?_)
   refine G.q rfl rfl rfl rfl (q_len_sl rfl rfl se_80_F2) (G.mv ?_)
   refine G.np ?_
   refine G.q rfl rfl rfl rfl (q_field0 rfl rfl fo_128_3_F37) (G.ld ag_3_F1 ?_)
   refine G.q rfl rfl rfl rfl (q_geq rfl rfl rfl) (G.q rfl rfl rfl rfl (q_pick_t rfl rfl rfl) (G.nil (EN.sub (sC 0 (sC 1 (sC 20 Sub.nil))) ?_)))
   refine EN.then ?_
   refine CG.cond rfl (fun h20 => ?_) (fun h20 => ?_)
   ·
    have hE : RI.put most x s = (if (RI.fail 2 s).err = 0 then ⟨(RI.fail 2 s).pos, (RI.fail 2 s).out ++ [x], (RI.fail 2 s).err⟩ else RI.fail 2 s) := by rw [fail_t he]; unfold RI.put; rw [if_neg oM, if_pos oM]; rfl
    have hfo : (RI.fail 2 s).out = s.out := by rw [fail_t he]
    refine CG.reg (G.mv ?_)
    refine G.call (xs := [_, _]) rfl rfl (fail_spec b vb most 2 s (.slice wad s.out.length wc)) bd_82_F37 rfl rfl rfl rfl tK (fun _ _ _ _ _ _ => trivial) ?_
    rintro _ _ ⟨rfl, rfl⟩
    try dsimp only [List.cons_append, List.nil_append]
    refine G.nil ?_
    exact EN.cut (hl := [_, _]) (⟨_, _, _, hE, by first | rfl | exact hfo, rfl, rfl⟩) sB rfl tK sF
   ·
    have hE : RI.put most x s = (if s.err = 0 then ⟨s.pos, s.out ++ [x], s.err⟩ else s) := by rw [if_pos he]; unfold RI.put; rw [if_neg oM, if_neg oM]
    refine CG.skip ?_
    exact EN.cut (hl := [_, _]) (⟨_, _, _, hE, by first | rfl | exact hfo, rfl, rfl⟩) sB rfl tK sF
  ·
   have hE : RI.put most x s = (if s.err = 0 then ⟨s.pos, s.out ++ [x], s.err⟩ else s) := by rw [if_neg oM]; exact if_pos oM
   refine G.skip rfl rfl rfl (G.skip rfl rfl rfl (G.skip rfl rfl rfl (G.skip rfl rfl rfl (G.skip rfl rfl rfl (G.skip rfl rfl rfl ?_)))))
   refine G.skip rfl rfl rfl (G.skip rfl rfl rfl (G.skip rfl rfl rfl (G.skip rfl rfl rfl (G.q rfl rfl rfl rfl (q_pick_f rfl rfl rfl) (G.nil ?_)))))
   refine EN.sub (sC 0 (sC 1 (sC 20 Sub.nil))) ?_
   refine EN.then (CG.cond_f rfl ?_)
   refine CG.skip ?_
   exact EN.cut (hl := [_, _]) (⟨_, _, _, hE, by first | rfl | exact hfo, rfl, rfl⟩) sB rfl tK sF
 ·
  rintro L H ⟨s1, wad, wc, hE0, ho1, rfl, rfl⟩
  try dsimp only [List.cons_append, List.nil_append]
  refine CG.sr (G.mv ?_)
  refine G.np ?_
  refine G.q rfl rfl rfl rfl (q_field0 rfl rfl fo_128_4_F37) (G.ld ag_3_F1 ?_)
  refine G.q rfl rfl rfl rfl (q_eql rfl rfl rfl) (G.nil (EN.then ?_))
  refine CG.cond rfl (fun h27 => ?_) (fun h27 => ?_)
  ·
   have hE : RI.put most x s = ⟨s1.pos, s.out ++ [x], s1.err⟩ := by rw [hE0, if_pos oM, ho1]
   refine CG.reg (G.mv ?_)
   refine G.mv ?_
   refine G.np ?_
   refine G.q rfl rfl rfl rfl (q_field0 rfl rfl fo_128_2_F37) (G.ld ag_80_F2 ?_)
   refine G.mv ?_
   refine G.e rfl rfl rfl rfl (e_bslice rfl rfl (bs_80_1_all_F2 _)) (fun _ _ _ _ _ _ => trivial) ?_
   rintro _ _ ⟨b34, rfl, rfl⟩
   refine G.e rfl rfl rfl rfl (e_append rfl rfl rfl se_80_F2 nf_5_F2 rfl tK1 mB (by rfl) (by simp [Value.oneCell', str]) oM) (fun _ _ _ _ _ _ => trivial) ?_
   rintro _ _ rfl
   rw [own_snocU]
   refine G.ownShape tK1 ?_
   rintro ad3 c3 rfl
   refine G.np ?_
   refine G.q rfl rfl rfl rfl (q_field0 rfl rfl fo_128_2_F37) ?_
   refine G.st0 sz_80_F2 ?_
   refine G.nil ?_
   refine EN.sub Sub.nil ?_
   rw [hE]
   try rw [← ho1]
   exact fin_ret0 rfl tK sF (⟨rfl, _, rfl⟩) _ (.inr rfl)
  ·
   have hE : RI.put most x s = s1 := by rw [hE0, if_neg oM]
   refine CG.skip ?_
   rw [hE]
   try rw [← ho1]
   exact fin_ret0 rfl tK sF (⟨rfl, _, rfl⟩) _ (.inr rfl)

end Go.Eng
/-
  The reference (ref05): stored, Fixed, Lengths.
-/
set_option linter.unusedVariables false
set_option linter.unusedSimpArgs false
namespace Go.Eng
open Go.Proofs
theorem bd_110_F38 : bodied Tryz.prog 110 = true := by kernel_rfl
theorem bd_83_F38 : bodied Tryz.prog 83 = true := by kernel_rfl
theorem bd_88_F38 : bodied Tryz.prog 88 = true := by kernel_rfl
theorem bs_78_0_all_F38 : ∀ (w : World), (Instr.buildSlice 78 0 [].toArray).run Tryz.prog w = .ok (.slice (some ⟨w.heap.size, 0, none⟩) 0 0) { w with heap := w.heap.push (.cells [].toArray 3) } := fun _ => by kernel_rfl
theorem ik_5_F38 : intK Tryz.prog 5 = some .u8 := by kernel_rfl

theorem number_pos {B : List Bool} {n : Nat} {s : RI.St} (h : s.pos ≤ B.length) : (RI.number B n s).2.pos ≤ B.length := by
  unfold RI.number
  split
  · exact h
  · split
    · unfold RI.fail; split <;> exact h
    · simp only; omega
theorem fail_out {e : Nat} {s : RI.St} : (RI.fail e s).out = s.out ∧ (RI.fail e s).pos = s.pos := by unfold RI.fail; split <;> exact ⟨rfl, rfl⟩
theorem number_out {B : List Bool} {n : Nat} {s : RI.St} : (RI.number B n s).2.out = s.out := by
  unfold RI.number
  split
  · rfl
  · split
    · exact fail_out.1
    · rfl
theorem number_lt {B : List Bool} {n : Nat} {s : RI.St} : (RI.number B n s).1 < 2 ^ n := by
  unfold RI.number
  split
  · exact Nat.pow_pos (by omega)
  · split
    · exact Nat.pow_pos (by omega)
    · have := numB_lt ((B.drop s.pos).take n)
      exact Nat.lt_of_lt_of_le this (Nat.pow_le_pow_right (by omega) (by simp; omega))
theorem failIf_out {e : Nat} {s : RI.St} {q : Prop} [Decidable q] : (RI.failIf q e s).out = s.out ∧ (RI.failIf q e s).pos = s.pos := by unfold RI.failIf; split; exact fail_out; exact ⟨rfl, rfl⟩
theorem put_out {most : Nat} {x : UInt8} {s : RI.St} (h : s.out.length ≤ most) : (RI.put most x s).out.length ≤ most ∧ (RI.put most x s).pos = s.pos := by
  unfold RI.put
  split
  · exact ⟨h, rfl⟩
  · split
    · exact ⟨h, rfl⟩
    · exact ⟨by simp; omega, rfl⟩
theorem storedGo_step {B : List Bool} {most k : Nat} {s : RI.St} (h : s.err = 0) : RI.storedGo B most (k + 1) s = RI.storedGo B most k (RI.put most (u8i (RI.number B 8 s).1) (RI.number B 8 s).2) := by rw [RI.storedGo, if_neg (by omega)]
theorem storedGo_stop {B : List Bool} {most k : Nat} {s : RI.St} (h : s.err ≠ 0) : RI.storedGo B most k s = s := by cases k with | zero => rfl | succ k => rw [RI.storedGo, if_pos h]
theorem failIf_t {e : Nat} {s : RI.St} {q : Prop} [Decidable q] (h : s.err = 0 ∧ q) : RI.failIf q e s = RI.fail e s := if_pos h
theorem failIf_f {e : Nat} {s : RI.St} {q : Prop} [Decidable q] (h : ¬ (s.err = 0 ∧ q)) : RI.failIf q e s = s := if_neg h
theorem own_range {e k : Nat} {u : Value} {f : Nat → Nat} : own e 1 u (k + 1) (((List.range k).map f).map iv ++ [.int .i64 (f k : Nat)]) = own e 1 u (k + 1) (((List.range (k + 1)).map f).map iv) := by rw [List.range_succ]; simp [iv]
def lb1 (i : Nat) : Nat := if i < 8 then 3 + i else 3 + (4 + i % 4) * 2 ^ (i / 4 - 1)
def lb2 (i : Nat) : Nat := if i < 8 then 0 else i / 4 - 1
def db1 (i : Nat) : Nat := (Infl.distBase i).1
def db2 (i : Nat) : Nat := (Infl.distBase i).2
theorem lb2_lt {k : Nat} (h : k < 8) : lb2 k = 0 := if_pos h
theorem lb2_ge {k : Nat} (h : ¬ k < 8) : lb2 k = k / 4 - 1 := if_neg h
theorem db2_lt {k : Nat} (h : k < 4) : db2 k = 0 := by unfold db2 Infl.distBase; rw [if_pos h]
theorem db2_ge {k : Nat} (h : ¬ k < 4) : db2 k = k / 2 - 1 := by unfold db2 Infl.distBase; rw [if_neg h]
theorem lb1_0 : lb1 0 = 3 := rfl
theorem own_range5 {e k : Nat} {u : Value} : own e 1 u (k + 1) (((List.range k).map (fun _ => 5)).map iv ++ [.int .i64 5]) = own e 1 u (k + 1) (((List.range (k + 1)).map (fun _ => 5)).map iv) := own_range (f := fun _ => 5)
theorem lb_next : ∀ i, i < 28 → lb1 i + 2 ^ lb2 i = lb1 (i + 1) := by decide
theorem db_next : ∀ i, i < 30 → db1 i + 2 ^ db2 i = db1 (i + 1) := by decide
theorem lb_last : (List.range 28).map lb1 ++ [258] = (List.range 29).map (fun i => (Infl.lengthBase i).1) := by decide
theorem lb_last2 : (List.range 28).map lb2 ++ [0] = (List.range 29).map (fun i => (Infl.lengthBase i).2) := by decide
theorem lb_le : ∀ i, i ≤ 28 → lb1 i ≤ 300 ∧ lb2 i ≤ 6 := by decide
theorem db_le : ∀ i, i ≤ 30 → db1 i ≤ 40000 ∧ db2 i ≤ 14 := by decide
theorem fix_val {i : Nat} (h : i < 288) : (if 256 ≤ i ∧ i < 280 then 7 else if 144 ≤ i ∧ i < 256 then 9 else 8) = Infl.fixedLen i := by
  unfold Infl.fixedLen
  by_cases h1 : 256 ≤ i ∧ i < 280
  · rw [if_pos h1, if_neg (by omega), if_neg (by omega), if_neg (by omega)]
  · rw [if_neg h1]
    by_cases h2 : 144 ≤ i ∧ i < 256
    · rw [if_pos h2, if_neg (by omega), if_neg (by omega), if_pos (by omega)]
    · rw [if_neg h2]; split
      · rfl
      · rw [if_pos (by omega)]
theorem shl1 {k : Nat} (h : k ≤ 20) : IntKind.i64.wrap (1 * 2 ^ min ((k : Nat) : Int).toNat IntKind.i64.bits) = ((2 ^ k : Nat) : Int) := by
  have := shl_lim (k := .i64) (a := 1) (c := k) (by simp only [IntKind.bits]; omega) (by
    rw [Nat.one_mul]; exact Nat.pow_lt_pow_right (by omega) (by show k < 63; omega))
  rw [Nat.one_mul] at this; exact this
theorem pow14 {k : Nat} (h : k ≤ 14) : 2 ^ k ≤ 16384 := Nat.le_trans (Nat.pow_le_pow_right (by omega) h) (by decide)

attribute [local irreducible] cel celZ own ownM ownG exS bb wb rowsH RI.number RI.put RI.fail RI.failIf lb1 lb2 db2

set_option maxRecDepth 100000 in
set_option maxHeartbeats 1000000 in
theorem stored5_spec (b c most : Nat) (ad : Option Addr) (B : List Bool) (s : RI.St) (w : Value) (p : HP) (hB : RdA p ad (B.map bv)) (hBc : B.length ≤ c) (hBl : B.length ≤ 10000000000) (hsp : s.pos ≤ B.length) (h8 : B.length % 8 = 0) (ho : s.out.length ≤ most) (hm : most ≤ 1000000) : Spec Tryz.prog 84 #[.pointer (some ⟨b, 0, none⟩)] [cel b 128 [.slice ad B.length c, .int .i64 ((s).pos : Nat), w, .int .i64 (most : Nat), .int .i64 ((s).err : Nat)], own 5 1 w (s).out.length ((s).out.map u8v), p] (Ret fun v hl => v = .tuple #[] ∧ ∃ w2, hl = [cel b 128 [.slice ad B.length c, .int .i64 ((RI.stored B most s).pos : Nat), w2, .int .i64 (most : Nat), .int .i64 ((RI.stored B most s).err : Nat)], own 5 1 w2 (RI.stored B most s).out.length ((RI.stored B most s).out.map u8v), p]) := by
 have hup : RI.up s.pos ≤ B.length := by unfold RI.up; omega
 refine Spec.enter Tryz.func84 rfl rfl rfl (fun F w0 => ?_)
 dsimp only [argL, List.cons_append, List.nil_append]
 refine CG.sr (G.mv ?_)
 refine G.mv ?_
 refine G.np ?_
 refine G.q rfl rfl rfl rfl (q_field0 rfl rfl fo_128_1_F37) (G.ld ag_3_F1 ?_)
 refine G.call (xs := [_]) rfl rfl (up_spec s.pos oM) bd_88_F38 rfl rfl rfl rfl tK (fun _ _ _ _ _ _ => trivial) ?_
 rintro _ _ ⟨rfl, rfl⟩
 try dsimp only [List.cons_append, List.nil_append]
 refine G.np ?_
 refine G.q rfl rfl rfl rfl (q_field0 rfl rfl fo_128_1_F37) ?_
 refine G.st0 sz_3_F1 ?_
 refine G.nil (EN.ts ?_)
 obtain ⟨s0, hs0⟩ : ∃ s0 : RI.St, s0 = ⟨RI.up s.pos, s.out, s.err⟩ := ⟨_, rfl⟩
 have e0 : s0.pos = RI.up s.pos := by rw [hs0]
 have e1 : s0.err = s.err := by rw [hs0]
 have e2 : s0.out = s.out := by rw [hs0]
 rw [← e0] at hup
 rw [← e0, ← e1, ← e2]
 refine CG.reg (G.mv ?_)
 refine G.call (xs := [_, _]) rfl rfl (number5_spec b c most ad B (s0) _ 16 p hB hBc oM oM (by decide)) bd_83_F38 rfl rfl rfl rfl tK (fun _ _ _ _ _ _ => trivial) ?_
 rintro _ _ ⟨rfl, rfl⟩
 obtain ⟨x, hx⟩ : ∃ x, RI.number B 16 s0 = x := ⟨_, rfl⟩
 have hxp := number_pos (n := 16) hup
 have hxo := number_out (B := B) (n := 16) (s := s0)
 have hxl := number_lt (B := B) (n := 16) (s := s0)
 rw [hx] at hxp hxo hxl ⊢
 try dsimp only [List.cons_append, List.nil_append]
 refine G.as ?_
 refine G.nil (EN.sub (sC 0 (sC 2 Sub.nil)) ?_)
 refine EN.tsr (G.mv ?_)
 refine G.call (xs := [_, _]) rfl rfl (number5_spec b c most ad B (x.2) _ 16 p hB hBc oM oM (by decide)) bd_83_F38 rfl rfl rfl rfl tK (fun _ _ _ _ _ _ => trivial) ?_
 rintro _ _ ⟨rfl, rfl⟩
 obtain ⟨y, hy⟩ : ∃ y, RI.number B 16 x.2 = y := ⟨_, rfl⟩
 have hyp := number_pos (n := 16) hxp
 have hyo := number_out (B := B) (n := 16) (s := x.2)
 have hyl := number_lt (B := B) (n := 16) (s := x.2)
 rw [hy] at hyp hyo hyl ⊢
 try dsimp only [List.cons_append, List.nil_append]
 refine G.as ?_
 refine G.nil (EN.then ?_)
 refine CG.cut (fun L H => ∃ s2, RI.failIf (x.1 + y.1 ≠ 65535) 3 y.2 = s2 ∧ L = [(0, .pointer (some ⟨b, 0, none⟩)), (2, .int .i64 (x.1 : Nat))] ∧ H = [cel b 128 [.slice ad B.length c, .int .i64 ((s2).pos : Nat), w, .int .i64 (most : Nat), .int .i64 ((s2).err : Nat)], own 5 1 w s0.out.length (s0.out.map u8v), p] ++ F) ?_ ?_
 ·
  refine CG.seq ?_
  refine CG.fact (α := x.1 < 65536 ∧ y.1 < 65536) Take.here (fun _ _ => ⟨hxl, hyl⟩) (fun hxy => ?_)
  refine CG.reg (G.mv ?_)
  refine G.np ?_
  refine G.q rfl rfl rfl rfl (q_field0 rfl rfl fo_128_4_F37) (G.ld ag_3_F1 ?_)
  refine G.q rfl rfl rfl rfl (q_eql rfl rfl rfl) (G.mv ?_)
  refine G.split (t := 23) rfl (fun g23 => ?_) (fun g23 => ?_)
  ·
   have hye : y.2.err = 0 := by omega
   refine G.mv ?_
   refine G.mv ?_
   refine G.q rfl rfl rfl rfl (q_add_i rfl rfl rfl oM) (G.q rfl rfl rfl rfl (q_neq rfl rfl rfl) (G.q rfl rfl rfl rfl (q_pick_t rfl rfl rfl) (G.nil (EN.sub (sC 0 (sC 2 (sC 28 Sub.nil))) ?_))))
   refine EN.then ?_
   refine CG.cond rfl (fun h28 => ?_) (fun h28 => ?_)
   ·
    have hF : RI.failIf (x.1 + y.1 ≠ 65535) 3 y.2 = RI.fail 3 y.2 := failIf_t ⟨hye, by omega⟩
    refine CG.reg (G.mv ?_)
    refine G.call (xs := [_, _]) rfl rfl (fail_spec b (.slice ad B.length c) most 3 y.2 _) bd_82_F37 rfl rfl rfl rfl tK (fun _ _ _ _ _ _ => trivial) ?_
    rintro _ _ ⟨rfl, rfl⟩
    try dsimp only [List.cons_append, List.nil_append]
    refine G.nil ?_
    exact EN.cut (hl := [_, _, _]) (⟨_, hF, rfl, rfl⟩) sB rfl tK sF
   ·
    have hF : RI.failIf (x.1 + y.1 ≠ 65535) 3 y.2 = y.2 := failIf_f (fun h => h28 oM)
    refine CG.skip ?_
    exact EN.cut (hl := [_, _, _]) (⟨_, hF, rfl, rfl⟩) sB rfl tK sF
  ·
   have hF : RI.failIf (x.1 + y.1 ≠ 65535) 3 y.2 = y.2 := failIf_f (fun h => g23 oM)
   refine G.skip rfl rfl rfl (G.skip rfl rfl rfl (G.skip rfl rfl rfl (G.skip rfl rfl rfl (G.q rfl rfl rfl rfl (q_pick_f rfl rfl rfl) (G.nil ?_)))))
   refine EN.sub (sC 0 (sC 2 (sC 28 Sub.nil))) ?_
   refine EN.then (CG.cond_f rfl ?_)
   refine CG.skip ?_
   exact EN.cut (hl := [_, _, _]) (⟨_, hF, rfl, rfl⟩) sB rfl tK sF
 ·
  rintro L H ⟨s2, hF, rfl, rfl⟩
  try dsimp only [List.cons_append, List.nil_append]
  have hfo := failIf_out (e := 3) (s := y.2) (q := x.1 + y.1 ≠ 65535)
  rw [hF, hyo, hxo] at hfo
  have hE0 : RI.stored B most s = RI.storedGo B most x.1 s2 := by
    show (fun (x : Nat × RI.St) => (fun (y : Nat × RI.St) => RI.storedGo B most x.1 (RI.failIf (x.1 + y.1 ≠ 65535) 3 y.2)) (RI.number B 16 x.2)) (RI.number B 16 ⟨RI.up s.pos, s.out, s.err⟩) = _
    rw [← hs0, hx]; dsimp only; rw [hy, hF]
  rw [← hfo.1]
  refine CG.sr (G.as ?_)
  refine G.nil (EN.then (CG.block (CG.loopI (fun m L H => ∃ (i : Nat) (s1 : RI.St) (w : Value), i ≤ x.1 ∧ m = x.1 - i ∧ s1.pos ≤ B.length ∧ s1.out.length ≤ most ∧ RI.storedGo B most x.1 s2 = RI.storedGo B most (x.1 - i) s1 ∧ L = [(0, .pointer (some ⟨b, 0, none⟩)), (2, .int .i64 (x.1 : Nat)), (4, .int .i64 (i : Nat))] ∧ H = [cel b 128 [.slice ad B.length c, .int .i64 ((s1).pos : Nat), w, .int .i64 (most : Nat), .int .i64 ((s1).err : Nat)], own 5 1 w (s1).out.length ((s1).out.map u8v), p] ++ F) (x.1 - 0) (hl := [_, _, _]) (⟨0, s2, _, Nat.zero_le _, rfl, by rw [hfo.2]; exact hyp, by rw [hfo.1, e2]; exact ho, rfl, rfl, rfl⟩) sB rfl tK sF ?_)))
  rintro m L H ⟨i, s1, w, hi, rfl, hsp1, hso1, hgo, rfl, rfl⟩
  try dsimp only [List.cons_append, List.nil_append]
  refine CG.seq (CG.sr (G.mv ?_))
  refine G.mv ?_
  refine G.q rfl rfl rfl rfl (q_lss rfl rfl rfl) (G.mv ?_)
  refine G.split (t := 34) rfl (fun g34 => ?_) (fun g34 => ?_)
  ·
   refine G.mv ?_
   refine G.np ?_
   refine G.q rfl rfl rfl rfl (q_field0 rfl rfl fo_128_4_F37) (G.ld ag_3_F1 ?_)
   refine G.q rfl rfl rfl rfl (q_eql rfl rfl rfl) (G.q rfl rfl rfl rfl (q_pick_t rfl rfl rfl) (G.nil (EN.sub (sC 0 (sC 2 (sC 4 (sC 40 Sub.nil)))) ?_)))
   refine EN.then ?_
   refine CG.cond rfl (fun h40 => ?_) (fun h40 => ?_)
   ·
    have hs1e : s1.err = 0 := by omega
    refine CG.skip (EN.ts (CG.block (CG.sr (G.mv ?_))))
    refine G.call (xs := [_, _]) rfl rfl (number5_spec b c most ad B (s1) _ 8 p hB hBc oM oM (by decide)) bd_83_F38 rfl rfl rfl rfl tK (fun _ _ _ _ _ _ => trivial) ?_
    rintro _ _ ⟨rfl, rfl⟩
    obtain ⟨z, hz⟩ : ∃ z, RI.number B 8 s1 = z := ⟨_, rfl⟩
    have hzp := number_pos (n := 8) hsp1
    have hzo := number_out (B := B) (n := 8) (s := s1)
    have hgo2 := hgo
    rw [show x.1 - i = x.1 - (i + 1) + 1 by omega, storedGo_step hs1e] at hgo2
    rw [hz] at hzp hzo hgo2 ⊢
    rw [← hzo] at hso1 ⊢
    have hpo := put_out (x := u8i z.1) hso1
    have hpp : (RI.put most (u8i z.1) z.2).pos ≤ B.length := by rw [hpo.2]; exact hzp
    try dsimp only [List.cons_append, List.nil_append]
    refine G.as ?_
    refine G.nil (EN.tr ?_)
    refine G.mv ?_
    refine G.mv ?_
    refine G.q rfl rfl rfl rfl (q_conv_u8 rfl rfl is_3_F4 ik_5_F38) (G.call (xs := [_, _]) rfl rfl (put5_spec b (.slice ad B.length c) most z.2 _ (u8i z.1) oM) bd_110_F38 rfl rfl rfl rfl tK (fun _ _ _ _ _ _ => trivial) ?_)
    rintro _ _ ⟨rfl, w2, rfl⟩
    try dsimp only [List.cons_append, List.nil_append]
    refine G.nil (EN.in_normal (EN.tr ?_))
    refine G.mv ?_
    refine G.q rfl rfl rfl rfl (q_add_i rfl rfl rfl oM) (G.as ?_)
    refine G.nil ?_
    rw [show (i : Int) + 1 = ((i + 1 : Nat) : Int) by omega]
    exact EN.round (hl := [_, _, _]) (x.1 - (i + 1)) oM (⟨i + 1, _, _, by omega, rfl, hpp, hpo.1, hgo2, rfl, rfl⟩) sB rfl tK sF
   ·
    have hE : RI.stored B most s = s1 := by rw [hE0, hgo]; exact storedGo_stop oM
    refine CG.exit ?_
    refine EN.then_exit (EN.then_exit (EN.in_here ?_))
    rw [hE]
    exact fin_ret0 rfl tK sF (⟨rfl, _, rfl⟩) _ (.inr rfl)
  ·
   have hE : RI.stored B most s = s1 := by rw [hE0, hgo, show x.1 - i = 0 by omega]; rfl
   refine G.skip rfl rfl rfl (G.skip rfl rfl rfl (G.skip rfl rfl rfl (G.skip rfl rfl rfl (G.skip rfl rfl rfl (G.q rfl rfl rfl rfl (q_pick_f rfl rfl rfl) ?_)))))
   refine G.nil (EN.sub (sC 0 (sC 2 (sC 4 (sC 40 Sub.nil)))) ?_)
   refine EN.then (CG.cond_f rfl ?_)
   refine CG.exit ?_
   refine EN.then_exit (EN.then_exit (EN.in_here ?_))
   rw [hE]
   exact fin_ret0 rfl tK sF (⟨rfl, _, rfl⟩) _ (.inr rfl)

set_option maxRecDepth 100000 in
set_option maxHeartbeats 1000000 in
theorem rfixed_spec : Spec Tryz.prog 85 #[] [] (Ret fun v hl => ∃ v1 v2, v = .tuple #[v1, v2] ∧ hl = [own 3 1 v1 288 (Infl.fixedLit.map iv), own 3 1 v2 32 (Infl.fixedDist.map iv)]) := by
 refine Spec.enter Tryz.func85 rfl rfl rfl (fun F w0 => ?_)
 dsimp only [argL, List.cons_append, List.nil_append]
 refine CG.sr (G.as ?_)
 refine G.as ?_
 refine G.nil (EN.tsr (G.e rfl rfl rfl rfl (e_bslice rfl rfl (bs_78_0_all_F38)) (fun _ _ _ _ _ _ => trivial) ?_))
 rintro _ _ ⟨b7, rfl, rfl⟩
 refine G.e rfl rfl rfl rfl (e_bslice rfl rfl (bs_78_0_all_F38)) (fun _ _ _ _ _ _ => trivial) ?_
 rintro _ _ ⟨b8, rfl, rfl⟩
 refine G.as ?_
 refine G.as ?_
 refine G.nil (EN.ts (CG.sr (G.as ?_)))
 refine G.nil (EN.then (CG.block (CG.closeOwn (g := b7) (sz := 1) (n := 0) (cap := 0) (xs := []) tK1 (by decide) (by decide) rfl rfl ?_)))
 refine CG.closeOwn (g := b8) (sz := 1) (n := 0) (cap := 0) (xs := []) tK1 (by decide) (by decide) rfl rfl ?_
 refine CG.loopI (fun m L H => ∃ (k : Nat) (v : Value), k ≤ 288 ∧ m = 288 - k ∧ L = [(2, v), (3, .slice (some ⟨b8, 0, none⟩) 0 0), (4, .int .i64 (k : Nat))] ∧ H = [own 3 1 v k (((List.range k).map Infl.fixedLen).map iv), own 3 1 (.slice (some ⟨b8, 0, none⟩) 0 0) 0 []] ++ F) (288 - 0) (hl := [_, _]) (⟨0, _, Nat.zero_le _, rfl, rfl, rfl⟩) sB rfl tK sF ?_
 rintro m L H ⟨k, v, hk, rfl, rfl, rfl⟩
 try dsimp only [List.cons_append, List.nil_append]
 refine CG.seq (CG.sr (G.mv ?_))
 refine G.q rfl rfl rfl rfl (q_lss rfl rfl rfl) (G.nil (EN.then ?_))
 refine CG.cond rfl (fun h10 => ?_) (fun h10 => ?_)
 ·
  have hk2 : k < 288 := by omega
  have hfv := fix_val hk2
  refine CG.skip (EN.ts (CG.block (CG.sr (G.as ?_))))
  refine G.nil (EN.then ?_)
  refine CG.cut (fun L H => ∃ n : Nat, n = (if 144 ≤ k ∧ k < 256 then 9 else 8) ∧ L = [(2, v), (3, .slice (some ⟨b8, 0, none⟩) 0 0), (4, .int .i64 (k : Nat)), (5, .int .i64 (n : Nat))] ∧ H = [own 3 1 v k (((List.range k).map Infl.fixedLen).map iv), own 3 1 (.slice (some ⟨b8, 0, none⟩) 0 0) 0 []] ++ F) ?_ ?_
  ·
   refine CG.sr (G.mv ?_)
   refine G.q rfl rfl rfl rfl (q_geq rfl rfl rfl) (G.mv ?_)
   refine G.split (t := 15) rfl (fun g15 => ?_) (fun g15 => ?_)
   ·
    refine G.mv ?_
    refine G.q rfl rfl rfl rfl (q_lss rfl rfl rfl) (G.q rfl rfl rfl rfl (q_pick_t rfl rfl rfl) (G.nil (EN.then ?_)))
    refine CG.cond rfl (fun h18 => ?_) (fun h18 => ?_)
    ·
     have hn1 : (9 : Nat) = (if 144 ≤ k ∧ k < 256 then 9 else 8) := (if_pos oM).symm
     refine CG.reg (G.as ?_)
     refine G.nil ?_
     exact EN.cut (hl := [_, _]) (⟨_, hn1, rfl, rfl⟩) sB rfl tK sF
    ·
     have hn1 : (8 : Nat) = (if 144 ≤ k ∧ k < 256 then 9 else 8) := (if_neg oM).symm
     refine CG.skip ?_
     exact EN.cut (hl := [_, _]) (⟨_, hn1, rfl, rfl⟩) sB rfl tK sF
   ·
    have hn1 : (8 : Nat) = (if 144 ≤ k ∧ k < 256 then 9 else 8) := (if_neg oM).symm
    refine G.skip rfl rfl rfl (G.skip rfl rfl rfl (G.q rfl rfl rfl rfl (q_pick_f rfl rfl rfl) (G.nil (EN.then (CG.cond_f rfl ?_)))))
    refine CG.skip ?_
    exact EN.cut (hl := [_, _]) (⟨_, hn1, rfl, rfl⟩) sB rfl tK sF
  ·
   rintro L H ⟨n, hn1, rfl, rfl⟩
   try dsimp only [List.cons_append, List.nil_append]
   refine CG.cut (fun L H => L = [(2, v), (3, .slice (some ⟨b8, 0, none⟩) 0 0), (4, .int .i64 (k : Nat)), (5, .int .i64 (Infl.fixedLen k : Nat))] ∧ H = [own 3 1 v k (((List.range k).map Infl.fixedLen).map iv), own 3 1 (.slice (some ⟨b8, 0, none⟩) 0 0) 0 []] ++ F) ?_ ?_
   ·
    refine CG.sr (G.mv ?_)
    refine G.q rfl rfl rfl rfl (q_geq rfl rfl rfl) (G.mv ?_)
    refine G.split (t := 21) rfl (fun g21 => ?_) (fun g21 => ?_)
    ·
     refine G.mv ?_
     refine G.q rfl rfl rfl rfl (q_lss rfl rfl rfl) (G.q rfl rfl rfl rfl (q_pick_t rfl rfl rfl) (G.nil (EN.then ?_)))
     refine CG.cond rfl (fun h24 => ?_) (fun h24 => ?_)
     ·
      have hn2 : (7 : Nat) = Infl.fixedLen k := by rw [← hfv, if_pos oM]
      refine CG.reg (G.as ?_)
      refine G.nil ?_
      rw [← hn2]
      exact EN.cut (hl := [_, _]) (⟨rfl, rfl⟩) sB rfl tK sF
     ·
      have hn2 : n = Infl.fixedLen k := by rw [← hfv, if_neg oM]; exact hn1
      refine CG.skip ?_
      rw [← hn2]
      exact EN.cut (hl := [_, _]) (⟨rfl, rfl⟩) sB rfl tK sF
    ·
     have hn2 : n = Infl.fixedLen k := by rw [← hfv, if_neg oM]; exact hn1
     refine G.skip rfl rfl rfl (G.skip rfl rfl rfl (G.q rfl rfl rfl rfl (q_pick_f rfl rfl rfl) (G.nil (EN.then (CG.cond_f rfl ?_)))))
     refine CG.skip ?_
     rw [← hn2]
     exact EN.cut (hl := [_, _]) (⟨rfl, rfl⟩) sB rfl tK sF
   ·
    rintro L H ⟨rfl, rfl⟩
    try dsimp only [List.cons_append, List.nil_append]
    refine CG.reg (G.mv ?_)
    refine G.mv ?_
    refine G.e rfl rfl rfl rfl (e_bslice rfl rfl (bs_78_1_all_F5 _)) (fun _ _ _ _ _ _ => trivial) ?_
    rintro _ _ ⟨b27, rfl, rfl⟩
    refine G.e rfl rfl rfl rfl (e_append rfl rfl rfl se_78_F5 nf_3_F5 rfl tK1 mB (by rfl) (by simp [Value.oneCell', str]) oM) (fun _ _ _ _ _ _ => trivial) ?_
    rintro _ _ rfl
    rw [own_range]
    refine G.as ?_
    refine G.nil (EN.in_normal (EN.tr ?_))
    refine G.mv ?_
    refine G.q rfl rfl rfl rfl (q_add_i rfl rfl rfl oM) (G.as ?_)
    refine G.nil ?_
    exact EN.round (hl := [_, _]) (288 - (k + 1)) oM (⟨k + 1, _, by omega, rfl, rfl, rfl⟩) sB rfl tK sF
 ·
  obtain rfl : k = 288 := by omega
  refine CG.exit ?_
  refine EN.then_exit (EN.then_exit (EN.in_here ?_))
  refine EN.ts (CG.sr (G.as ?_))
  refine G.nil (EN.then (CG.block (CG.loopI (fun m L H => ∃ (k : Nat) (v3 : Value), k ≤ 32 ∧ m = 32 - k ∧ L = [(2, v), (3, v3), (6, .int .i64 (k : Nat))] ∧ H = [own 3 1 v 288 (((List.range 288).map Infl.fixedLen).map iv), own 3 1 v3 k (((List.range k).map (fun _ => 5)).map iv)] ++ F) (32 - 0) (hl := [_, _]) (⟨0, _, Nat.zero_le _, rfl, rfl, rfl⟩) sB rfl tK sF ?_)))
  rintro m L H ⟨k, v3, hk, rfl, rfl, rfl⟩
  try dsimp only [List.cons_append, List.nil_append]
  refine CG.seq (CG.sr (G.mv ?_))
  refine G.q rfl rfl rfl rfl (q_lss rfl rfl rfl) (G.nil (EN.then ?_))
  refine CG.cond rfl (fun h30 => ?_) (fun h30 => ?_)
  ·
   refine CG.skip (EN.ts (CG.block (CG.reg (G.mv ?_))))
   refine G.e rfl rfl rfl rfl (e_bslice rfl rfl (bs_78_1_all_F5 _)) (fun _ _ _ _ _ _ => trivial) ?_
   rintro _ _ ⟨b34, rfl, rfl⟩
   refine G.e rfl rfl rfl rfl (e_append rfl rfl rfl se_78_F5 nf_3_F5 rfl tK1 mB (by rfl) (by simp [Value.oneCell', str]) oM) (fun _ _ _ _ _ _ => trivial) ?_
   rintro _ _ rfl
   rw [own_range5]
   refine G.as ?_
   refine G.nil (EN.in_normal (EN.tr ?_))
   refine G.mv ?_
   refine G.q rfl rfl rfl rfl (q_add_i rfl rfl rfl oM) (G.as ?_)
   refine G.nil ?_
   exact EN.round (hl := [_, _]) (32 - (k + 1)) oM (⟨k + 1, _, by omega, rfl, rfl, rfl⟩) sB rfl tK sF
  ·
   obtain rfl : k = 32 := by omega
   refine CG.exit ?_
   refine EN.then_exit (EN.then_exit (EN.in_here ?_))
   refine EN.tsr (G.mv ?_)
   refine G.mv ?_
   refine G.as ?_
   refine G.as ?_
   refine G.nil (EN.then (CG.ret ?_))
   exact fin_ret2 rfl rfl rfl tK sF (⟨_, _, rfl, rfl⟩) _ (.inl rfl)

set_option maxRecDepth 100000 in
set_option maxHeartbeats 1000000 in
theorem lengths_spec : Spec Tryz.prog 112 #[] [] (Ret fun v hl => ∃ v1 v2 v3 v4, v = .tuple #[v1, v2, v3, v4] ∧ hl = [own 3 1 v1 29 (((List.range 29).map (fun i => (Infl.lengthBase i).1)).map iv), own 3 1 v2 29 (((List.range 29).map (fun i => (Infl.lengthBase i).2)).map iv), own 3 1 v3 30 (((List.range 30).map db1).map iv), own 3 1 v4 30 (((List.range 30).map db2).map iv)]) := by
 refine Spec.enter Tryz.func112 rfl rfl rfl (fun F w0 => ?_)
 dsimp only [argL, List.cons_append, List.nil_append]
 refine CG.sr (G.as ?_)
 refine G.as ?_
 refine G.as ?_
 refine G.as ?_
 refine G.nil (EN.tsr (G.e rfl rfl rfl rfl (e_bslice rfl rfl (bs_78_0_all_F38)) (fun _ _ _ _ _ _ => trivial) ?_))
 rintro _ _ ⟨b13, rfl, rfl⟩
 refine G.e rfl rfl rfl rfl (e_bslice rfl rfl (bs_78_0_all_F38)) (fun _ _ _ _ _ _ => trivial) ?_
 rintro _ _ ⟨b14, rfl, rfl⟩
 refine G.as ?_
 refine G.as ?_
 refine G.nil (EN.tsr (G.as ?_))
 refine G.nil (EN.ts (CG.sr (G.as ?_)))
 refine G.nil (EN.then (CG.block (CG.closeOwn (g := b13) (sz := 1) (n := 0) (cap := 0) (xs := []) tK1 (by decide) (by decide) rfl rfl ?_)))
 refine CG.closeOwn (g := b14) (sz := 1) (n := 0) (cap := 0) (xs := []) tK1 (by decide) (by decide) rfl rfl ?_
 rw [show Value.int .i64 3 = .int .i64 (lb1 0 : Nat) by rw [lb1_0]; rfl]
 refine CG.loopI (fun m L H => ∃ (k : Nat) (v1 v2 : Value), k ≤ 28 ∧ m = 28 - k ∧ L = [(4, v1), (5, v2), (6, .int .i64 (lb1 k : Nat)), (7, .int .i64 (k : Nat))] ∧ H = [own 3 1 v1 k (((List.range k).map lb1).map iv), own 3 1 v2 k (((List.range k).map lb2).map iv)] ++ F) (28 - 0) (hl := [_, _]) (⟨0, _, _, Nat.zero_le _, rfl, rfl, rfl⟩) sB rfl tK sF ?_
 rintro m L H ⟨k, v1, v2, hk, rfl, rfl, rfl⟩
 try dsimp only [List.cons_append, List.nil_append]
 have hle := lb_le k hk
 refine CG.seq (CG.sr (G.mv ?_))
 refine G.q rfl rfl rfl rfl (q_lss rfl rfl rfl) (G.nil (EN.then ?_))
 refine CG.cond rfl (fun h16 => ?_) (fun h16 => ?_)
 ·
  have hk2 : k < 28 := by omega
  have hnx := lb_next k hk2
  refine CG.skip (EN.ts (CG.block (CG.sr (G.as ?_))))
  refine G.nil (EN.then ?_)
  refine CG.cut (fun L H => L = [(4, v1), (5, v2), (6, .int .i64 (lb1 k : Nat)), (7, .int .i64 (k : Nat)), (8, .int .i64 (lb2 k : Nat))] ∧ H = [own 3 1 v1 k (((List.range k).map lb1).map iv), own 3 1 v2 k (((List.range k).map lb2).map iv)] ++ F) ?_ ?_
  ·
   refine CG.sr (G.mv ?_)
   refine G.q rfl rfl rfl rfl (q_geq rfl rfl rfl) (G.nil (EN.then ?_))
   refine CG.cond rfl (fun h20 => ?_) (fun h20 => ?_)
   ·
    have hk8 : (k : Int) / 4 - 1 = (lb2 k : Nat) := by rw [lb2_ge oM]; omega
    refine CG.reg (G.mv ?_)
    refine G.q rfl rfl rfl rfl (q_quo_i rfl rfl rfl oM) (G.q rfl rfl rfl rfl (q_sub_i rfl rfl rfl oM) (G.as ?_))
    refine G.nil ?_
    rw [← hk8]
    exact EN.cut (hl := [_, _]) (⟨rfl, rfl⟩) sB rfl tK sF
   ·
    have hk8 : (0 : Int) = (lb2 k : Nat) := by rw [lb2_lt oM]; rfl
    refine CG.skip ?_
    rw [← hk8]
    exact EN.cut (hl := [_, _]) (⟨rfl, rfl⟩) sB rfl tK sF
  ·
   rintro L H ⟨rfl, rfl⟩
   try dsimp only [List.cons_append, List.nil_append]
   refine CG.sr (G.mv ?_)
   refine G.mv ?_
   refine G.e rfl rfl rfl rfl (e_bslice rfl rfl (bs_78_1_all_F5 _)) (fun _ _ _ _ _ _ => trivial) ?_
   rintro _ _ ⟨b26, rfl, rfl⟩
   refine G.e rfl rfl rfl rfl (e_append rfl rfl rfl se_78_F5 nf_3_F5 rfl tK1 mB (by rfl) (by simp [Value.oneCell', str]) oM) (fun _ _ _ _ _ _ => trivial) ?_
   rintro _ _ rfl
   rw [own_range (f := lb1)]
   refine G.as ?_
   refine G.nil (EN.tsr (G.mv ?_))
   refine G.mv ?_
   refine G.e rfl rfl rfl rfl (e_bslice rfl rfl (bs_78_1_all_F5 _)) (fun _ _ _ _ _ _ => trivial) ?_
   rintro _ _ ⟨b30, rfl, rfl⟩
   refine G.e rfl rfl rfl rfl (e_append rfl rfl rfl se_78_F5 nf_3_F5 rfl tK1 mB (by rfl) (by simp [Value.oneCell', str]) oM) (fun _ _ _ _ _ _ => trivial) ?_
   rintro _ _ rfl
   rw [own_range (f := lb2)]
   refine G.as ?_
   refine G.nil (EN.tr ?_)
   refine G.mv ?_
   refine G.mv ?_
   refine G.q rfl rfl rfl rfl (q_shl rfl rfl rfl oM) ?_
   rw [shl1 oM]
   have hp14 := pow14 (k := lb2 k) oM
   refine G.q rfl rfl rfl rfl (q_add_i rfl rfl rfl oM) ?_
   rw [show (((lb1 k : Nat) : Int) + ((2 ^ lb2 k : Nat) : Int)) = ((lb1 (k + 1) : Nat) : Int) by rw [← hnx]; simp]
   refine G.as ?_
   refine G.nil (EN.sub (sC 4 (sC 5 (sC 6 (sC 7 Sub.nil)))) ?_)
   refine EN.in_normal (EN.tr ?_)
   refine G.mv ?_
   refine G.q rfl rfl rfl rfl (q_add_i rfl rfl rfl oM) (G.as ?_)
   refine G.nil ?_
   rw [show (k : Int) + 1 = ((k + 1 : Nat) : Int) by omega]
   exact EN.round (hl := [_, _]) (28 - (k + 1)) oM (⟨k + 1, _, _, by omega, rfl, rfl, rfl⟩) sB rfl tK sF
 ·
  obtain rfl : k = 28 := by omega
  refine CG.exit ?_
  refine EN.then_exit (EN.then_exit (EN.in_here ?_))
  refine EN.tsr (G.mv ?_)
  refine G.e rfl rfl rfl rfl (e_bslice rfl rfl (bs_78_1_all_F5 _)) (fun _ _ _ _ _ _ => trivial) ?_
  rintro _ _ ⟨b37, rfl, rfl⟩
  refine G.e rfl rfl rfl rfl (e_append rfl rfl rfl se_78_F5 nf_3_F5 rfl tK1 mB (by rfl) (by simp [Value.oneCell', str]) oM) (fun _ _ _ _ _ _ => trivial) ?_
  rintro _ _ rfl
  rw [show ((List.range 28).map lb1).map iv ++ [Value.int .i64 258] = ((List.range 28).map lb1 ++ [258]).map iv by rw [List.map_append]; rfl, lb_last]
  refine G.as ?_
  refine G.nil (EN.tsr (G.mv ?_))
  refine G.e rfl rfl rfl rfl (e_bslice rfl rfl (bs_78_1_all_F5 _)) (fun _ _ _ _ _ _ => trivial) ?_
  rintro _ _ ⟨b40, rfl, rfl⟩
  refine G.e rfl rfl rfl rfl (e_append rfl rfl rfl se_78_F5 nf_3_F5 rfl tK1 mB (by rfl) (by simp [Value.oneCell', str]) oM) (fun _ _ _ _ _ _ => trivial) ?_
  rintro _ _ rfl
  rw [show ((List.range 28).map lb2).map iv ++ [Value.int .i64 0] = ((List.range 28).map lb2 ++ [0]).map iv by rw [List.map_append]; rfl, lb_last2]
  refine G.as ?_
  refine G.nil (EN.sub (sC 4 (sC 5 (sC 6 Sub.nil))) ?_)
  refine EN.tsr (G.e rfl rfl rfl rfl (e_bslice rfl rfl (bs_78_0_all_F38)) (fun _ _ _ _ _ _ => trivial) ?_)
  rintro _ _ ⟨b42, rfl, rfl⟩
  refine G.e rfl rfl rfl rfl (e_bslice rfl rfl (bs_78_0_all_F38)) (fun _ _ _ _ _ _ => trivial) ?_
  rintro _ _ ⟨b43, rfl, rfl⟩
  refine G.as ?_
  refine G.as ?_
  refine G.nil (EN.tsr (G.as ?_))
  refine G.nil (EN.ts (CG.sr (G.as ?_)))
  refine G.nil (EN.then (CG.block (CG.closeOwn (g := b42) (sz := 1) (n := 0) (cap := 0) (xs := []) tK1 (by decide) (by decide) rfl rfl ?_)))
  refine CG.closeOwn (g := b43) (sz := 1) (n := 0) (cap := 0) (xs := []) tK1 (by decide) (by decide) rfl rfl ?_
  refine CG.loopI (fun m L H => ∃ (k : Nat) (v3 v4 w1 w2 : Value), k ≤ 30 ∧ m = 30 - k ∧ L = [(4, w1), (5, w2), (6, .int .i64 (db1 k : Nat)), (9, v3), (10, v4), (11, .int .i64 (k : Nat))] ∧ H = [own 3 1 v3 k (((List.range k).map db1).map iv), own 3 1 v4 k (((List.range k).map db2).map iv), own 3 1 w1 29 (((List.range 29).map (fun i => (Infl.lengthBase i).1)).map iv), own 3 1 w2 29 (((List.range 29).map (fun i => (Infl.lengthBase i).2)).map iv)] ++ F) (30 - 0) (hl := [_, _, _, _]) (⟨0, _, _, _, _, Nat.zero_le _, rfl, rfl, rfl⟩) sB rfl tK sF ?_
  rintro m L H ⟨k, v3, v4, w1, w2, hk, rfl, rfl, rfl⟩
  try dsimp only [List.cons_append, List.nil_append]
  have hle := db_le k hk
  refine CG.seq (CG.sr (G.mv ?_))
  refine G.q rfl rfl rfl rfl (q_lss rfl rfl rfl) (G.nil (EN.then ?_))
  refine CG.cond rfl (fun h45 => ?_) (fun h45 => ?_)
  ·
   have hk2 : k < 30 := by omega
   have hnx := db_next k hk2
   refine CG.skip (EN.ts (CG.block (CG.sr (G.as ?_))))
   refine G.nil (EN.then ?_)
   refine CG.cut (fun L H => L = [(4, w1), (5, w2), (6, .int .i64 (db1 k : Nat)), (9, v3), (10, v4), (11, .int .i64 (k : Nat)), (12, .int .i64 (db2 k : Nat))] ∧ H = [own 3 1 v3 k (((List.range k).map db1).map iv), own 3 1 v4 k (((List.range k).map db2).map iv), own 3 1 w1 29 (((List.range 29).map (fun i => (Infl.lengthBase i).1)).map iv), own 3 1 w2 29 (((List.range 29).map (fun i => (Infl.lengthBase i).2)).map iv)] ++ F) ?_ ?_
   ·
    refine CG.sr (G.mv ?_)
    refine G.q rfl rfl rfl rfl (q_geq rfl rfl rfl) (G.nil (EN.then ?_))
    refine CG.cond rfl (fun h49 => ?_) (fun h49 => ?_)
    ·
     have hk8 : (k : Int) / 2 - 1 = (db2 k : Nat) := by rw [db2_ge oM]; omega
     refine CG.reg (G.mv ?_)
     refine G.q rfl rfl rfl rfl (q_quo_i rfl rfl rfl oM) (G.q rfl rfl rfl rfl (q_sub_i rfl rfl rfl oM) (G.as ?_))
     refine G.nil ?_
     rw [← hk8]
     exact EN.cut (hl := [_, _, _, _]) (⟨rfl, rfl⟩) sB rfl tK sF
    ·
     have hk8 : (0 : Int) = (db2 k : Nat) := by rw [db2_lt oM]; rfl
     refine CG.skip ?_
     rw [← hk8]
     exact EN.cut (hl := [_, _, _, _]) (⟨rfl, rfl⟩) sB rfl tK sF
   ·
    rintro L H ⟨rfl, rfl⟩
    try dsimp only [List.cons_append, List.nil_append]
    refine CG.sr (G.mv ?_)
    refine G.mv ?_
    refine G.e rfl rfl rfl rfl (e_bslice rfl rfl (bs_78_1_all_F5 _)) (fun _ _ _ _ _ _ => trivial) ?_
    rintro _ _ ⟨b55, rfl, rfl⟩
    refine G.e rfl rfl rfl rfl (e_append rfl rfl rfl se_78_F5 nf_3_F5 rfl tK1 mB (by rfl) (by simp [Value.oneCell', str]) oM) (fun _ _ _ _ _ _ => trivial) ?_
    rintro _ _ rfl
    rw [own_range (f := db1)]
    refine G.as ?_
    refine G.nil (EN.tsr (G.mv ?_))
    refine G.mv ?_
    refine G.e rfl rfl rfl rfl (e_bslice rfl rfl (bs_78_1_all_F5 _)) (fun _ _ _ _ _ _ => trivial) ?_
    rintro _ _ ⟨b59, rfl, rfl⟩
    refine G.e rfl rfl rfl rfl (e_append rfl rfl rfl se_78_F5 nf_3_F5 rfl tK1 mB (by rfl) (by simp [Value.oneCell', str]) oM) (fun _ _ _ _ _ _ => trivial) ?_
    rintro _ _ rfl
    rw [own_range (f := db2)]
    refine G.as ?_
    refine G.nil (EN.tr ?_)
    refine G.mv ?_
    refine G.mv ?_
    refine G.q rfl rfl rfl rfl (q_shl rfl rfl rfl oM) ?_
    rw [shl1 oM]
    have hp14 := pow14 (k := db2 k) oM
    refine G.q rfl rfl rfl rfl (q_add_i rfl rfl rfl oM) ?_
    rw [show (((db1 k : Nat) : Int) + ((2 ^ db2 k : Nat) : Int)) = ((db1 (k + 1) : Nat) : Int) by rw [← hnx]; simp]
    refine G.as ?_
    refine G.nil (EN.sub (sC 4 (sC 5 (sC 6 (sC 9 (sC 10 (sC 11 Sub.nil)))))) ?_)
    refine EN.in_normal (EN.tr ?_)
    refine G.mv ?_
    refine G.q rfl rfl rfl rfl (q_add_i rfl rfl rfl oM) (G.as ?_)
    refine G.nil ?_
    rw [show (k : Int) + 1 = ((k + 1 : Nat) : Int) by omega]
    exact EN.round (hl := [_, _, _, _]) (30 - (k + 1)) oM (⟨k + 1, _, _, _, _, by omega, rfl, rfl, rfl⟩) sB rfl tK sF
  ·
   obtain rfl : k = 30 := by omega
   refine CG.exit ?_
   refine EN.then_exit (EN.then_exit (EN.in_here ?_))
   refine EN.tsr (G.mv ?_)
   refine G.mv ?_
   refine G.mv ?_
   refine G.mv ?_
   refine G.as ?_
   refine G.as ?_
   refine G.as ?_
   refine G.as ?_
   refine G.nil (EN.sub (sC 0 (sC 1 (sC 2 (sC 3 Sub.nil)))) ?_)
   refine EN.then (CG.ret ?_)
   exact fin_ret4 rfl rfl rfl rfl rfl tK sF (⟨_, _, _, _, rfl, rfl⟩) _ (.inl rfl)

end Go.Eng
/-
  The reference (ref04): Check, Codes.
-/
set_option linter.unusedVariables false
set_option linter.unusedSimpArgs false
namespace Go.Eng
open Go.Proofs
theorem bs_161_0_all_F39 : ∀ (w : World), (Instr.buildSlice 161 0 [].toArray).run Tryz.prog w = .ok (.slice (some ⟨w.heap.size, 0, none⟩) 0 0) { w with heap := w.heap.push (.cells [].toArray 125) } := fun _ => by kernel_rfl
theorem bs_161_1_all_F39 : ∀ (x0a : Option Addr) (x0n x0c : Nat) (w : World), (Instr.buildSlice 161 1 [(0, .slice x0a x0n x0c)].toArray).run Tryz.prog w = .ok (.slice (some ⟨w.heap.size, 0, none⟩) 1 1) { w with heap := w.heap.push (.cells [.slice x0a x0n x0c].toArray 125) } := fun _ _ _ _ => by kernel_rfl
theorem nf_125_F39 : infoB Tryz.prog 125 = some (some [.slice none 0 0], 1, 24) := by kernel_rfl

theorem sum_snoc (l : List Nat) (x : Nat) : (l ++ [x]).sum = l.sum + x := by simp
theorem kraft_snoc (l : List Nat) (x : Nat) : RI.kraft (l ++ [x]) = RI.kraft l + (if 0 < x then 2 ^ (15 - x) else 0) := by unfold RI.kraft; rw [List.map_append, List.map_cons, List.map_nil, sum_snoc]
theorem nCodes_snoc (l : List Nat) (x : Nat) : RI.nCodes (l ++ [x]) = RI.nCodes l + (if 0 < x then 1 else 0) := by unfold RI.nCodes; rw [List.map_append, List.map_cons, List.map_nil, sum_snoc]
theorem kraft_le (l : List Nat) : RI.kraft l ≤ l.length * 16384 := by
  induction l with
  | nil => simp [RI.kraft]
  | cons x l ih =>
    have : RI.kraft (x :: l) = (if 0 < x then 2 ^ (15 - x) else 0) + RI.kraft l := by unfold RI.kraft; simp
    rw [this, List.length_cons]
    split
    · have := pow14 (k := 15 - x) (by omega); omega
    · omega
theorem nCodes_le (l : List Nat) : RI.nCodes l ≤ l.length := by
  induction l with
  | nil => simp [RI.nCodes]
  | cons x l ih =>
    have : RI.nCodes (x :: l) = (if 0 < x then 1 else 0) + RI.nCodes l := by unfold RI.nCodes; simp
    rw [this, List.length_cons]
    split <;> omega
theorem kraft_nil : RI.kraft [] = 0 := rfl
theorem nCodes_nil : RI.nCodes [] = 0 := rfl
theorem pow_half {i : Nat} (h : i < 15) : (((2 ^ (15 - i) : Nat) : Int)) / 2 = ((2 ^ (15 - (i + 1)) : Nat) : Int) := by
  rw [show 15 - i = (15 - (i + 1)) + 1 by omega, Nat.pow_succ]; omega
theorem pow15 {k : Nat} (h : k ≤ 15) : 2 ^ k ≤ 32768 := Nat.le_trans (Nat.pow_le_pow_right (by omega) h) (by decide)
theorem count1_snoc (l : List Nat) (x : Nat) : (l ++ [x]).count 1 = l.count 1 + (if x = 1 then 1 else 0) := by
  rw [List.count_append, List.count_singleton]
  by_cases h : x = 1 <;> simp [h]
theorem get_ivs {l : List Nat} {k x : Nat} (h : l[k]? = some x) : (l.map iv)[k]? = some (.int .i64 (x : Int)) := by rw [List.getElem?_map, h]; rfl
theorem codesRow_len (n : Nat) : ∀ (l : List Nat) (i : Nat) (x : Nat × List (List Bool)), (RI.codesRow n l i x).2.length = x.2.length
  | [], _, _ => rfl
  | l :: ls, i, x => by rw [RI.codesRow, codesRow_len n ls]; split <;> simp
theorem codesGo_len (ls : List Nat) : ∀ q, (RI.codesGo ls q).2.length = ls.length
  | 0 => by simp [RI.codesGo]
  | q + 1 => by rw [RI.codesGo, codesRow_len]; exact codesGo_len ls q
theorem codesRow_le (n : Nat) : ∀ (l : List Nat) (i : Nat) (x : Nat × List (List Bool)), (RI.codesRow n l i x).1 ≤ x.1 + l.length
  | [], _, _ => Nat.le_refl _
  | l :: ls, i, x => by
    rw [RI.codesRow]
    refine Nat.le_trans (codesRow_le n ls _ _) ?_
    split <;> simp only [List.length_cons] <;> omega
theorem codesGo_le (ls : List Nat) : ∀ q, (RI.codesGo ls q).1 + ls.length ≤ ls.length * 2 ^ q
  | 0 => by simp [RI.codesGo]
  | q + 1 => by
    have h1 := codesGo_le ls q
    have h2 := codesRow_le (q + 1) ls 0 (2 * (RI.codesGo ls q).1, (RI.codesGo ls q).2)
    rw [RI.codesGo, Nat.pow_succ]
    generalize RI.codesRow (q + 1) ls 0 (2 * (RI.codesGo ls q).1, (RI.codesGo ls q).2) = y at h2 ⊢
    dsimp only at h2
    have h3 : ls.length * (2 ^ q * 2) = 2 * (ls.length * 2 ^ q) := by rw [← Nat.mul_assoc]; omega
    omega
theorem codesGo_bd (ls : List Nat) {q : Nat} (hq : q ≤ 15) (hl : ls.length ≤ 320) : (RI.codesGo ls q).1 ≤ 10485760 := by
  have h1 := codesGo_le ls q
  have h2 : ls.length * 2 ^ q ≤ 320 * 32768 := Nat.mul_le_mul hl (pow15 hq)
  omega
theorem row_step {n k x : Nat} {ls : List Nat} {y : Nat × List (List Bool)} (h : ls[k]? = some x) : RI.codesRow n (ls.drop k) k y = RI.codesRow n (ls.drop (k + 1)) (k + 1) (if x = n then (y.1 + 1, y.2.set k (cb y.1 n)) else y) := by rw [drop_cons h, RI.codesRow]
theorem own_consB {e : Nat} {u : Value} {l : List Bool} {x : Bool} : own e 1 u (1 + l.length) (([x] : List Bool).map bv ++ l.map bv) = own e 1 u (x :: l).length ((x :: l).map bv) := by rw [List.length_cons, Nat.add_comm]; rfl
theorem cb_len (x : Nat) : ∀ n, (cb x n).length = n
  | 0 => rfl
  | n + 1 => by rw [cb, List.length_cons, cb_len x n]
theorem cb_succ (x n : Nat) : cb x (n + 1) = x.testBit n :: cb x n := rfl
theorem div_half (c j : Nat) : ((c / 2 ^ j : Nat) : Int) / 2 = ((c / 2 ^ (j + 1) : Nat) : Int) := by rw [Nat.pow_succ, ← Nat.div_div_eq_div_mul]; omega
theorem bv_one (l : List Bool) : ∀ u ∈ l.map bv, u.oneCell' = true := by
  intro u hu; obtain ⟨c, _, rfl⟩ := List.mem_map.1 hu; rfl
theorem map_set_bv (cs : List (List Bool)) (k : Nat) (b : List Bool) : (cs.map fun c => c.map bv).set k (b.map bv) = (cs.set k b).map fun c => c.map bv := by rw [List.map_set]

attribute [local irreducible] cel celZ own ownM ownG exS bb wb cb rowsH RI.kraft RI.nCodes RI.codesGo RI.codesRow

set_option maxRecDepth 100000 in
set_option maxHeartbeats 1000000 in
theorem check04_spec (ad : Option Addr) (n c : Nat) (ls : List Nat) (p : HP) (hr : RdA p ad (ls.map iv)) (hn : ls.length = n) (h15 : ∀ x ∈ ls, x ≤ 15) (hl : n ≤ 100000) : Spec Tryz.prog 114 #[.slice ad n c] [p] (Ret fun v hl => v = .int .i64 (RI.check ls : Nat) ∧ hl = [p]) := by
 subst hn
 refine Spec.enter Tryz.func114 rfl rfl rfl (fun F w0 => ?_)
 dsimp only [argL, List.cons_append, List.nil_append]
 refine CG.sr (G.as ?_)
 refine G.nil (EN.ts (CG.sr (G.mv ?_)))
 refine G.q rfl rfl rfl rfl (q_len_sl rfl rfl se_78_F5) (G.q rfl rfl rfl rfl (q_gtr rfl rfl rfl) (G.nil (EN.then ?_)))
 refine CG.cond rfl (fun h12 => ?_) (fun h12 => ?_)
 ·
  have hE : RI.check ls = 2 := if_pos oM
  refine CG.sr (G.as ?_)
  refine G.nil (EN.then (CG.ret (EN.then_ret ?_)))
  rw [hE]
  exact fin_ret1 rfl rfl tK sF (⟨rfl, rfl⟩) _ (.inl rfl)
 ·
  have hC : RI.check ls = if 32768 < RI.kraft ls ∨ (RI.kraft ls < 32768 ∧ 0 < RI.nCodes ls ∧ ¬ (RI.nCodes ls = 1 ∧ ls.count 1 = 1)) then 4 else 0 := if_neg oM
  refine CG.skip (EN.tsr (G.as ?_))
  refine G.as ?_
  refine G.as ?_
  refine G.nil (EN.ts (CG.sr (G.mv ?_)))
  refine G.q rfl rfl rfl rfl (q_len_sl rfl rfl se_78_F5) (G.mv ?_)
  refine G.nil (EN.then (CG.block (CG.loopI (fun m L H => ∃ k : Nat, k ≤ ls.length ∧ m = ls.length - k ∧ L = [(3, .int .i64 (RI.kraft (ls.take k) : Nat)), (4, .int .i64 (RI.nCodes (ls.take k) : Nat)), (5, .int .i64 ((ls.take k).count 1 : Nat)), (13, .slice ad ls.length c), (14, .int .i64 (ls.length : Nat)), (15, .int .i64 (k : Nat))] ∧ H = [p] ++ F) (ls.length - 0) (hl := [_]) (⟨0, Nat.zero_le _, rfl, by rw [List.take_zero, kraft_nil, nCodes_nil, List.count_nil], rfl⟩) sB rfl tK sF ?_)))
  rintro m L H ⟨k, hk, rfl, rfl, rfl⟩
  try dsimp only [List.cons_append, List.nil_append]
  have hk1 := kraft_le (ls.take k)
  have hk2 := nCodes_le (ls.take k)
  have hk3 := Huff.count_le (ls.take k) 1
  rw [List.length_take, Nat.min_eq_left hk] at hk1 hk2 hk3
  refine CG.sr (G.q rfl rfl rfl rfl (q_lss rfl rfl rfl) (G.nil (EN.ts ?_)))
  refine CG.cond rfl (fun h16 => ?_) (fun h16 => ?_)
  ·
   have hk4 : k < ls.length := by omega
   obtain ⟨x, hx⟩ := get_some (l := ls) (k := k) hk4
   have hxl := h15 x (List.mem_of_getElem? hx)
   have hkr : RI.kraft (ls.take (k + 1)) = RI.kraft (ls.take k) + (if 0 < x then 2 ^ (15 - x) else 0) := by rw [take_snoc hx, kraft_snoc]
   have hnc : RI.nCodes (ls.take (k + 1)) = RI.nCodes (ls.take k) + (if 0 < x then 1 else 0) := by rw [take_snoc hx, nCodes_snoc]
   have hct : (ls.take (k + 1)).count 1 = (ls.take k).count 1 + (if x = 1 then 1 else 0) := by rw [take_snoc hx, count1_snoc]
   refine CG.someRd mB hr (by simp; omega) (fun g0 o0 e => ?_)
   subst e
   refine CG.skip (EN.ts (CG.block (CG.sr (G.q rfl rfl rfl rfl (q_ixad1 rfl rfl rfl se_78_F5 sz_3_F1 (hk4)) (G.r rfl rfl rfl rfl (r_loadRd rfl rfl ag_3_F1 mB hr (get_ivs hx)) ?_)))))
   refine G.as ?_
   refine G.nil (EN.ts (CG.sr (G.mv ?_)))
   refine G.q rfl rfl rfl rfl (q_lss rfl rfl rfl) (G.mv ?_)
   refine G.split (t := 21) rfl (fun g21 => absurd g21 oM) (fun g21 => ?_)
   refine G.mv ?_
   refine G.q rfl rfl rfl rfl (q_gtr rfl rfl rfl) (G.q rfl rfl rfl rfl (q_pick_f rfl rfl rfl) (G.nil (EN.then ?_)))
   refine CG.cond rfl (fun h24 => absurd h24 oM) (fun h24 => ?_)
   refine CG.skip (EN.then ?_)
   refine CG.cut (fun L H => L = [(3, .int .i64 (RI.kraft (ls.take (k + 1)) : Nat)), (4, .int .i64 (RI.nCodes (ls.take (k + 1)) : Nat)), (5, .int .i64 ((ls.take k).count 1 : Nat)), (7, .int .i64 (x : Nat)), (13, .slice (some ⟨g0, o0, none⟩) ls.length c), (14, .int .i64 (ls.length : Nat)), (15, .int .i64 (k : Nat))] ∧ H = [p] ++ F) ?_ ?_
   ·
    refine CG.sr (G.mv ?_)
    refine G.q rfl rfl rfl rfl (q_gtr rfl rfl rfl) (G.nil (EN.sub (sC 3 (sC 4 (sC 5 (sC 7 (sC 13 (sC 14 (sC 15 (sC 26 Sub.nil)))))))) ?_))
    refine EN.then ?_
    refine CG.cond rfl (fun h26 => ?_) (fun h26 => ?_)
    ·
     have hx0 : 0 < x := by omega
     refine CG.sr (G.mv ?_)
     refine G.q rfl rfl rfl rfl (q_add_i rfl rfl rfl oM) (G.as ?_)
     refine G.nil (EN.tsr (G.as ?_))
     refine G.nil (EN.ts (CG.sr (G.as ?_)))
     refine G.nil (EN.then (CG.block ?_))
     rw [show (RI.nCodes (ls.take k) : Int) + 1 = (RI.nCodes (ls.take (k + 1)) : Nat) by rw [hnc, if_pos oM]; simp]
     refine CG.loopI (fun m L H => ∃ i : Nat, i ≤ x ∧ m = x - i ∧ L = [(3, .int .i64 (RI.kraft (ls.take k) : Nat)), (4, .int .i64 (RI.nCodes (ls.take (k + 1)) : Nat)), (5, .int .i64 ((ls.take k).count 1 : Nat)), (7, .int .i64 (x : Nat)), (8, .int .i64 (2 ^ (15 - i) : Nat)), (9, .int .i64 (i : Nat)), (13, .slice (some ⟨g0, o0, none⟩) ls.length c), (14, .int .i64 (ls.length : Nat)), (15, .int .i64 (k : Nat))] ∧ H = [p] ++ F) (x - 0) (hl := [_]) (⟨0, Nat.zero_le _, rfl, rfl, rfl⟩) sB rfl tK sF ?_
     rintro m L H ⟨i, hi, rfl, rfl, rfl⟩
     try dsimp only [List.cons_append, List.nil_append]
     have hp15 := pow15 (k := 15 - i) oM
     refine CG.seq (CG.sr (G.mv ?_))
     refine G.mv ?_
     refine G.q rfl rfl rfl rfl (q_lss rfl rfl rfl) (G.nil (EN.then ?_))
     refine CG.cond rfl (fun h31 => ?_) (fun h31 => ?_)
     ·
      generalize hz9 : 2 ^ (15 - i) = z9 at hp15 ⊢
      refine CG.skip (EN.ts (CG.block (CG.reg (G.mv ?_))))
      refine G.q rfl rfl rfl rfl (q_quo_i rfl rfl rfl oM) (G.as ?_)
      refine G.nil (EN.in_normal (EN.tr ?_))
      refine G.mv ?_
      refine G.q rfl rfl rfl rfl (q_add_i rfl rfl rfl oM) (G.as ?_)
      refine G.nil ?_
      rw [show (z9 : Int) / 2 = ((2 ^ (15 - (i + 1)) : Nat) : Int) by rw [← hz9]; exact pow_half oM]
      exact EN.round (hl := [_]) (x - (i + 1)) oM (⟨i + 1, by omega, rfl, rfl, rfl⟩) sB rfl tK sF
     ·
      obtain rfl : i = x := by omega
      generalize hz9 : 2 ^ (15 - i) = z9 at hp15 ⊢
      refine CG.exit ?_
      refine EN.then_exit (EN.then_exit (EN.in_here ?_))
      refine EN.tr ?_
      refine G.mv ?_
      refine G.mv ?_
      refine G.q rfl rfl rfl rfl (q_add_i rfl rfl rfl oM) (G.as ?_)
      refine G.nil ?_
      (rw [if_pos hx0, hz9] at hkr; rw [show (RI.kraft (ls.take k) : Int) + (z9 : Nat) = (RI.kraft (ls.take (k + 1)) : Nat) by rw [hkr]; omega])
      exact EN.cut (hl := [_]) (⟨rfl, rfl⟩) sB rfl tK sF
    ·
     have hx0 : ¬ 0 < x := by omega
     rw [if_neg hx0, Nat.add_zero] at hkr hnc
     refine CG.skip ?_
     rw [hkr, hnc]
     exact EN.cut (hl := [_]) (⟨rfl, rfl⟩) sB rfl tK sF
   ·
    rintro L H ⟨rfl, rfl⟩
    try dsimp only [List.cons_append, List.nil_append]
    refine CG.sr (G.mv ?_)
    refine G.q rfl rfl rfl rfl (q_eql rfl rfl rfl) (G.nil (EN.then ?_))
    refine CG.cond rfl (fun h40 => ?_) (fun h40 => ?_)
    ·
     have hc1 : ((ls.take (k + 1)).count 1 : Int) = ((ls.take k).count 1 : Nat) + 1 := by rw [hct, if_pos oM]; simp
     refine CG.reg (G.mv ?_)
     refine G.q rfl rfl rfl rfl (q_add_i rfl rfl rfl oM) (G.as ?_)
     refine G.nil (EN.in_normal (EN.tr ?_))
     refine G.q rfl rfl rfl rfl (q_add_i rfl rfl rfl oM) (G.mv ?_)
     refine G.nil ?_
     rw [show (k : Int) + 1 = ((k + 1 : Nat) : Int) by omega]
     rw [← hc1]
     exact EN.round (hl := [_]) (ls.length - (k + 1)) oM (⟨k + 1, by omega, rfl, rfl, rfl⟩) sB rfl tK sF
    ·
     have hc1 : (ls.take (k + 1)).count 1 = (ls.take k).count 1 := by rw [hct, if_neg oM]; rfl
     refine CG.skip (EN.in_normal (EN.tr ?_))
     refine G.q rfl rfl rfl rfl (q_add_i rfl rfl rfl oM) (G.mv ?_)
     refine G.nil ?_
     rw [show (k : Int) + 1 = ((k + 1 : Nat) : Int) by omega]
     rw [← hc1]
     exact EN.round (hl := [_]) (ls.length - (k + 1)) oM (⟨k + 1, by omega, rfl, rfl, rfl⟩) sB rfl tK sF
  ·
   obtain rfl : k = ls.length := by omega
   rw [List.take_length] at hk1 hk2 hk3 ⊢
   refine CG.exit ?_
   refine EN.then_exit (EN.then_exit (EN.in_here ?_))
   refine EN.ts (CG.sr (G.mv ?_))
   refine G.q rfl rfl rfl rfl (q_gtr rfl rfl rfl) (G.mv ?_)
   refine G.split (t := 46) rfl (fun g46 => ?_) (fun g46 => ?_)
   ·
    have hE : RI.check ls = 4 := by rw [hC, if_pos (.inl oM)]
    refine G.skip rfl rfl rfl (G.skip rfl rfl rfl (G.skip rfl rfl rfl (G.skip rfl rfl rfl (G.skip rfl rfl rfl (G.skip rfl rfl rfl ?_)))))
    refine G.skip rfl rfl rfl (G.skip rfl rfl rfl (G.skip rfl rfl rfl (G.skip rfl rfl rfl (G.skip rfl rfl rfl (G.skip rfl rfl rfl ?_)))))
    refine G.skip rfl rfl rfl (G.skip rfl rfl rfl (G.skip rfl rfl rfl (G.q rfl rfl rfl rfl (q_pick_t rfl rfl rfl) (G.nil (EN.sub (sC 62 Sub.nil) ?_)))))
    refine EN.then (CG.cond_t rfl ?_)
    refine CG.sr (G.as ?_)
    refine G.nil (EN.then (CG.ret (EN.then_ret ?_)))
    rw [hE]
    exact fin_ret1 rfl rfl tK sF (⟨rfl, rfl⟩) _ (.inl rfl)
   ·
    refine G.mv ?_
    refine G.q rfl rfl rfl rfl (q_lss rfl rfl rfl) (G.mv ?_)
    refine G.split (t := 49) rfl (fun g49 => ?_) (fun g49 => ?_)
    ·
     refine G.mv ?_
     refine G.q rfl rfl rfl rfl (q_gtr rfl rfl rfl) (G.q rfl rfl rfl rfl (q_pick_t rfl rfl rfl) (G.mv ?_))
     refine G.split (t := 53) rfl (fun g53 => ?_) (fun g53 => ?_)
     ·
      refine G.mv ?_
      refine G.q rfl rfl rfl rfl (q_eql rfl rfl rfl) (G.mv ?_)
      refine G.split (t := 56) rfl (fun g56 => ?_) (fun g56 => ?_)
      ·
       refine G.mv ?_
       refine G.q rfl rfl rfl rfl (q_eql rfl rfl rfl) (G.q rfl rfl rfl rfl (q_pick_t rfl rfl rfl) (G.q rfl rfl rfl rfl (q_not rfl rfl) (G.q rfl rfl rfl rfl (q_pick_t rfl rfl rfl) (G.q rfl rfl rfl rfl (q_pick_f rfl rfl rfl) (G.nil ?_)))))
       refine EN.sub (sC 62 Sub.nil) ?_
       refine EN.then ?_
       refine CG.condB rfl (fun h62 => ?_) (fun h62 => ?_)
       ·
        have hE : RI.check ls = 4 := by first | assumption | (rw [hC, if_pos (.inr ⟨by omega, by omega, fun h => by rw [h.2] at h62; simp at h62⟩)])
        refine CG.sr (G.as ?_)
        refine G.nil (EN.then (CG.ret (EN.then_ret ?_)))
        rw [hE]
        exact fin_ret1 rfl rfl tK sF (⟨rfl, rfl⟩) _ (.inl rfl)
       ·
        have hE : RI.check ls = 0 := by first | assumption | (rw [hC, if_neg (fun h => by simp at h62; omega)])
        refine CG.skip (EN.tsr (G.as ?_))
        refine G.nil (EN.then (CG.ret ?_))
        rw [hE]
        exact fin_ret1 rfl rfl tK sF (⟨rfl, rfl⟩) _ (.inl rfl)
      ·
       have hE : RI.check ls = 4 := by rw [hC, if_pos (.inr ⟨by omega, by omega, by omega⟩)]
       refine G.skip rfl rfl rfl (G.skip rfl rfl rfl (G.q rfl rfl rfl rfl (q_pick_f rfl rfl rfl) (G.q rfl rfl rfl rfl (q_not rfl rfl) (G.q rfl rfl rfl rfl (q_pick_t rfl rfl rfl) (G.q rfl rfl rfl rfl (q_pick_f rfl rfl rfl) ?_)))))
       refine G.nil (EN.sub (sC 62 Sub.nil) ?_)
       refine EN.then (CG.cond_t rfl ?_)
       refine CG.sr (G.as ?_)
       refine G.nil (EN.then (CG.ret (EN.then_ret ?_)))
       rw [hE]
       exact fin_ret1 rfl rfl tK sF (⟨rfl, rfl⟩) _ (.inl rfl)
     ·
      have hE : RI.check ls = 0 := by rw [hC, if_neg oM]
      refine G.skip rfl rfl rfl (G.skip rfl rfl rfl (G.skip rfl rfl rfl (G.skip rfl rfl rfl (G.skip rfl rfl rfl (G.skip rfl rfl rfl ?_)))))
      refine G.skip rfl rfl rfl (G.q rfl rfl rfl rfl (q_pick_f rfl rfl rfl) (G.q rfl rfl rfl rfl (q_pick_f rfl rfl rfl) (G.nil (EN.sub (sC 62 Sub.nil) ?_))))
      refine EN.then (CG.cond_f rfl ?_)
      refine CG.skip (EN.tsr (G.as ?_))
      refine G.nil (EN.then (CG.ret ?_))
      rw [hE]
      exact fin_ret1 rfl rfl tK sF (⟨rfl, rfl⟩) _ (.inl rfl)
    ·
     have hE : RI.check ls = 0 := by rw [hC, if_neg oM]
     refine G.skip rfl rfl rfl (G.skip rfl rfl rfl (G.q rfl rfl rfl rfl (q_pick_f rfl rfl rfl) (G.mv ?_)))
     refine G.skip rfl rfl rfl (G.skip rfl rfl rfl (G.skip rfl rfl rfl (G.skip rfl rfl rfl (G.skip rfl rfl rfl (G.skip rfl rfl rfl ?_)))))
     refine G.skip rfl rfl rfl (G.q rfl rfl rfl rfl (q_pick_f rfl rfl rfl) (G.q rfl rfl rfl rfl (q_pick_f rfl rfl rfl) (G.nil (EN.sub (sC 62 Sub.nil) ?_))))
     refine EN.then (CG.cond_f rfl ?_)
     refine CG.skip (EN.tsr (G.as ?_))
     refine G.nil (EN.then (CG.ret ?_))
     rw [hE]
     exact fin_ret1 rfl rfl tK sF (⟨rfl, rfl⟩) _ (.inl rfl)

set_option maxRecDepth 100000 in
set_option maxHeartbeats 1000000 in
theorem codes04_spec (ad : Option Addr) (n c : Nat) (ls : List Nat) (p : HP) (hr : RdA p ad (ls.map iv)) (hn : ls.length = n) (hl : n ≤ 320) : Spec Tryz.prog 111 #[.slice ad n c] [p] (Ret fun v hl => ∃ vs, vs.length = n ∧ hl = [own 125 1 v n (vs), rowsH 4 vs ((RI.codes ls).map fun c => c.map bv), p]) := by
 subst hn
 refine Spec.enter Tryz.func111 rfl rfl rfl (fun F w0 => ?_)
 dsimp only [argL, List.cons_append, List.nil_append]
 refine CG.sr (G.as ?_)
 refine G.nil (EN.tsr (G.e rfl rfl rfl rfl (e_bslice rfl rfl (bs_161_0_all_F39)) (fun _ _ _ _ _ _ => trivial) ?_))
 rintro _ _ ⟨b11, rfl, rfl⟩
 refine G.as ?_
 refine G.nil (EN.ts (CG.sr (G.mv ?_)))
 refine G.q rfl rfl rfl rfl (q_len_sl rfl rfl se_78_F5) (G.mv ?_)
 refine G.nil (EN.then (CG.block (CG.closeOwn (g := b11) (sz := 1) (n := 0) (cap := 0) (xs := []) tK1 (by decide) (by decide) rfl rfl ?_)))
 refine CG.rowsNil 4 ?_
 refine CG.loopI (fun m L H => ∃ (k : Nat) (v : Value), k ≤ ls.length ∧ m = ls.length - k ∧ L = [(0, .slice ad ls.length c), (3, v), (12, .slice ad ls.length c), (13, .int .i64 (ls.length : Nat)), (14, .int .i64 (k : Nat))] ∧ H = [own 125 1 v k (List.replicate k (.slice none 0 0)), rowsH 4 (List.replicate k (.slice none 0 0)) (List.replicate k []), p] ++ F) (ls.length - 0) (hl := [_, _, _]) (⟨0, _, Nat.zero_le _, rfl, rfl, rfl⟩) sB rfl tK sF ?_
 rintro m L H ⟨k, v, hk, rfl, rfl, rfl⟩
 try dsimp only [List.cons_append, List.nil_append]
 refine CG.sr (G.q rfl rfl rfl rfl (q_lss rfl rfl rfl) (G.nil (EN.ts ?_)))
 refine CG.cond rfl (fun h15 => ?_) (fun h15 => ?_)
 ·
  refine CG.skip (EN.ts (CG.block (CG.reg (G.mv ?_))))
  refine G.e rfl rfl rfl rfl (e_bslice rfl rfl (bs_161_1_all_F39 _ _ _)) (fun _ _ _ _ _ _ => trivial) ?_
  rintro _ _ ⟨b17, rfl, rfl⟩
  refine G.e rfl rfl rfl rfl (e_append rfl rfl rfl se_161_F36 nf_125_F39 rfl tK1 mB (by rfl) (by simp [Value.oneCell', str]) oM) (fun _ _ _ _ _ _ => trivial) ?_
  rintro _ _ rfl
  rw [← List.replicate_succ']
  refine G.as ?_
  refine G.nil (EN.in_normal (EN.tr ?_))
  refine G.q rfl rfl rfl rfl (q_add_i rfl rfl rfl oM) (G.mv ?_)
  refine G.nil (EN.imp tK1 (fun h hh => rows_snoc hh) ?_)
  rw [← List.replicate_succ', ← List.replicate_succ', show (k : Int) + 1 = ((k + 1 : Nat) : Int) by omega]
  exact EN.round (hl := [_, _, _]) (ls.length - (k + 1)) oM (⟨k + 1, _, by omega, rfl, rfl, rfl⟩) sB rfl tK sF
 ·
  obtain rfl : k = ls.length := by omega
  refine CG.exit ?_
  refine EN.then_exit (EN.then_exit (EN.in_here ?_))
  refine EN.tsr (G.as ?_)
  refine G.nil (EN.ts (CG.sr (G.as ?_)))
  refine G.nil (EN.then (CG.block ?_))
  rw [show (List.replicate ls.length [] : List (List Value)) = ((RI.codesGo ls 0).2).map (fun c => c.map bv) by unfold RI.codesGo; simp]
  refine CG.loopI (fun m L H => ∃ (q : Nat) (vs : List Value) (v : Value), q ≤ 15 ∧ m = 15 - q ∧ vs.length = ls.length ∧ L = [(0, .slice ad ls.length c), (3, v), (4, .int .i64 ((RI.codesGo ls q).1 : Nat)), (5, .int .i64 ((q + 1 : Nat) : Int))] ∧ H = [own 125 1 v ls.length (vs), rowsH 4 vs (((RI.codesGo ls q).2).map fun c => c.map bv), p] ++ F) (15 - 0) (hl := [_, _, _]) (⟨0, List.replicate ls.length (.slice none 0 0), _, Nat.zero_le _, rfl, by simp, by unfold RI.codesGo; rfl, rfl⟩) sB rfl tK sF ?_
  rintro m L H ⟨q, vs, v, hq, rfl, hvs, rfl, rfl⟩
  try dsimp only [List.cons_append, List.nil_append]
  refine CG.seq (CG.sr (G.mv ?_))
  refine G.q rfl rfl rfl rfl (q_leq rfl rfl rfl) (G.nil (EN.then ?_))
  refine CG.cond rfl (fun h21 => ?_) (fun h21 => ?_)
  ·
   have hq2 : q < 15 := by omega
   have hbd := codesGo_bd ls hq hl
   have hgl := codesGo_len ls q
   have hgE : RI.codesGo ls (q + 1) = RI.codesRow (q + 1) ls 0 (2 * (RI.codesGo ls q).1, (RI.codesGo ls q).2) := by rw [RI.codesGo]
   obtain ⟨y, hy⟩ : ∃ y, RI.codesGo ls q = y := ⟨_, rfl⟩
   rw [hy] at hbd hgl hgE ⊢
   refine CG.skip (EN.ts (CG.block (CG.sr (G.mv ?_))))
   refine G.q rfl rfl rfl rfl (q_mul_i rfl rfl rfl oM) ?_
   rw [show (2 : Int) * y.1 = ((2 * y.1 : Nat) : Int) by omega]
   refine G.as ?_
   refine G.nil (EN.tsr (G.mv ?_))
   refine G.q rfl rfl rfl rfl (q_len_sl rfl rfl se_78_F5) (G.mv ?_)
   refine G.nil (EN.then (CG.block (CG.loopI (fun m L H => ∃ (k : Nat) (x : Nat × List (List Bool)) (vs : List Value) (v : Value), k ≤ ls.length ∧ m = ls.length - k ∧ vs.length = ls.length ∧ x.2.length = ls.length ∧ x.1 ≤ 2 * y.1 + k ∧ RI.codesGo ls (q + 1) = (RI.codesRow (q + 1) (ls.drop k) k x) ∧ L = [(0, .slice ad ls.length c), (3, v), (4, .int .i64 (x.1 : Nat)), (5, .int .i64 ((q + 1 : Nat) : Int)), (26, .slice ad ls.length c), (27, .int .i64 (ls.length : Nat)), (28, .int .i64 (k : Nat))] ∧ H = [own 125 1 v ls.length (vs), rowsH 4 vs ((x.2).map fun c => c.map bv), p] ++ F) (ls.length - 0) (hl := [_, _, _]) (⟨0, (2 * y.1, y.2), vs, v, Nat.zero_le _, rfl, hvs, hgl, by simp, hgE, rfl, rfl⟩) sB rfl tK sF ?_)))
   rintro m L H ⟨k, x, vs, v, hk, rfl, hvs, hxl, hxb, hgo, rfl, rfl⟩
   try dsimp only [List.cons_append, List.nil_append]
   refine CG.sr (G.q rfl rfl rfl rfl (q_lss rfl rfl rfl) (G.nil (EN.ts ?_)))
   refine CG.cond rfl (fun h29 => ?_) (fun h29 => ?_)
   ·
    have hk2 : k < ls.length := by omega
    obtain ⟨l, hl2⟩ := get_some (l := ls) (k := k) hk2
    rw [row_step hl2] at hgo
    refine CG.someRd mB hr (by simp; omega) (fun g0 o0 e => ?_)
    subst e
    refine CG.skip (EN.then ?_)
    refine CG.cut (fun L H => ∃ (x2 : Nat × List (List Bool)) (vs2 : List Value) (v2 : Value), vs2.length = ls.length ∧ x2.2.length = ls.length ∧ x2.1 ≤ 2 * y.1 + (k + 1) ∧ RI.codesGo ls (q + 1) = RI.codesRow (q + 1) (ls.drop (k + 1)) (k + 1) x2 ∧ L = [(0, .slice (some ⟨g0, o0, none⟩) ls.length c), (3, v2), (4, .int .i64 (x2.1 : Nat)), (5, .int .i64 ((q + 1 : Nat) : Int)), (26, .slice (some ⟨g0, o0, none⟩) ls.length c), (27, .int .i64 (ls.length : Nat)), (28, .int .i64 (k : Nat))] ∧ H = [own 125 1 v2 ls.length (vs2), rowsH 4 vs2 ((x2.2).map fun c => c.map bv), p] ++ F) ?_ ?_
    ·
     refine CG.block (CG.sr (G.mv ?_))
     refine G.q rfl rfl rfl rfl (q_ixad1 rfl rfl rfl se_78_F5 sz_3_F1 (hk2)) (G.r rfl rfl rfl rfl (r_loadRd rfl rfl ag_3_F1 mB hr (get_ivs hl2)) ?_)
     refine G.as ?_
     refine G.as ?_
     refine G.nil (EN.ts (CG.sr (G.mv ?_)))
     refine G.mv ?_
     refine G.q rfl rfl rfl rfl (q_neq rfl rfl rfl) (G.nil (EN.then ?_))
     refine CG.cond rfl (fun h35 => ?_) (fun h35 => ?_)
     ·
      rw [if_neg oM] at hgo
      refine CG.exit ?_
      refine EN.then_exit (EN.in_here ?_)
      exact EN.cut (hl := [_, _, _]) (by first | exact ⟨x, vs, v, hvs, hxl, by omega, hgo, rfl, rfl⟩ | exact ⟨(x.1 + 1, x.2.set k (cb x.1 (q + 1))), vs.set k (.slice a8 ((cb x.1 (q + 1)).map bv).length c8), .slice (some ⟨gv, 0, none⟩) ls.length capv, by rw [List.length_set]; exact hvs, by simp [hxl], by simp only; omega, hgo, rfl, rfl⟩) sB rfl tK sF
     ·
      obtain rfl : l = q + 1 := by omega
      rw [if_pos rfl] at hgo
      have hxb3 : x.1 ≤ 30000000 := by omega
      refine CG.skip (EN.tsr (G.e rfl rfl rfl rfl (e_bslice rfl rfl (bs_125_0_all_F35)) (fun _ _ _ _ _ _ => trivial) ?_))
      rintro _ _ ⟨b36, rfl, rfl⟩
      refine G.as ?_
      refine G.nil (EN.sub (sC 0 (sC 3 (sC 4 (sC 5 (sC 6 (sC 8 (sC 26 (sC 27 (sC 28 Sub.nil))))))))) ?_)
      refine EN.tsr (G.mv ?_)
      refine G.as ?_
      refine G.nil (EN.ts (CG.sr (G.as ?_)))
      refine G.nil (EN.then (CG.block (CG.closeOwn (g := b36) (sz := 1) (n := 0) (cap := 0) (xs := []) tK1 (by decide) (by decide) rfl rfl ?_)))
      rw [show own 4 1 (.slice (some ⟨b36, 0, none⟩) 0 0) 0 [] = own 4 1 (.slice (some ⟨b36, 0, none⟩) 0 0) (cb x.1 0).length ((cb x.1 0).map bv) by unfold cb; rfl, show Value.int .i64 (x.1 : Nat) = .int .i64 (x.1 : Nat) from rfl]
      refine CG.loopI (fun m L H => ∃ (j : Nat) (v8 : Value), j ≤ q + 1 ∧ m = q + 1 - j ∧ L = [(0, .slice (some ⟨g0, o0, none⟩) ls.length c), (3, v), (4, .int .i64 (x.1 : Nat)), (5, .int .i64 ((q + 1 : Nat) : Int)), (6, .int .i64 (k : Nat)), (8, v8), (9, .int .i64 (x.1 / 2 ^ j : Nat)), (10, .int .i64 (j : Nat)), (26, .slice (some ⟨g0, o0, none⟩) ls.length c), (27, .int .i64 (ls.length : Nat)), (28, .int .i64 (k : Nat))] ∧ H = [own 4 1 v8 (cb x.1 j).length ((cb x.1 j).map bv), own 125 1 v ls.length (vs), rowsH 4 vs ((x.2).map fun c => c.map bv), p] ++ F) (q + 1 - 0) (hl := [_, _, _, _]) (⟨0, _, Nat.zero_le _, rfl, by rw [Nat.pow_zero, Nat.div_one], rfl⟩) sB rfl tK sF ?_
      rintro m L H ⟨j, v8, hj, rfl, rfl, rfl⟩
      try dsimp only [List.cons_append, List.nil_append]
      have hdl : x.1 / 2 ^ j ≤ x.1 := Nat.div_le_self _ _
      have hcl := cb_len x.1 j
      refine CG.seq (CG.sr (G.mv ?_))
      refine G.mv ?_
      refine G.q rfl rfl rfl rfl (q_lss rfl rfl rfl) (G.nil (EN.then ?_))
      refine CG.cond rfl (fun h40 => ?_) (fun h40 => ?_)
      ·
       have hj2 : j < q + 1 := by omega
       generalize hy9 : x.1 / 2 ^ j = y9 at hdl ⊢
       refine CG.skip (EN.ts (CG.block (CG.sr (G.mv ?_))))
       refine G.q rfl rfl rfl rfl (q_rem_n rfl rfl rfl oM) (G.q rfl rfl rfl rfl (q_eql rfl rfl rfl) ?_)
       rw [bit_of hy9]
       refine G.e rfl rfl rfl rfl (e_bslice rfl rfl (bs_125_1_all_F35 _)) (fun _ _ _ _ _ _ => trivial) ?_
       rintro _ _ ⟨b46, rfl, rfl⟩
       refine G.mv ?_
       refine G.closeOwn (g := b46) (sz := 1) (n := 1) (cap := 1) (xs := ([x.1.testBit j] : List Bool).map bv) tK1 (by decide) (by decide) rfl rfl ?_
       refine G.e rfl rfl rfl rfl (e_appendA rfl rfl rfl se_125_F35 nf_4_F35 rfl tK1 (src_own se_125_F35 mB (bv_one _)) oM) (fun _ _ _ _ _ _ => trivial) ?_
       rintro _ _ rfl
       rw [own_consB, ← cb_succ]
       refine G.as ?_
       refine G.nil (EN.sub (sC 0 (sC 3 (sC 4 (sC 5 (sC 6 (sC 8 (sC 9 (sC 10 (sC 26 (sC 27 (sC 28 Sub.nil))))))))))) ?_)
       refine EN.tr ?_
       refine G.mv ?_
       refine G.q rfl rfl rfl rfl (q_quo_i rfl rfl rfl oM) (G.as ?_)
       refine G.nil (EN.in_normal (EN.tr ?_))
       refine G.mv ?_
       refine G.q rfl rfl rfl rfl (q_add_i rfl rfl rfl oM) (G.as ?_)
       refine G.nil ?_
       rw [show (y9 : Int) / 2 = ((x.1 / 2 ^ (j + 1) : Nat) : Int) by rw [← hy9]; exact div_half _ _]
       exact EN.round (hl := [_, _, _, _]) (q + 1 - (j + 1)) oM (⟨j + 1, _, by omega, rfl, rfl, rfl⟩) sB rfl tK sF
      ·
       obtain rfl : j = q + 1 := by omega
       refine CG.exit ?_
       refine EN.then_exit (EN.then_exit (EN.in_here ?_))
       refine EN.ts ?_
       refine CG.openOwn (v := v) tK1 oM (fun gv capv curv hv1 hcapv hmxv hclv hctv => ?_)
       subst hv1
       refine CG.fact (p := own 4 1 v8 (cb x.1 (q + 1)).length ((cb x.1 (q + 1)).map bv)) (α := ∃ a8 c8, v8 = .slice a8 (cb x.1 (q + 1)).length c8) tK1 (fun h hh => (by obtain ⟨_, _, a8, c8, e, _⟩ := own_shape hh; exact ⟨a8, c8, e⟩)) (fun hv8 => ?_)
       obtain ⟨a8, c8, rfl⟩ := hv8
       refine CG.reg (G.mv ?_)
       refine G.mv ?_
       refine G.mv ?_
       refine G.q rfl rfl rfl rfl (q_ixaddr1 rfl rfl rfl se_161_F36 sz_125_F36 (hk2)) ?_
       refine G.e0 rfl rfl rfl (e_store rfl rfl rfl sz_125_F36 rfl (Huff.set_of oM) .here) (fun _ _ _ _ _ _ => trivial) ?_
       rintro _ _ ⟨rfl, rfl⟩
       refine G.nil (EN.sub (sC 0 (sC 3 (sC 4 (sC 5 (sC 26 (sC 27 (sC 28 Sub.nil))))))) ?_)
       refine EN.then (CG.closeOwn (g := gv) (sz := 1) (n := ls.length) (cap := capv) (xs := vs.set k (.slice a8 (cb x.1 (q + 1)).length c8)) tK1 hcapv hmxv (by simpa using hclv) (by rw [Nat.mul_one] at hctv ⊢; rw [List.take_set, hctv]) ?_)
       rw [show (cb x.1 (q + 1)).length = ((cb x.1 (q + 1)).map bv).length by simp]
       refine CG.rowsSet k tK (by simpa using (by omega : k < x.2.length)) ?_
       rw [map_set_bv]
       refine CG.reg (G.mv ?_)
       refine G.q rfl rfl rfl rfl (q_add_i rfl rfl rfl oM) ?_
       rw [show (x.1 : Int) + 1 = ((x.1 + 1 : Nat) : Int) by omega]
       refine G.as ?_
       refine G.nil (EN.in_normal ?_)
       exact EN.cut (hl := [_, _, _]) (by first | exact ⟨x, vs, v, hvs, hxl, by omega, hgo, rfl, rfl⟩ | exact ⟨(x.1 + 1, x.2.set k (cb x.1 (q + 1))), vs.set k (.slice a8 ((cb x.1 (q + 1)).map bv).length c8), .slice (some ⟨gv, 0, none⟩) ls.length capv, by rw [List.length_set]; exact hvs, by simp [hxl], by simp only; omega, hgo, rfl, rfl⟩) sB rfl tK sF
    ·
     rintro L H ⟨x2, vs2, v2, hvs2, hxl2, hxb2, hgo2, rfl, rfl⟩
     try dsimp only [List.cons_append, List.nil_append]
     refine CG.reg (G.q rfl rfl rfl rfl (q_add_i rfl rfl rfl oM) (G.mv ?_))
     refine G.nil ?_
     rw [show (k : Int) + 1 = ((k + 1 : Nat) : Int) by omega]
     exact EN.round (hl := [_, _, _]) (ls.length - (k + 1)) oM (⟨k + 1, x2, vs2, v2, by omega, rfl, hvs2, hxl2, hxb2, hgo2, rfl, rfl⟩) sB rfl tK sF
   ·
    obtain rfl : k = ls.length := by omega
    rw [List.drop_length, RI.codesRow] at hgo
    have hgoE := hgo.symm
    refine CG.exit ?_
    refine EN.then_exit (EN.then_exit (EN.in_here ?_))
    refine EN.in_normal (EN.tr ?_)
    refine G.mv ?_
    refine G.q rfl rfl rfl rfl (q_add_i rfl rfl rfl oM) (G.as ?_)
    refine G.nil ?_
    rw [hgoE, show ((q + 1 : Nat) : Int) + 1 = ((q + 1 + 1 : Nat) : Int) by omega]
    exact EN.round (hl := [_, _, _]) (15 - (q + 1)) oM (⟨q + 1, vs, _, by omega, rfl, hvs, rfl, rfl⟩) sB rfl tK sF
  ·
   obtain rfl : q = 15 := by omega
   refine CG.exit ?_
   refine EN.then_exit (EN.then_exit (EN.in_here ?_))
   refine EN.tsr (G.mv ?_)
   refine G.as ?_
   refine G.nil (EN.then (CG.ret ?_))
   exact fin_ret1 rfl rfl tK sF (⟨vs, hvs, rfl⟩) _ (.inl rfl)

end Go.Eng
/-
  The reference (ref05): dynamic.
-/
set_option linter.unusedVariables false
set_option linter.unusedSimpArgs false
namespace Go.Eng
open Go.Proofs
theorem bd_111_F40 : bodied Tryz.prog 111 = true := by kernel_rfl
theorem bd_113_F40 : bodied Tryz.prog 113 = true := by kernel_rfl
theorem bd_114_F40 : bodied Tryz.prog 114 = true := by kernel_rfl
theorem bs_78_19_all_F40 : ∀ (x0 : Int) (x1 : Int) (x2 : Int) (x3 : Int) (x4 : Int) (x5 : Int) (x6 : Int) (x7 : Int) (x8 : Int) (x9 : Int) (x10 : Int) (x11 : Int) (x12 : Int) (x13 : Int) (x14 : Int) (x15 : Int) (x16 : Int) (x17 : Int) (x18 : Int) (w : World), (Instr.buildSlice 78 19 [(0, .int .i64 x0), (1, .int .i64 x1), (2, .int .i64 x2), (3, .int .i64 x3), (4, .int .i64 x4), (5, .int .i64 x5), (6, .int .i64 x6), (7, .int .i64 x7), (8, .int .i64 x8), (9, .int .i64 x9), (10, .int .i64 x10), (11, .int .i64 x11), (12, .int .i64 x12), (13, .int .i64 x13), (14, .int .i64 x14), (15, .int .i64 x15), (16, .int .i64 x16), (17, .int .i64 x17), (18, .int .i64 x18)].toArray).run Tryz.prog w = .ok (.slice (some ⟨w.heap.size, 0, none⟩) 19 19) { w with heap := w.heap.push (.cells [.int .i64 x0, .int .i64 x1, .int .i64 x2, .int .i64 x3, .int .i64 x4, .int .i64 x5, .int .i64 x6, .int .i64 x7, .int .i64 x8, .int .i64 x9, .int .i64 x10, .int .i64 x11, .int .i64 x12, .int .i64 x13, .int .i64 x14, .int .i64 x15, .int .i64 x16, .int .i64 x17, .int .i64 x18].toArray 3) } := fun _ _ _ _ _ _ _ _ _ _ _ _ _ _ _ _ _ _ _ _ => by kernel_rfl

theorem EN.triv {w0 : World} {N : Nat} {Q : Exit → Act → World → Prop} {D : List Deferred} {L : List (Nat × Value)} {H : List HP} {e : Exit} (k : EN w0 N Q e D L ((fun _ => True) :: H)) : EN w0 N Q e D L H := fun a w hf hw => k a w hf ⟨star_cons.2 ⟨fun _ => False, trivial, by simpa using hw.sat⟩, hw.os, hw.tape, hw.output⟩
theorem failIf_p {e : Nat} {s : RI.St} {q : Prop} [Decidable q] (h : q) : RI.failIf q e s = RI.fail e s := by
  unfold RI.failIf
  by_cases h0 : s.err = 0
  · rw [if_pos ⟨h0, h⟩]
  · rw [if_neg (fun x => h0 x.1), fail_f h0]
theorem failIf_n {e : Nat} {s : RI.St} {q : Prop} [Decidable q] (h : ¬ q) : RI.failIf q e s = s := if_neg (fun x => h x.2)
theorem failIf_ok {e : Nat} {s : RI.St} {q : Prop} [Decidable q] (he : e ≠ 0) (h : (RI.failIf q e s).err = 0) : ¬ q ∧ RI.failIf q e s = s := by
  by_cases hq : q
  · rw [failIf_p hq] at h
    unfold RI.fail at h
    split at h
    · exact absurd h he
    · rename_i h0; exact absurd h h0
  · exact ⟨hq, failIf_n hq⟩
theorem fail_err {e : Nat} {s : RI.St} (he : e ≠ 0) : (RI.fail e s).err ≠ 0 := by
  unfold RI.fail; split
  · exact he
  · assumption
theorem clGo_stop {B : List Bool} {os : List Nat} {f : List Nat} {s : RI.St} (h : s.err ≠ 0) : RI.clGo B os f s = (f, s) := by cases os with | nil => rfl | cons o os => rw [RI.clGo, if_pos h]
theorem lensGo_stop {B : List Bool} {cs : List (List Bool)} {t m : Nat} {l : List Nat} {s : RI.St} (h : t ≤ l.length ∨ s.err ≠ 0) : RI.lensGo B cs t m l s = (l, s) := by cases m with | zero => rfl | succ m => rw [RI.lensGo, if_pos h]
theorem symbol_pos {B : List Bool} {cs : List (List Bool)} {s : RI.St} (h : s.pos ≤ B.length) : (RI.symbol B cs s).2.pos ≤ B.length ∧ (RI.symbol B cs s).2.out = s.out ∧ (0 < cs.length → (RI.symbol B cs s).1 < cs.length) := by
  unfold RI.symbol
  have hl := read4_le cs ((B.drop s.pos).take 16)
  have hlt : (RI.read4 cs ((B.drop s.pos).take 16)).2.2 = 0 → (RI.read4 cs ((B.drop s.pos).take 16)).1 < cs.length := by
    unfold RI.read4
    cases hf : RI.find ((B.drop s.pos).take 16) cs 0 with
    | some p => have := find_spec _ cs 0 p hf; intro _; simp only; omega
    | none => dsimp only; split <;> (try split) <;> intro h <;> cases h
  generalize RI.read4 cs ((B.drop s.pos).take 16) = x at hl hlt
  rw [List.length_take, List.length_drop] at hl
  split
  · exact ⟨h, rfl, fun h => h⟩
  · dsimp only
    split
    · exact ⟨by rw [fail_out.2]; exact h, fail_out.1, fun h => h⟩
    · exact ⟨by simp only; omega, rfl, fun _ => hlt (by omega)⟩
theorem codes_len (ls : List Nat) : (RI.codes ls).length = ls.length := codesGo_len ls 15
theorem codesRow_el (n : Nat) (hn : n ≤ 15) : ∀ (l : List Nat) (i : Nat) (x : Nat × List (List Bool)), (∀ y ∈ x.2, y.length ≤ 15) → ∀ y ∈ (RI.codesRow n l i x).2, y.length ≤ 15
  | [], _, _, h => h
  | l :: ls, i, x, h => by
    rw [RI.codesRow]
    refine codesRow_el n hn ls _ _ ?_
    split
    · intro y hy
      rcases List.mem_or_eq_of_mem_set hy with h1 | h1
      · exact h y h1
      · rw [h1, cb_len]; exact hn
    · exact h
theorem codesGo_el (ls : List Nat) : ∀ q, q ≤ 15 → ∀ y ∈ (RI.codesGo ls q).2, y.length ≤ 15
  | 0, _ => by intro y hy; unfold RI.codesGo at hy; have := List.eq_of_mem_replicate hy; rw [this]; simp
  | q + 1, h => by rw [RI.codesGo]; exact codesRow_el (q + 1) h ls 0 _ (codesGo_el ls q (by omega))
theorem codes_el (ls : List Nat) : ∀ y ∈ RI.codes ls, y.length ≤ 1000 := fun y hy => Nat.le_trans (codesGo_el ls 15 (Nat.le_refl _) y hy) (by decide)
theorem own_repI {e : Nat} {u : Value} {l : List Nat} {j x : Nat} : own e 1 u ((l ++ List.replicate j x).length + 1) ((l ++ List.replicate j x).map iv ++ [.int .i64 (x : Int)]) = own e 1 u (l ++ List.replicate (j + 1) x).length ((l ++ List.replicate (j + 1) x).map iv) := by
  rw [own_snocI, List.append_assoc, ← List.replicate_succ']
theorem rd_take {p : HP} {ad : Option Addr} {l : List Nat} {m : Nat} (h : RdA p ad (l.map iv)) : RdA p ad ((l.take m).map iv) := by
  intro S w hh i v hi
  refine h S w hh i v ?_
  rw [List.map_take, List.getElem?_take] at hi
  split at hi
  · exact hi
  · cases hi
theorem rd_drop {p : HP} {ad : Option Addr} {l : List Nat} {c m : Nat} (h : RdA p ad (l.map iv)) (hc : l.length ≤ c) : RdA p (adLH c m 1 ad) ((l.drop m).map iv) := by
  have := rd_sub (l := m) (m := l.length) h (by rw [List.length_map]; exact hc)
  rw [← List.map_drop, List.take_of_length_le (by simp)] at this
  exact this

attribute [local irreducible] cel celZ own ownM ownG exS bb wb rowsH RI.number RI.symbol RI.fail RI.failIf RI.check RI.codes RI.lensGo RI.clGo

set_option maxRecDepth 100000 in
set_option maxHeartbeats 1000000 in
theorem dynamic_spec (b c most : Nat) (ad : Option Addr) (B : List Bool) (s : RI.St) (w : Value) (p : HP) (hB : RdA p ad (B.map bv)) (hBc : B.length ≤ c) (hBl : B.length ≤ 10000000000) (hsp : s.pos ≤ B.length) (he : s.err = 0) : Spec Tryz.prog 87 #[.pointer (some ⟨b, 0, none⟩)] [cel b 128 [.slice ad B.length c, .int .i64 ((s).pos : Nat), w, .int .i64 (most : Nat), .int .i64 ((s).err : Nat)], p] (Ret fun v hl => ∃ (a1 a2 : Option Addr) (n1 c1 n2 c2 : Nat) (q : HP), v = .tuple #[.slice a1 n1 c1, .slice a2 n2 c2] ∧ hl = [cel b 128 [.slice ad B.length c, .int .i64 (((RI.dynamic B s).2.2).pos : Nat), w, .int .i64 (most : Nat), .int .i64 (((RI.dynamic B s).2.2).err : Nat)], q, p] ∧ RdA q a1 ((RI.dynamic B s).1.map iv) ∧ RdA q a2 ((RI.dynamic B s).2.1.map iv) ∧ (RI.dynamic B s).1.length = n1 ∧ (RI.dynamic B s).2.1.length = n2) := by
 obtain ⟨T, hT⟩ : ∃ T, RI.dynamic B s = T := ⟨_, rfl⟩
 have hE := hT
 unfold RI.dynamic at hE
 rw [hT]
 refine Spec.enter Tryz.func87 rfl rfl rfl (fun F w0 => ?_)
 dsimp only [argL, List.cons_append, List.nil_append]
 refine CG.sr (G.as ?_)
 refine G.as ?_
 refine G.nil (EN.then ?_)
 refine CG.cut (fun L H => ∃ s0, RI.failIf (B.length < s.pos + 14) 6 s = s0 ∧ L = [(0, .pointer (some ⟨b, 0, none⟩))] ∧ H = [cel b 128 [.slice ad B.length c, .int .i64 ((s0).pos : Nat), w, .int .i64 (most : Nat), .int .i64 ((s0).err : Nat)], p] ++ F) ?_ ?_
 ·
  refine CG.seq ?_
  refine CG.regT [] mixed (by kernel_rfl) ?_
  refine G.mv ?_
  refine G.np ?_
  refine G.q rfl rfl rfl rfl (q_field0 rfl rfl fo_128_4_F37) (G.ld ag_3_F1 ?_)
  refine G.q rfl rfl rfl rfl (q_eql rfl rfl rfl) (G.mv ?_)
  refine G.split (t := 21) rfl (fun g21 => ?_) (fun g21 => absurd oM g21)
  refine G.mv ?_
  refine G.np ?_
  refine G.q rfl rfl rfl rfl (q_field0 rfl rfl fo_128_0_F37) (G.ld ag_125_F36 ?_)
  refine G.q rfl rfl rfl rfl (q_len_sl rfl rfl se_125_F35) (G.mv ?_)
  refine G.np ?_
  refine G.q rfl rfl rfl rfl (q_field0 rfl rfl fo_128_1_F37) (G.ld ag_3_F1 ?_)
  refine G.q rfl rfl rfl rfl (q_sub_i rfl rfl rfl oM) (G.q rfl rfl rfl rfl (q_lss rfl rfl rfl) (G.q rfl rfl rfl rfl (q_pick_t rfl rfl rfl) (G.nil (EN.sub (sC 0 (sC 2 (sC 3 (sC 33 Sub.nil)))) ?_))))
  refine EN.then ?_
  refine CG.cond rfl (fun h33 => ?_) (fun h33 => ?_)
  ·
   have hF : RI.failIf (B.length < s.pos + 14) 6 s = RI.fail 6 s := failIf_p oM
   refine CG.reg (G.mv ?_)
   refine G.call (xs := [_, _]) rfl rfl (fail_spec b (.slice ad B.length c) most 6 s w) bd_82_F37 rfl rfl rfl rfl tK (fun _ _ _ _ _ _ => trivial) ?_
   rintro _ _ ⟨rfl, rfl⟩
   try dsimp only [List.cons_append, List.nil_append]
   refine G.nil ?_
   exact EN.cut (hl := [_, _]) (⟨_, hF, rfl, rfl⟩) sB rfl tK sF
  ·
   have hF : RI.failIf (B.length < s.pos + 14) 6 s = s := failIf_n oM
   refine CG.skip ?_
   exact EN.cut (hl := [_, _]) (⟨_, hF, rfl, rfl⟩) sB rfl tK sF
 ·
  rintro L H ⟨s0, hF, rfl, rfl⟩
  try dsimp only [List.cons_append, List.nil_append]
  have hs0p : s0.pos ≤ B.length := by rw [← hF, failIf_out.2]; exact hsp
  rw [hF] at hE
  refine CG.sr (G.mv ?_)
  refine G.call (xs := [_, _]) rfl rfl (number5_spec b c most ad B (s0) w 5 p hB hBc oM oM (by decide)) bd_83_F38 rfl rfl rfl rfl tK (fun _ _ _ _ _ _ => trivial) ?_
  rintro _ _ ⟨rfl, rfl⟩
  obtain ⟨x, hx⟩ : ∃ w9, RI.number B 5 (s0) = w9 := ⟨_, rfl⟩
  have hxp := number_pos (n := 5) hs0p
  have hxl := number_lt (B := B) (n := 5) (s := s0)
  rw [hx] at hxp hxl ⊢
  rw [hx] at hE
  try dsimp only at hE
  try dsimp only [List.cons_append, List.nil_append]
  refine G.q rfl rfl rfl rfl (q_add_i rfl rfl rfl oM) (G.mv ?_)
  refine G.call (xs := [_, _]) rfl rfl (number5_spec b c most ad B (x.2) w 5 p hB hBc oM oM (by decide)) bd_83_F38 rfl rfl rfl rfl tK (fun _ _ _ _ _ _ => trivial) ?_
  rintro _ _ ⟨rfl, rfl⟩
  obtain ⟨y, hy⟩ : ∃ w9, RI.number B 5 (x.2) = w9 := ⟨_, rfl⟩
  have hyp := number_pos (n := 5) hxp
  have hyl := number_lt (B := B) (n := 5) (s := x.2)
  rw [hy] at hyp hyl ⊢
  rw [hy] at hE
  try dsimp only at hE
  try dsimp only [List.cons_append, List.nil_append]
  refine G.q rfl rfl rfl rfl (q_add_i rfl rfl rfl oM) (G.mv ?_)
  refine G.call (xs := [_, _]) rfl rfl (number5_spec b c most ad B (y.2) w 4 p hB hBc oM oM (by decide)) bd_83_F38 rfl rfl rfl rfl tK (fun _ _ _ _ _ _ => trivial) ?_
  rintro _ _ ⟨rfl, rfl⟩
  obtain ⟨z, hz⟩ : ∃ w9, RI.number B 4 (y.2) = w9 := ⟨_, rfl⟩
  have hzp := number_pos (n := 4) hyp
  have hzl := number_lt (B := B) (n := 4) (s := y.2)
  rw [hz] at hzp hzl ⊢
  rw [hz] at hE
  try dsimp only at hE
  try dsimp only [List.cons_append, List.nil_append]
  refine G.q rfl rfl rfl rfl (q_add_i rfl rfl rfl oM) (G.as ?_)
  refine G.as ?_
  refine G.as ?_
  refine G.nil (EN.sub (sC 0 (sC 4 (sC 5 (sC 6 Sub.nil)))) ?_)
  refine EN.then ?_
  refine CG.cut (fun L H => ∃ (s1 : RI.St) (nl nd nc : Nat), RI.dyn2 B nl nd nc s1 = T ∧ s1.pos ≤ B.length ∧ 257 ≤ nl ∧ nl ≤ 288 ∧ 1 ≤ nd ∧ nd ≤ 32 ∧ nc ≤ 19 ∧ L = [(0, .pointer (some ⟨b, 0, none⟩)), (4, .int .i64 (nl : Nat)), (5, .int .i64 (nd : Nat)), (6, .int .i64 (nc : Nat))] ∧ H = [cel b 128 [.slice ad B.length c, .int .i64 ((s1).pos : Nat), w, .int .i64 (most : Nat), .int .i64 ((s1).err : Nat)], p] ++ F) ?_ ?_
  ·
   refine CG.seq ?_
   have hb5 : x.1 < 32 ∧ y.1 < 32 ∧ z.1 < 16 := ⟨hxl, hyl, hzl⟩
   obtain ⟨nl, hnl⟩ : ∃ n, x.1 + 257 = n := ⟨_, rfl⟩
   obtain ⟨nd, hnd⟩ : ∃ n, y.1 + 1 = n := ⟨_, rfl⟩
   obtain ⟨nc, hnc⟩ : ∃ n, z.1 + 4 = n := ⟨_, rfl⟩
   rw [hnl, hnd, hnc] at hE
   rw [show (x.1 : Int) + 257 = nl by omega, show (y.1 : Int) + 1 = nd by omega, show (z.1 : Int) + 4 = nc by omega]
   refine CG.reg (G.mv ?_)
   refine G.q rfl rfl rfl rfl (q_gtr rfl rfl rfl) (G.mv ?_)
   refine G.split (t := 47) rfl (fun g47 => ?_) (fun g47 => ?_)
   ·
    have hF1 : RI.failIf (286 < nl ∨ 30 < nd) 3 z.2 = RI.fail 3 z.2 := failIf_p (.inl oM)
    refine G.skip rfl rfl rfl (G.skip rfl rfl rfl (G.q rfl rfl rfl rfl (q_pick_t rfl rfl rfl) (G.nil (EN.then (CG.cond_t rfl ?_)))))
    refine CG.reg (G.mv ?_)
    refine G.call (xs := [_, _]) rfl rfl (fail_spec b (.slice ad B.length c) most 3 z.2 w) bd_82_F37 rfl rfl rfl rfl tK (fun _ _ _ _ _ _ => trivial) ?_
    rintro _ _ ⟨rfl, rfl⟩
    try dsimp only [List.cons_append, List.nil_append]
    refine G.nil ?_
    unfold RI.dyn1 at hE
    have hpz : (RI.failIf (286 < nl ∨ 30 < nd) 3 z.2).pos ≤ B.length := by rw [failIf_out.2]; exact hzp
    rw [hF1] at hE hpz
    exact EN.cut (hl := [_, _]) (⟨_, nl, nd, nc, hE, hpz, by omega, by omega, by omega, by omega, by omega, rfl, rfl⟩) sB rfl tK sF
   ·
    refine G.mv ?_
    refine G.q rfl rfl rfl rfl (q_gtr rfl rfl rfl) (G.q rfl rfl rfl rfl (q_pick_f rfl rfl rfl) (G.nil (EN.then ?_)))
    refine CG.cond rfl (fun h50 => ?_) (fun h50 => ?_)
    ·
     have hF1 : RI.failIf (286 < nl ∨ 30 < nd) 3 z.2 = RI.fail 3 z.2 := failIf_p (.inr oM)
     refine CG.reg (G.mv ?_)
     refine G.call (xs := [_, _]) rfl rfl (fail_spec b (.slice ad B.length c) most 3 z.2 w) bd_82_F37 rfl rfl rfl rfl tK (fun _ _ _ _ _ _ => trivial) ?_
     rintro _ _ ⟨rfl, rfl⟩
     try dsimp only [List.cons_append, List.nil_append]
     refine G.nil ?_
     unfold RI.dyn1 at hE
     have hpz : (RI.failIf (286 < nl ∨ 30 < nd) 3 z.2).pos ≤ B.length := by rw [failIf_out.2]; exact hzp
     rw [hF1] at hE hpz
     exact EN.cut (hl := [_, _]) (⟨_, nl, nd, nc, hE, hpz, by omega, by omega, by omega, by omega, by omega, rfl, rfl⟩) sB rfl tK sF
    ·
     have hF1 : RI.failIf (286 < nl ∨ 30 < nd) 3 z.2 = z.2 := failIf_n oM
     refine CG.skip ?_
     unfold RI.dyn1 at hE
     have hpz : (RI.failIf (286 < nl ∨ 30 < nd) 3 z.2).pos ≤ B.length := by rw [failIf_out.2]; exact hzp
     rw [hF1] at hE hpz
     exact EN.cut (hl := [_, _]) (⟨_, nl, nd, nc, hE, hpz, by omega, by omega, by omega, by omega, by omega, rfl, rfl⟩) sB rfl tK sF
  ·
   rintro L H ⟨s1, nl, nd, nc, hE, hs1p, hnl1, hnl2, hnd1, hnd2, hnc2, rfl, rfl⟩
   try dsimp only [List.cons_append, List.nil_append]
   unfold RI.dyn2 at hE
   obtain ⟨Z, hZ⟩ : ∃ Z, RI.clGo B (Infl.order.take nc) (List.replicate 19 0) s1 = Z := ⟨_, rfl⟩
   rw [hZ] at hE
   try dsimp only at hE
   refine CG.sr (G.e rfl rfl rfl rfl (e_makeSlice (n := 19) rfl rfl rfl se_78_F5 nf_3_F5 oM) (fun _ _ _ _ _ _ => trivial) ?_)
   rintro _ _ ⟨b53, rfl, rfl⟩
   refine G.as ?_
   refine G.nil (EN.tsr (G.e rfl rfl rfl rfl (e_bslice rfl rfl (bs_78_19_all_F40 _ _ _ _ _ _ _ _ _ _ _ _ _ _ _ _ _ _ _)) (fun _ _ _ _ _ _ => trivial) ?_))
   rintro _ _ ⟨b54, rfl, rfl⟩
   refine G.as ?_
   refine G.nil (EN.then ?_)
   refine CG.cut (fun L H => ∃ (f : List Nat) (s2 : RI.St), Z = (f, s2) ∧ f.length = 19 ∧ (∀ x ∈ f, x ≤ 15) ∧ s2.pos ≤ B.length ∧ L = [(0, .pointer (some ⟨b, 0, none⟩)), (4, .int .i64 (nl : Nat)), (5, .int .i64 (nd : Nat)), (7, .slice (some ⟨b53, 0, none⟩) f.length 19)] ∧ H = [cel b53 3 (f.map iv), cel b 128 [.slice ad B.length c, .int .i64 ((s2).pos : Nat), w, .int .i64 (most : Nat), .int .i64 ((s2).err : Nat)], p] ++ F) ?_ ?_
   ·
    refine CG.sr (G.as ?_)
    refine G.nil (EN.then (CG.block (CG.loopI (fun m L H => ∃ (k : Nat) (f : List Nat) (s2 : RI.St), k ≤ nc ∧ m = nc - k ∧ f.length = 19 ∧ (∀ x ∈ f, x ≤ 15) ∧ s2.pos ≤ B.length ∧ RI.clGo B ((Infl.order.take nc).drop k) f s2 = Z ∧ L = [(0, .pointer (some ⟨b, 0, none⟩)), (4, .int .i64 (nl : Nat)), (5, .int .i64 (nd : Nat)), (6, .int .i64 (nc : Nat)), (7, .slice (some ⟨b53, 0, none⟩) f.length 19), (8, .slice (some ⟨b54, 0, none⟩) 19 19), (9, .int .i64 (k : Nat))] ∧ H = [cel b53 3 (f.map iv), cel b54 3 (Infl.order.map iv), cel b 128 [.slice ad B.length c, .int .i64 ((s2).pos : Nat), w, .int .i64 (most : Nat), .int .i64 ((s2).err : Nat)], p] ++ F) (nc - 0) (hl := [_, _, _, _]) (⟨0, List.replicate 19 0, s1, Nat.zero_le _, rfl, rfl, by intro x hx; have := List.eq_of_mem_replicate hx; omega, hs1p, hZ, rfl, rfl⟩) sB rfl tK sF ?_)))
    rintro m L H ⟨k, f, s2, hk, rfl, hfl, hf15, hs2p, hgo, rfl, rfl⟩
    try dsimp only [List.cons_append, List.nil_append]
    refine CG.seq (CG.sr (G.mv ?_))
    refine G.mv ?_
    refine G.q rfl rfl rfl rfl (q_lss rfl rfl rfl) (G.mv ?_)
    refine G.split (t := 58) rfl (fun g58 => ?_) (fun g58 => ?_)
    ·
     refine G.mv ?_
     refine G.np ?_
     refine G.q rfl rfl rfl rfl (q_field0 rfl rfl fo_128_4_F37) (G.ld ag_3_F1 ?_)
     refine G.q rfl rfl rfl rfl (q_eql rfl rfl rfl) (G.q rfl rfl rfl rfl (q_pick_t rfl rfl rfl) (G.nil (EN.sub (sC 0 (sC 4 (sC 5 (sC 6 (sC 7 (sC 8 (sC 9 (sC 64 Sub.nil)))))))) ?_)))
     refine EN.then ?_
     refine CG.cond rfl (fun h64 => ?_) (fun h64 => ?_)
     ·
      obtain ⟨o, ho⟩ := get_some (l := Infl.order) (k := k) (by have : Infl.order.length = 19 := rfl; omega)
      have ho18 : o ≤ 18 := (by decide : ∀ x ∈ Infl.order, x ≤ 18) o (List.mem_of_getElem? ho)
      have hk19 : k < 19 := by omega
      rw [drop_cons (o := o) (by rw [List.getElem?_take, if_pos oM]; exact ho), RI.clGo, if_neg oM] at hgo
      refine CG.skip (EN.ts (CG.block ?_))
      refine CG.regC [71] (Keeps _ [cel b54 3 (Infl.order.map iv)]) mixed (by kernel_rfl) (fun w hw => Keeps.of hw tK) ?_
      refine G.mv ?_
      refine G.mv ?_
      refine G.mv ?_
      refine G.q rfl rfl rfl rfl (q_ixaddr1 rfl rfl rfl se_78_F5 sz_3_F1 (hk19)) (G.rK rfl rfl rfl rfl rfl (fun R => r_load rfl rfl ag_3_F1 mB (by rw [nth_eq]; exact get_iv ho)) ?_)
      refine G.mv ?_
      refine G.call (xs := [_, _]) rfl rfl (number5_spec b c most ad B (s2) w 3 p hB hBc oM oM (by decide)) bd_83_F38 rfl rfl rfl rfl tK (fun _ _ _ w hR hw => by obtain ⟨_, rfl⟩ := hR; exact Keeps.of hw tK) ?_
      rintro _ _ ⟨rfl, rfl⟩
      obtain ⟨y, hy⟩ : ∃ w9, RI.number B 3 (s2) = w9 := ⟨_, rfl⟩
      have hyp := number_pos (n := 3) hs2p
      have hyl := number_lt (B := B) (n := 3) (s := s2)
      rw [hy] at hyp hyl ⊢
      rw [hy] at hgo
      have hy8 : y.1 < 8 := hyl
      have hfs : f.length = (f.set o y.1).length := by simp
      have hfl2 : (f.set o y.1).length = 19 := by simpa using hfl
      have hf2 : ∀ x ∈ f.set o y.1, x ≤ 15 := by
        intro x hx
        rcases List.mem_or_eq_of_mem_set hx with h1 | h1
        · exact hf15 x h1
        · omega
      try dsimp only [List.cons_append, List.nil_append]
      refine G.q rfl rfl rfl rfl (q_ixaddr1 rfl rfl rfl se_78_F5 sz_3_F1 oM) ?_
      refine G.e0 rfl rfl rfl (e_store rfl rfl rfl sz_3_F1 rfl (set_iv oM) (.there (.there .here))) (fun _ _ _ w hR hw => by obtain ⟨_, rfl⟩ := hR; exact Keeps.of hw tK) ?_
      rintro _ _ ⟨rfl, rfl⟩
      refine G.nil (EN.sub (sC 0 (sC 4 (sC 5 (sC 6 (sC 7 (sC 8 (sC 9 Sub.nil))))))) ?_)
      refine EN.in_normal (EN.tr ?_)
      refine G.mv ?_
      refine G.q rfl rfl rfl rfl (q_add_i rfl rfl rfl oM) (G.as ?_)
      refine G.nil ?_
      rw [hfs, show (k : Int) + 1 = ((k + 1 : Nat) : Int) by omega]
      exact EN.round (hl := [_, _, _, _]) (nc - (k + 1)) oM (⟨k + 1, _, _, by omega, rfl, hfl2, hf2, hyp, hgo, rfl, rfl⟩) sB rfl tK sF
     ·
      have hZ2 : Z = (f, s2) := by rw [← hgo]; exact clGo_stop oM
      refine CG.exit ?_
      refine EN.then_exit (EN.then_exit (EN.in_here ?_))
      exact EN.cut (hl := [_, _, _]) (⟨f, s2, hZ2, hfl, hf15, hs2p, rfl, rfl⟩) sB rfl tK sF
    ·
     obtain rfl : k = nc := by omega
     have hZ2 : Z = (f, s2) := by rw [← hgo, List.drop_eq_nil_of_le (by simp; omega)]; unfold RI.clGo; rfl
     refine G.skip rfl rfl rfl (G.skip rfl rfl rfl (G.skip rfl rfl rfl (G.skip rfl rfl rfl (G.skip rfl rfl rfl (G.q rfl rfl rfl rfl (q_pick_f rfl rfl rfl) ?_)))))
     refine G.nil (EN.sub (sC 0 (sC 4 (sC 5 (sC 6 (sC 7 (sC 8 (sC 9 (sC 64 Sub.nil)))))))) ?_)
     refine EN.then (CG.cond_f rfl ?_)
     refine CG.exit ?_
     refine EN.then_exit (EN.then_exit (EN.in_here ?_))
     exact EN.cut (hl := [_, _, _]) (⟨f, s2, hZ2, hfl, hf15, hs2p, rfl, rfl⟩) sB rfl tK sF
   ·
    rintro L H ⟨f, s2, hZ2, hfl, hf15, hs2p, rfl, rfl⟩
    try dsimp only [List.cons_append, List.nil_append]
    rw [hZ2] at hE
    try dsimp only at hE
    have hrf : RdA (cel b53 3 (f.map iv)) (some ⟨b53, 0, none⟩) (f.map iv) := rd_cel (n := f.length) (by rw [List.take_of_length_le (by simp)])
    refine CG.cut (fun L H => ∃ s3 : RI.St, RI.dyn3 B nl nd f s3 = T ∧ s3.pos ≤ B.length ∧ L = [(0, .pointer (some ⟨b, 0, none⟩)), (4, .int .i64 (nl : Nat)), (5, .int .i64 (nd : Nat)), (7, .slice (some ⟨b53, 0, none⟩) f.length 19)] ∧ H = [cel b53 3 (f.map iv), cel b 128 [.slice ad B.length c, .int .i64 ((s3).pos : Nat), w, .int .i64 (most : Nat), .int .i64 ((s3).err : Nat)], p] ++ F) ?_ ?_
    ·
     refine CG.sr (G.mv ?_)
     refine G.np ?_
     refine G.q rfl rfl rfl rfl (q_field0 rfl rfl fo_128_4_F37) (G.ld ag_3_F1 ?_)
     refine G.q rfl rfl rfl rfl (q_eql rfl rfl rfl) (G.mv ?_)
     refine G.split (t := 80) rfl (fun g80 => ?_) (fun g80 => ?_)
     ·
      refine G.mv ?_
      refine G.call (xs := [_]) rfl rfl (check04_spec (some ⟨b53, 0, none⟩) f.length 19 f _ hrf rfl hf15 oM) bd_114_F40 rfl rfl rfl rfl tK (fun _ _ _ _ _ _ => trivial) ?_
      rintro _ _ ⟨rfl, rfl⟩
      try dsimp only [List.cons_append, List.nil_append]
      refine G.q rfl rfl rfl rfl (q_neq rfl rfl rfl) (G.q rfl rfl rfl rfl (q_pick_t rfl rfl rfl) (G.nil (EN.sub (sC 0 (sC 4 (sC 5 (sC 7 (sC 84 Sub.nil))))) ?_)))
      refine EN.then ?_
      refine CG.cond rfl (fun h84 => ?_) (fun h84 => ?_)
      ·
       have hF3 : RI.failIf (RI.check f ≠ 0) 3 s2 = RI.fail 3 s2 := failIf_p oM
       refine CG.reg (G.mv ?_)
       refine G.call (xs := [_, _]) rfl rfl (fail_spec b (.slice ad B.length c) most 3 s2 w) bd_82_F37 rfl rfl rfl rfl tK (fun _ _ _ _ _ _ => trivial) ?_
       rintro _ _ ⟨rfl, rfl⟩
       try dsimp only [List.cons_append, List.nil_append]
       refine G.nil ?_
       have hpz : (RI.failIf (RI.check f ≠ 0) 3 s2).pos ≤ B.length := by rw [failIf_out.2]; exact hs2p
       rw [hF3] at hE hpz
       exact EN.cut (hl := [_, _, _]) (⟨_, hE, hpz, rfl, rfl⟩) sB rfl tK sF
      ·
       have hF3 : RI.failIf (RI.check f ≠ 0) 3 s2 = s2 := failIf_n oM
       refine CG.skip ?_
       have hpz : (RI.failIf (RI.check f ≠ 0) 3 s2).pos ≤ B.length := by rw [failIf_out.2]; exact hs2p
       rw [hF3] at hE hpz
       exact EN.cut (hl := [_, _, _]) (⟨_, hE, hpz, rfl, rfl⟩) sB rfl tK sF
     ·
      have hF3 : RI.failIf (RI.check f ≠ 0) 3 s2 = s2 := failIf_f (fun h => g80 oM)
      refine G.skip rfl rfl rfl (G.skip rfl rfl rfl (G.skip rfl rfl rfl (G.q rfl rfl rfl rfl (q_pick_f rfl rfl rfl) (G.nil (EN.sub (sC 0 (sC 4 (sC 5 (sC 7 (sC 84 Sub.nil))))) ?_)))))
      refine EN.then (CG.cond_f rfl ?_)
      refine CG.skip ?_
      have hpz : (RI.failIf (RI.check f ≠ 0) 3 s2).pos ≤ B.length := by rw [failIf_out.2]; exact hs2p
      rw [hF3] at hE hpz
      exact EN.cut (hl := [_, _, _]) (⟨_, hE, hpz, rfl, rfl⟩) sB rfl tK sF
    ·
     rintro L H ⟨s3, hE, hs3p, rfl, rfl⟩
     try dsimp only [List.cons_append, List.nil_append]
     unfold RI.dyn3 at hE
     refine CG.seq (CG.sr (G.mv ?_))
     refine G.np ?_
     refine G.q rfl rfl rfl rfl (q_field0 rfl rfl fo_128_4_F37) (G.ld ag_3_F1 ?_)
     refine G.q rfl rfl rfl rfl (q_neq rfl rfl rfl) (G.nil (EN.then ?_))
     refine CG.cond rfl (fun h91 => ?_) (fun h91 => ?_)
     ·
      rw [if_pos oM] at hE
      refine CG.sr (G.as ?_)
      refine G.as ?_
      refine G.nil (EN.then (CG.ret (EN.then_ret ?_)))
      rw [← hE]
      try dsimp only
      try refine EN.triv ?_
      exact fin_ret2 rfl rfl rfl tK sF (⟨none, none, 0, 0, 0, 0, _, rfl, rfl, rd_nil, rd_nil, rfl, rfl⟩) _ (.inl rfl)
     ·
      rw [if_neg oM] at hE
      obtain ⟨Z2, hZ2b⟩ : ∃ Z, RI.lensGo B (RI.codes f) (nl + nd) (nl + nd + 1) [] s3 = Z := ⟨_, rfl⟩
      rw [hZ2b] at hE
      have hcl := codes_len f
      have hce := codes_el f
      refine CG.skip (EN.tsr (G.mv ?_))
      refine G.call (xs := [_]) rfl rfl (codes04_spec (some ⟨b53, 0, none⟩) f.length 19 f _ hrf rfl oM) bd_111_F40 rfl rfl rfl rfl tK (fun _ _ _ _ _ _ => trivial) ?_
      rintro v hl ⟨vs, hvs, rfl⟩
      rw [← hcl] at hvs ⊢
      refine G.fact (p := own 125 1 v (RI.codes f).length vs) (α := ∃ cad cc, v = .slice cad (RI.codes f).length cc) tK1 (fun h hh => (by obtain ⟨_, _, a8, c8, e, _⟩ := own_shape hh; exact ⟨a8, c8, e⟩)) (fun hv8 => ?_)
      obtain ⟨cad, cc, rfl⟩ := hv8
      try dsimp only [List.cons_append, List.nil_append]
      refine G.as ?_
      refine G.nil (EN.tsr (G.e rfl rfl rfl rfl (e_bslice rfl rfl (bs_78_0_all_F38)) (fun _ _ _ _ _ _ => trivial) ?_))
      rintro _ _ ⟨b94, rfl, rfl⟩
      refine G.as ?_
      refine G.nil (EN.sub (sC 0 (sC 4 (sC 5 (sC 10 (sC 11 Sub.nil))))) ?_)
      refine EN.then ?_
      refine CG.cut (fun L H => ∃ (l : List Nat) (s1 : RI.St) (lad : Option Addr) (lc : Nat), RI.dyn4 nl (l, s1) = T ∧ (s1.err = 0 → l.length = nl + nd) ∧ (∀ x ∈ l, x ≤ 15) ∧ s1.pos ≤ B.length ∧ L = [(0, .pointer (some ⟨b, 0, none⟩)), (4, .int .i64 (nl : Nat)), (5, .int .i64 (nd : Nat)), (11, .slice lad l.length lc)] ∧ H = [own 3 1 (.slice lad l.length lc) l.length ((l).map iv), cel b 128 [.slice ad B.length c, .int .i64 ((s1).pos : Nat), w, .int .i64 (most : Nat), .int .i64 ((s1).err : Nat)], p] ++ F) ?_ ?_
      ·
       refine CG.block (CG.closeOwn (g := b94) (sz := 1) (n := 0) (cap := 0) (xs := []) tK1 (by decide) (by decide) rfl rfl ?_)
       refine CG.loopI (fun m L H => ∃ (l : List Nat) (s1 : RI.St) (v : Value), l.length ≤ nl + nd ∧ (s1.err = 0 → nl + nd < m + l.length) ∧ (∀ x ∈ l, x ≤ 15) ∧ s1.pos ≤ B.length ∧ RI.lensGo B (RI.codes f) (nl + nd) m l s1 = Z2 ∧ L = [(0, .pointer (some ⟨b, 0, none⟩)), (4, .int .i64 (nl : Nat)), (5, .int .i64 (nd : Nat)), (10, .slice cad (RI.codes f).length cc), (11, v)] ∧ H = [own 3 1 v l.length ((l).map iv), own 125 1 (.slice cad (RI.codes f).length cc) (RI.codes f).length vs, rowsH 4 vs ((RI.codes f).map fun c => c.map bv), cel b 128 [.slice ad B.length c, .int .i64 ((s1).pos : Nat), w, .int .i64 (most : Nat), .int .i64 ((s1).err : Nat)], p] ++ F) (nl + nd + 1) (hl := [_, _, _, _, _]) (⟨[], s3, _, by simp, by simp, by simp, hs3p, hZ2b, rfl, rfl⟩) sB rfl tK sF ?_
       rintro m L H ⟨l, s1, v, hll, hml, hl15, hs1p, hgo, rfl, rfl⟩
       try dsimp only [List.cons_append, List.nil_append]
       refine CG.ownShape v tK1 (fun lad lc h2 => ?_)
       subst h2
       refine CG.seq (CG.sr (G.mv ?_))
       refine G.q rfl rfl rfl rfl (q_len_sl rfl rfl se_78_F5) (G.mv ?_)
       refine G.mv ?_
       refine G.q rfl rfl rfl rfl (q_add_i rfl rfl rfl oM) (G.q rfl rfl rfl rfl (q_lss rfl rfl rfl) (G.mv ?_))
       refine G.split (t := 101) rfl (fun g101 => ?_) (fun g101 => ?_)
       ·
        refine G.mv ?_
        refine G.np ?_
        refine G.q rfl rfl rfl rfl (q_field0 rfl rfl fo_128_4_F37) (G.ld ag_3_F1 ?_)
        refine G.q rfl rfl rfl rfl (q_eql rfl rfl rfl) (G.q rfl rfl rfl rfl (q_pick_t rfl rfl rfl) (G.nil (EN.sub (sC 0 (sC 4 (sC 5 (sC 10 (sC 11 (sC 107 Sub.nil)))))) ?_)))
        refine EN.then ?_
        refine CG.cond rfl (fun h107 => ?_) (fun h107 => ?_)
        ·
         have hs10 : s1.err = 0 := by omega
         obtain ⟨g, rfl⟩ : ∃ g, m = g + 1 := ⟨m - 1, by have := hml hs10; omega⟩
         have hmg := hml hs10
         rw [RI.lensGo, if_neg oM] at hgo
         refine CG.skip (EN.then (CG.block (CG.sr (G.mv ?_))))
         refine G.mv ?_
         refine G.call (xs := [_, _]) rfl rfl (symbol5_spec b c most ad B s1 w cad cc vs (RI.codes f) p hB hBc oM oM hs1p hvs hce oM) bd_113_F40 rfl rfl rfl rfl tK (fun _ _ _ _ _ _ => trivial) ?_
         rintro _ _ ⟨rfl, rfl⟩
         obtain ⟨x, hx⟩ : ∃ x, RI.symbol B (RI.codes f) s1 = x := ⟨_, rfl⟩
         have hxs := symbol_pos (cs := RI.codes f) hs1p
         rw [hx] at hxs hgo ⊢
         try dsimp only at hgo
         have hx19 := hxs.2.2 oM
         have hxp := hxs.1
         try dsimp only [List.cons_append, List.nil_append]
         refine G.as ?_
         refine G.nil (EN.tsr (G.mv ?_))
         refine G.as ?_
         refine G.as ?_
         refine G.nil (EN.then ?_)
         refine CG.cut (fun L H => ∃ (t u : Nat) (y : RI.St) (lad : Option Addr) (lc : Nat), 1 ≤ t ∧ t ≤ 200 ∧ u ≤ 15 ∧ y.pos ≤ B.length ∧ (fun (z : List Nat × RI.St) => RI.lensGo B (RI.codes f) (nl + nd) g z.1 z.2) (RI.repA (nl + nd) t u l y) = Z2 ∧ L = [(0, .pointer (some ⟨b, 0, none⟩)), (4, .int .i64 (nl : Nat)), (5, .int .i64 (nd : Nat)), (10, .slice cad (RI.codes f).length cc), (11, .slice lad l.length lc), (13, .int .i64 (t : Nat)), (14, .int .i64 (u : Nat))] ∧ H = [own 3 1 (.slice lad l.length lc) l.length ((l).map iv), own 125 1 (.slice cad (RI.codes f).length cc) (RI.codes f).length vs, rowsH 4 vs ((RI.codes f).map fun c => c.map bv), cel b 128 [.slice ad B.length c, .int .i64 ((y).pos : Nat), w, .int .i64 (most : Nat), .int .i64 ((y).err : Nat)], p] ++ F) ?_ ?_
         ·
          refine CG.sr (G.mv ?_)
          refine G.nil (EN.then (CG.block (CG.sr (G.q rfl rfl rfl rfl (q_eql rfl rfl rfl) (G.as ?_)))))
          refine G.nil (EN.then ?_)
          refine CG.cond rfl (fun h113 => ?_) (fun h113 => ?_)
          ·
           rw [if_pos oM] at hgo
           refine CG.seq (CG.sr (G.mv ?_))
           refine G.q rfl rfl rfl rfl (q_len_sl rfl rfl se_78_F5) (G.q rfl rfl rfl rfl (q_eql rfl rfl rfl) (G.nil (EN.sub (sC 0 (sC 4 (sC 5 (sC 10 (sC 11 (sC 13 (sC 14 (sC 117 Sub.nil)))))))) ?_)))
           refine EN.then ?_
           refine CG.cond rfl (fun h117 => ?_) (fun h117 => ?_)
           ·
            rw [if_pos oM] at hgo
            rw [← hgo] at hE
            unfold RI.dyn4 at hE
            try dsimp only at hE
            rw [if_pos (fail_err (by decide))] at hE
            refine CG.sr (G.mv ?_)
            refine G.call (xs := [_, _]) rfl rfl (fail_spec b (.slice ad B.length c) most 3 x.2 w) bd_82_F37 rfl rfl rfl rfl tK (fun _ _ _ _ _ _ => trivial) ?_
            rintro _ _ ⟨rfl, rfl⟩
            try dsimp only [List.cons_append, List.nil_append]
            refine G.nil (EN.tsr (G.as ?_))
            refine G.as ?_
            refine G.nil (EN.then (CG.ret (EN.then_ret (EN.in_ret ?_))))
            refine EN.then_ret (EN.in_ret ?_)
            refine EN.then_ret (EN.in_ret ?_)
            refine EN.then_ret ?_
            rw [← hE]
            try dsimp only
            try refine EN.triv ?_
            exact fin_ret2 rfl rfl rfl tK sF (⟨none, none, 0, 0, 0, 0, _, rfl, rfl, rd_nil, rd_nil, rfl, rfl⟩) _ (.inl rfl)
           ·
            rw [if_neg oM] at hgo
            refine CG.someRd (p := own 3 1 (.slice lad l.length lc) l.length ((l).map iv)) mB rd_own (by simp; omega) (fun g0 o0 e => ?_)
            subst e
            have e120 : (l.length : Int) - 1 = ((l.length - 1 : Nat) : Int) := by omega
            have hlast : l[l.length - 1]? = some (l.getD (l.length - 1) 0) := getD_iv oM
            refine CG.skip (EN.tsr (G.mv ?_))
            refine G.mv ?_
            refine G.q rfl rfl rfl rfl (q_len_sl rfl rfl se_78_F5) (G.q rfl rfl rfl rfl (q_sub_i rfl rfl rfl oM) ?_)
            rw [e120]
            refine G.q rfl rfl rfl rfl (q_ixad1 rfl rfl rfl se_78_F5 sz_3_F1 oM) (G.r rfl rfl rfl rfl (r_loadRd rfl rfl ag_3_F1 mB (rd_own) (get_iv hlast)) ?_)
            refine G.as ?_
            refine G.nil (EN.tr ?_)
            refine G.mv ?_
            refine G.call (xs := [_, _]) rfl rfl (number5_spec b c most ad B (x.2) w 2 p hB hBc oM oM (by decide)) bd_83_F38 rfl rfl rfl rfl tK (fun _ _ _ _ _ _ => trivial) ?_
            rintro _ _ ⟨rfl, rfl⟩
            obtain ⟨y, hy⟩ : ∃ w9, RI.number B 2 (x.2) = w9 := ⟨_, rfl⟩
            have hyp := number_pos (n := 2) hxp
            have hyl := number_lt (B := B) (n := 2) (s := x.2)
            rw [hy] at hyp hyl ⊢
            rw [hy] at hgo
            try dsimp only at hgo
            have hy4 : y.1 < 4 := hyl
            have ht1 : 1 ≤ 3 + y.1 := by omega
            have ht2 : 3 + y.1 ≤ 200 := by omega
            have ht3 : (3 : Int) + y.1 = ((3 + y.1 : Nat) : Int) := by omega
            have hu : l.getD (l.length - 1) 0 ≤ 15 := hl15 _ (List.mem_of_getElem? hlast)
            try dsimp only [List.cons_append, List.nil_append]
            refine G.q rfl rfl rfl rfl (q_add_i rfl rfl rfl oM) (G.as ?_)
            refine G.nil (EN.sub (sC 0 (sC 4 (sC 5 (sC 10 (sC 11 (sC 13 (sC 14 Sub.nil))))))) ?_)
            refine EN.in_normal ?_
            try rw [ht3]
            exact EN.cut (hl := [_, _, _, _, _]) (⟨_, _, _, _, _, ht1, ht2, hu, hyp, hgo, rfl, rfl⟩) sB rfl tK sF
          ·
           rw [if_neg oM] at hgo
           refine CG.sr (G.q rfl rfl rfl rfl (q_eql rfl rfl rfl) (G.as ?_))
           refine G.nil (EN.sub (sC 0 (sC 4 (sC 5 (sC 10 (sC 11 (sC 13 (sC 14 (sC 112 (sC 129 Sub.nil))))))))) ?_)
           refine EN.then ?_
           refine CG.cond rfl (fun h129 => ?_) (fun h129 => ?_)
           ·
            rw [if_pos oM] at hgo
            refine CG.sr (G.as ?_)
            refine G.nil (EN.tr ?_)
            refine G.mv ?_
            refine G.call (xs := [_, _]) rfl rfl (number5_spec b c most ad B (x.2) w 3 p hB hBc oM oM (by decide)) bd_83_F38 rfl rfl rfl rfl tK (fun _ _ _ _ _ _ => trivial) ?_
            rintro _ _ ⟨rfl, rfl⟩
            obtain ⟨y, hy⟩ : ∃ w9, RI.number B 3 (x.2) = w9 := ⟨_, rfl⟩
            have hyp := number_pos (n := 3) hxp
            have hyl := number_lt (B := B) (n := 3) (s := x.2)
            rw [hy] at hyp hyl ⊢
            rw [hy] at hgo
            try dsimp only at hgo
            have hy4 : y.1 < 8 := hyl
            have ht1 : 1 ≤ 3 + y.1 := by omega
            have ht2 : 3 + y.1 ≤ 200 := by omega
            have ht3 : (3 : Int) + y.1 = ((3 + y.1 : Nat) : Int) := by omega
            have hu : 0 ≤ 15 := by decide
            try dsimp only [List.cons_append, List.nil_append]
            refine G.q rfl rfl rfl rfl (q_add_i rfl rfl rfl oM) (G.as ?_)
            refine G.nil (EN.in_normal ?_)
            try rw [ht3]
            exact EN.cut (hl := [_, _, _, _, _]) (⟨_, _, _, _, _, ht1, ht2, hu, hyp, hgo, rfl, rfl⟩) sB rfl tK sF
           ·
            rw [if_neg oM] at hgo
            refine CG.sr (G.q rfl rfl rfl rfl (q_eql rfl rfl rfl) (G.as ?_))
            refine G.nil (EN.then ?_)
            refine CG.cond rfl (fun h134 => ?_) (fun h134 => ?_)
            ·
             rw [if_pos oM] at hgo
             refine CG.sr (G.as ?_)
             refine G.nil (EN.tr ?_)
             refine G.mv ?_
             refine G.call (xs := [_, _]) rfl rfl (number5_spec b c most ad B (x.2) w 7 p hB hBc oM oM (by decide)) bd_83_F38 rfl rfl rfl rfl tK (fun _ _ _ _ _ _ => trivial) ?_
             rintro _ _ ⟨rfl, rfl⟩
             obtain ⟨y, hy⟩ : ∃ w9, RI.number B 7 (x.2) = w9 := ⟨_, rfl⟩
             have hyp := number_pos (n := 7) hxp
             have hyl := number_lt (B := B) (n := 7) (s := x.2)
             rw [hy] at hyp hyl ⊢
             rw [hy] at hgo
             try dsimp only at hgo
             have hy4 : y.1 < 128 := hyl
             have ht1 : 1 ≤ 11 + y.1 := by omega
             have ht2 : 11 + y.1 ≤ 200 := by omega
             have ht3 : (11 : Int) + y.1 = ((11 + y.1 : Nat) : Int) := by omega
             have hu : 0 ≤ 15 := by decide
             try dsimp only [List.cons_append, List.nil_append]
             refine G.q rfl rfl rfl rfl (q_add_i rfl rfl rfl oM) (G.as ?_)
             refine G.nil (EN.in_normal ?_)
             try rw [ht3]
             exact EN.cut (hl := [_, _, _, _, _]) (⟨_, _, _, _, _, ht1, ht2, hu, hyp, hgo, rfl, rfl⟩) sB rfl tK sF
            ·
             rw [if_neg oM] at hgo
             have ht1 : 1 ≤ 1 := by decide
             have ht2 : 1 ≤ 200 := by decide
             have hu : x.1 ≤ 15 := by omega
             have hyp := hxp
             refine CG.skip (EN.in_normal ?_)
             try rw [ht3]
             exact EN.cut (hl := [_, _, _, _, _]) (⟨_, _, _, _, _, ht1, ht2, hu, hyp, hgo, rfl, rfl⟩) sB rfl tK sF
         ·
          rintro L H ⟨t, u, y, lad, lc, ht1, ht2, hu, hyp, hgo, rfl, rfl⟩
          try dsimp only [List.cons_append, List.nil_append]
          unfold RI.repA at hgo
          try dsimp only at hgo
          refine CG.cut (fun L H => ∃ s4 : RI.St, RI.failIf (nl + nd < l.length + t) 3 y = s4 ∧ L = [(0, .pointer (some ⟨b, 0, none⟩)), (4, .int .i64 (nl : Nat)), (5, .int .i64 (nd : Nat)), (10, .slice cad (RI.codes f).length cc), (11, .slice lad l.length lc), (13, .int .i64 (t : Nat)), (14, .int .i64 (u : Nat))] ∧ H = [own 3 1 (.slice lad l.length lc) l.length ((l).map iv), own 125 1 (.slice cad (RI.codes f).length cc) (RI.codes f).length vs, rowsH 4 vs ((RI.codes f).map fun c => c.map bv), cel b 128 [.slice ad B.length c, .int .i64 ((s4).pos : Nat), w, .int .i64 (most : Nat), .int .i64 ((s4).err : Nat)], p] ++ F) ?_ ?_
          ·
           refine CG.sr (G.mv ?_)
           refine G.np ?_
           refine G.q rfl rfl rfl rfl (q_field0 rfl rfl fo_128_4_F37) (G.ld ag_3_F1 ?_)
           refine G.q rfl rfl rfl rfl (q_eql rfl rfl rfl) (G.mv ?_)
           refine G.split (t := 144) rfl (fun g144 => ?_) (fun g144 => ?_)
           ·
            refine G.mv ?_
            refine G.q rfl rfl rfl rfl (q_len_sl rfl rfl se_78_F5) (G.mv ?_)
            refine G.q rfl rfl rfl rfl (q_add_i rfl rfl rfl oM) (G.mv ?_)
            refine G.mv ?_
            refine G.q rfl rfl rfl rfl (q_add_i rfl rfl rfl oM) (G.q rfl rfl rfl rfl (q_gtr rfl rfl rfl) (G.q rfl rfl rfl rfl (q_pick_t rfl rfl rfl) (G.nil (EN.sub (sC 0 (sC 4 (sC 5 (sC 10 (sC 11 (sC 13 (sC 14 (sC 153 Sub.nil)))))))) ?_))))
            refine EN.then ?_
            refine CG.cond rfl (fun h153 => ?_) (fun h153 => ?_)
            ·
             have hF4 : RI.failIf (nl + nd < l.length + t) 3 y = RI.fail 3 y := failIf_p oM
             refine CG.reg (G.mv ?_)
             refine G.call (xs := [_, _]) rfl rfl (fail_spec b (.slice ad B.length c) most 3 y w) bd_82_F37 rfl rfl rfl rfl tK (fun _ _ _ _ _ _ => trivial) ?_
             rintro _ _ ⟨rfl, rfl⟩
             try dsimp only [List.cons_append, List.nil_append]
             refine G.nil ?_
             exact EN.cut (hl := [_, _, _, _, _]) (⟨_, hF4, rfl, rfl⟩) sB rfl tK sF
            ·
             have hF4 : RI.failIf (nl + nd < l.length + t) 3 y = y := failIf_n oM
             refine CG.skip ?_
             exact EN.cut (hl := [_, _, _, _, _]) (⟨_, hF4, rfl, rfl⟩) sB rfl tK sF
           ·
            have hF4 : RI.failIf (nl + nd < l.length + t) 3 y = y := failIf_f (fun h => g144 oM)
            refine G.skip rfl rfl rfl (G.skip rfl rfl rfl (G.skip rfl rfl rfl (G.skip rfl rfl rfl (G.skip rfl rfl rfl (G.skip rfl rfl rfl ?_)))))
            refine G.skip rfl rfl rfl (G.skip rfl rfl rfl (G.q rfl rfl rfl rfl (q_pick_f rfl rfl rfl) (G.nil (EN.sub (sC 0 (sC 4 (sC 5 (sC 10 (sC 11 (sC 13 (sC 14 (sC 153 Sub.nil)))))))) ?_))))
            refine EN.then (CG.cond_f rfl ?_)
            refine CG.skip ?_
            exact EN.cut (hl := [_, _, _, _, _]) (⟨_, hF4, rfl, rfl⟩) sB rfl tK sF
          ·
           rintro L H ⟨s4, hF4, rfl, rfl⟩
           try dsimp only [List.cons_append, List.nil_append]
           rw [hF4] at hgo
           have hs4p : s4.pos ≤ B.length := by rw [← hF4, failIf_out.2]; exact hyp
           have hs4o : s4.err = 0 → l.length + t ≤ nl + nd := fun h => by rw [← hF4] at h; have := (failIf_ok (by decide) h).1; omega
           refine CG.sr (G.as ?_)
           refine G.nil (EN.then (CG.block ?_))
           rw [← List.append_nil l]
           refine CG.loopI (fun m L H => ∃ (i : Nat) (v2 : Value), i ≤ t ∧ m = t - i ∧ (s4.err ≠ 0 → i = 0) ∧ L = [(0, .pointer (some ⟨b, 0, none⟩)), (4, .int .i64 (nl : Nat)), (5, .int .i64 (nd : Nat)), (10, .slice cad (RI.codes f).length cc), (11, v2), (13, .int .i64 (t : Nat)), (14, .int .i64 (u : Nat)), (15, .int .i64 (i : Nat))] ∧ H = [own 3 1 v2 (l ++ List.replicate i u).length ((l ++ List.replicate i u).map iv), own 125 1 (.slice cad (RI.codes f).length cc) (RI.codes f).length vs, rowsH 4 vs ((RI.codes f).map fun c => c.map bv), cel b 128 [.slice ad B.length c, .int .i64 ((s4).pos : Nat), w, .int .i64 (most : Nat), .int .i64 ((s4).err : Nat)], p] ++ F) (t - 0) (hl := [_, _, _, _, _]) (⟨0, _, Nat.zero_le _, rfl, fun _ => rfl, rfl, rfl⟩) sB rfl tK sF ?_
           rintro m L H ⟨i, v2, hi, rfl, hi0, rfl, rfl⟩
           try dsimp only [List.cons_append, List.nil_append]
           refine CG.seq (CG.sr (G.mv ?_))
           refine G.mv ?_
           refine G.q rfl rfl rfl rfl (q_lss rfl rfl rfl) (G.mv ?_)
           refine G.split (t := 159) rfl (fun g159 => ?_) (fun g159 => ?_)
           ·
            refine G.mv ?_
            refine G.np ?_
            refine G.q rfl rfl rfl rfl (q_field0 rfl rfl fo_128_4_F37) (G.ld ag_3_F1 ?_)
            refine G.q rfl rfl rfl rfl (q_eql rfl rfl rfl) (G.q rfl rfl rfl rfl (q_pick_t rfl rfl rfl) (G.nil (EN.sub (sC 0 (sC 4 (sC 5 (sC 10 (sC 11 (sC 13 (sC 14 (sC 15 (sC 165 Sub.nil))))))))) ?_)))
            refine EN.then ?_
            refine CG.cond rfl (fun h165 => ?_) (fun h165 => ?_)
            ·
             have hs40 := hs4o oM
             refine CG.skip (EN.ts (CG.block (CG.reg (G.mv ?_))))
             refine G.mv ?_
             refine G.e rfl rfl rfl rfl (e_bslice rfl rfl (bs_78_1_all_F5 _)) (fun _ _ _ _ _ _ => trivial) ?_
             rintro _ _ ⟨b170, rfl, rfl⟩
             refine G.e rfl rfl rfl rfl (e_append rfl rfl rfl se_78_F5 nf_3_F5 rfl tK1 mB (by rfl) (by simp [Value.oneCell', str]) (by simp; omega)) (fun _ _ _ _ _ _ => trivial) ?_
             rintro _ _ rfl
             rw [own_repI]
             refine G.as ?_
             refine G.nil (EN.in_normal (EN.tr ?_))
             refine G.mv ?_
             refine G.q rfl rfl rfl rfl (q_add_i rfl rfl rfl oM) (G.as ?_)
             refine G.nil ?_
             exact EN.round (hl := [_, _, _, _, _]) (t - (i + 1)) oM (⟨i + 1, _, by omega, rfl, fun h => by omega, rfl, rfl⟩) sB rfl tK sF
            ·
             have hl2 : l ++ List.replicate i u = (if s4.err = 0 then l ++ List.replicate t u else l) := by rw [if_neg oM, hi0 oM]; simp
             generalize l ++ List.replicate i u = l2 at hl2 ⊢
             rw [← hl2] at hgo
             have hl215 : ∀ x ∈ l2, x ≤ 15 := by
               rw [hl2]; split
               · intro x hx
                 rcases List.mem_append.1 hx with h1 | h1
                 · exact hl15 x h1
                 · have := List.eq_of_mem_replicate h1; omega
               · exact hl15
             have hl2l : l2.length ≤ nl + nd ∧ (s4.err = 0 → l2.length = l.length + t) := by
               rw [hl2]; split
               · rename_i h; have := hs4o h; simp; omega
               · rename_i h; exact ⟨hll, fun h2 => absurd h2 h⟩
             refine CG.exit ?_
             refine EN.then_exit (EN.then_exit (EN.in_here ?_))
             refine EN.in_normal ?_
             exact EN.round (hl := [_, _, _, _, _]) (g) oM (⟨l2, s4, _, hl2l.1, fun h => by have := hl2l.2 h; omega, hl215, hs4p, hgo, rfl, rfl⟩) sB rfl tK sF
           ·
            have hl2 : l ++ List.replicate i u = (if s4.err = 0 then l ++ List.replicate t u else l) := by
              by_cases h : s4.err = 0
              · rw [if_pos h, show i = t by omega]
              · have := hi0 h; omega
            generalize l ++ List.replicate i u = l2 at hl2 ⊢
            rw [← hl2] at hgo
            have hl215 : ∀ x ∈ l2, x ≤ 15 := by
              rw [hl2]; split
              · intro x hx
                rcases List.mem_append.1 hx with h1 | h1
                · exact hl15 x h1
                · have := List.eq_of_mem_replicate h1; omega
              · exact hl15
            have hl2l : l2.length ≤ nl + nd ∧ (s4.err = 0 → l2.length = l.length + t) := by
              rw [hl2]; split
              · rename_i h; have := hs4o h; simp; omega
              · rename_i h; exact ⟨hll, fun h2 => absurd h2 h⟩
            refine G.skip rfl rfl rfl (G.skip rfl rfl rfl (G.skip rfl rfl rfl (G.skip rfl rfl rfl (G.skip rfl rfl rfl (G.q rfl rfl rfl rfl (q_pick_f rfl rfl rfl) ?_)))))
            refine G.nil (EN.sub (sC 0 (sC 4 (sC 5 (sC 10 (sC 11 (sC 13 (sC 14 (sC 15 (sC 165 Sub.nil))))))))) ?_)
            refine EN.then (CG.cond_f rfl ?_)
            refine CG.exit ?_
            refine EN.then_exit (EN.then_exit (EN.in_here ?_))
            refine EN.in_normal ?_
            exact EN.round (hl := [_, _, _, _, _]) (g) oM (⟨l2, s4, _, hl2l.1, fun h => by have := hl2l.2 h; omega, hl215, hs4p, hgo, rfl, rfl⟩) sB rfl tK sF
        ·
         have hgo2 := hgo
         rw [lensGo_stop (.inr oM)] at hgo2
         have hle2 : s1.err = 0 → l.length = nl + nd := fun h => by omega
         refine CG.exit ?_
         refine EN.then_exit (EN.then_exit (EN.in_here ?_))
         exact EN.cut (hl := [_, _, _]) (⟨l, s1, lad, lc, by rw [hgo2]; exact hE, hle2, hl15, hs1p, rfl, rfl⟩) sB rfl tK sF
       ·
        have hgo2 := hgo
        rw [lensGo_stop (.inl oM)] at hgo2
        have hle2 : s1.err = 0 → l.length = nl + nd := fun _ => by omega
        refine G.skip rfl rfl rfl (G.skip rfl rfl rfl (G.skip rfl rfl rfl (G.skip rfl rfl rfl (G.skip rfl rfl rfl (G.q rfl rfl rfl rfl (q_pick_f rfl rfl rfl) ?_)))))
        refine G.nil (EN.sub (sC 0 (sC 4 (sC 5 (sC 10 (sC 11 (sC 107 Sub.nil)))))) ?_)
        refine EN.then (CG.cond_f rfl ?_)
        refine CG.exit ?_
        refine EN.then_exit (EN.then_exit (EN.in_here ?_))
        exact EN.cut (hl := [_, _, _]) (⟨l, s1, lad, lc, by rw [hgo2]; exact hE, hle2, hl15, hs1p, rfl, rfl⟩) sB rfl tK sF
      ·
       rintro L H ⟨l, s1, lad, lc, hE, hle2, hl15, hs1p, rfl, rfl⟩
       try dsimp only [List.cons_append, List.nil_append]
       unfold RI.dyn4 at hE
       try dsimp only at hE
       refine CG.seq (CG.sr (G.mv ?_))
       refine G.np ?_
       refine G.q rfl rfl rfl rfl (q_field0 rfl rfl fo_128_4_F37) (G.ld ag_3_F1 ?_)
       refine G.q rfl rfl rfl rfl (q_neq rfl rfl rfl) (G.nil (EN.then ?_))
       refine CG.cond rfl (fun h176 => ?_) (fun h176 => ?_)
       ·
        rw [if_pos oM] at hE
        refine CG.sr (G.as ?_)
        refine G.as ?_
        refine G.nil (EN.then (CG.ret (EN.then_ret ?_)))
        rw [← hE]
        try dsimp only
        try refine EN.triv ?_
        exact fin_ret2 rfl rfl rfl tK sF (⟨none, none, 0, 0, 0, 0, _, rfl, rfl, rd_nil, rd_nil, rfl, rfl⟩) _ (.inl rfl)
       ·
        rw [if_neg oM] at hE
        have hln := hle2 oM
        refine CG.someRd (p := own 3 1 (.slice lad l.length lc) l.length ((l).map iv)) mB rd_own (by simp; omega) (fun g0 o0 e => ?_)
        subst e
        refine CG.fact (α := l.length ≤ lc) (p := own 3 1 (.slice (some ⟨g0, o0, none⟩) l.length lc) l.length ((l).map iv)) tK1 (fun _ hh => by obtain ⟨_, _, a9, c9, e, h9⟩ := own_shape hh; cases e; exact h9) (fun hlc => ?_)
        have hr : RdA (own 3 1 (.slice (some ⟨g0, o0, none⟩) l.length lc) l.length ((l).map iv)) (some ⟨g0, o0, none⟩) (l.map iv) := rd_own
        have h256 : 256 < l.length := by omega
        obtain ⟨x256, hv256⟩ : ∃ x, l.getD 256 0 = x := ⟨_, rfl⟩
        rw [hv256] at hE
        have hx256 : l[256]? = some x256 := by rw [← hv256]; exact getD_iv h256
        refine CG.skip (EN.ts (CG.sr (G.mv ?_)))
        refine G.q rfl rfl rfl rfl (q_ixad1 rfl rfl rfl se_78_F5 sz_3_F1 (h256)) (G.r rfl rfl rfl rfl (r_loadRd rfl rfl ag_3_F1 mB (hr) (get_iv hx256)) ?_)
        refine G.q rfl rfl rfl rfl (q_eql rfl rfl rfl) (G.mv ?_)
        refine G.split (t := 181) rfl (fun g181 => ?_) (fun g181 => ?_)
        ·
         refine G.skip rfl rfl rfl (G.skip rfl rfl rfl (G.skip rfl rfl rfl (G.skip rfl rfl rfl (G.skip rfl rfl rfl (G.q rfl rfl rfl rfl (q_pick_t rfl rfl rfl) ?_)))))
         refine G.mv ?_
         refine G.skip rfl rfl rfl (G.skip rfl rfl rfl (G.skip rfl rfl rfl (G.skip rfl rfl rfl (G.skip rfl rfl rfl (G.q rfl rfl rfl rfl (q_pick_t rfl rfl rfl) ?_)))))
         refine G.nil (EN.sub (sC 0 (sC 4 (sC 11 (sC 194 Sub.nil)))) ?_)
         refine EN.then (CG.cond_t rfl ?_)
         refine CG.seq ?_
         rw [if_pos (by first | exact .inl oM | exact .inr (.inl oM) | exact .inr (.inr oM))] at hE
         refine CG.reg (G.mv ?_)
         refine G.call (xs := [_, _]) rfl rfl (fail_spec b (.slice ad B.length c) most 3 s1 w) bd_82_F37 rfl rfl rfl rfl tK (fun _ _ _ _ _ _ => trivial) ?_
         rintro _ _ ⟨rfl, rfl⟩
         try dsimp only [List.cons_append, List.nil_append]
         refine G.nil (EN.tsr (G.as ?_))
         refine G.as ?_
         refine G.nil (EN.then (CG.ret (EN.then_ret ?_)))
         rw [← hE]
         try dsimp only
         try refine EN.triv ?_
         exact fin_ret2 rfl rfl rfl tK sF (⟨none, none, 0, 0, 0, 0, _, rfl, rfl, rd_nil, rd_nil, rfl, rfl⟩) _ (.inl rfl)
        ·
         refine G.mv ?_
         refine G.mv ?_
         refine G.q rfl rfl rfl rfl (q_slsl_hi rfl rfl rfl se_78_F5 sz_3_F1 oM) (G.call (xs := [_]) rfl rfl (check04_spec (some ⟨g0, o0, none⟩) nl lc (l.take nl) _ (rd_take hr) (by simp; omega) (fun x hx => hl15 x (List.mem_of_mem_take hx)) oM) bd_114_F40 rfl rfl rfl rfl tK (fun _ _ _ _ _ _ => trivial) ?_)
         rintro _ _ ⟨rfl, rfl⟩
         try dsimp only [List.cons_append, List.nil_append]
         refine G.q rfl rfl rfl rfl (q_neq rfl rfl rfl) (G.q rfl rfl rfl rfl (q_pick_f rfl rfl rfl) (G.mv ?_))
         refine G.split (t := 188) rfl (fun g188 => ?_) (fun g188 => ?_)
         ·
          refine G.skip rfl rfl rfl (G.skip rfl rfl rfl (G.skip rfl rfl rfl (G.skip rfl rfl rfl (G.skip rfl rfl rfl (G.q rfl rfl rfl rfl (q_pick_t rfl rfl rfl) ?_)))))
          refine G.nil (EN.sub (sC 0 (sC 4 (sC 11 (sC 194 Sub.nil)))) ?_)
          refine EN.then (CG.cond_t rfl ?_)
          refine CG.seq ?_
          rw [if_pos (by first | exact .inl oM | exact .inr (.inl oM) | exact .inr (.inr oM))] at hE
          refine CG.reg (G.mv ?_)
          refine G.call (xs := [_, _]) rfl rfl (fail_spec b (.slice ad B.length c) most 3 s1 w) bd_82_F37 rfl rfl rfl rfl tK (fun _ _ _ _ _ _ => trivial) ?_
          rintro _ _ ⟨rfl, rfl⟩
          try dsimp only [List.cons_append, List.nil_append]
          refine G.nil (EN.tsr (G.as ?_))
          refine G.as ?_
          refine G.nil (EN.then (CG.ret (EN.then_ret ?_)))
          rw [← hE]
          try dsimp only
          try refine EN.triv ?_
          exact fin_ret2 rfl rfl rfl tK sF (⟨none, none, 0, 0, 0, 0, _, rfl, rfl, rd_nil, rd_nil, rfl, rfl⟩) _ (.inl rfl)
         ·
          refine G.mv ?_
          refine G.mv ?_
          refine G.q rfl rfl rfl rfl (q_slO_lo rfl rfl rfl se_78_F5 sz_3_F1 oM (hlc)) (G.call (xs := [_]) rfl rfl (check04_spec (adLH lc nl 1 (some ⟨g0, o0, none⟩)) (l.length - nl) (lc - nl) (l.drop nl) _ (rd_drop hr hlc) (by simp) (fun x hx => hl15 x (List.mem_of_mem_drop hx)) oM) bd_114_F40 rfl rfl rfl rfl tK (fun _ _ _ _ _ _ => trivial) ?_)
          rintro _ _ ⟨rfl, rfl⟩
          try dsimp only [List.cons_append, List.nil_append]
          refine G.q rfl rfl rfl rfl (q_neq rfl rfl rfl) (G.q rfl rfl rfl rfl (q_pick_f rfl rfl rfl) (G.nil (EN.sub (sC 0 (sC 4 (sC 11 (sC 194 Sub.nil)))) ?_)))
          refine EN.then ?_
          refine CG.cond rfl (fun h194 => ?_) (fun h194 => ?_)
          ·
           refine CG.seq ?_
           rw [if_pos (by first | exact .inl oM | exact .inr (.inl oM) | exact .inr (.inr oM))] at hE
           refine CG.reg (G.mv ?_)
           refine G.call (xs := [_, _]) rfl rfl (fail_spec b (.slice ad B.length c) most 3 s1 w) bd_82_F37 rfl rfl rfl rfl tK (fun _ _ _ _ _ _ => trivial) ?_
           rintro _ _ ⟨rfl, rfl⟩
           try dsimp only [List.cons_append, List.nil_append]
           refine G.nil (EN.tsr (G.as ?_))
           refine G.as ?_
           refine G.nil (EN.then (CG.ret (EN.then_ret ?_)))
           rw [← hE]
           try dsimp only
           try refine EN.triv ?_
           exact fin_ret2 rfl rfl rfl tK sF (⟨none, none, 0, 0, 0, 0, _, rfl, rfl, rd_nil, rd_nil, rfl, rfl⟩) _ (.inl rfl)
          ·
           refine CG.skip (EN.ts ?_)
           rw [if_neg oM] at hE
           refine CG.regT [] mixed (by kernel_rfl) ?_
           refine G.mv ?_
           refine G.mv ?_
           refine G.q rfl rfl rfl rfl (q_slsl_hi rfl rfl rfl se_78_F5 sz_3_F1 oM) (G.mv ?_)
           refine G.mv ?_
           refine G.q rfl rfl rfl rfl (q_slO_lo rfl rfl rfl se_78_F5 sz_3_F1 oM (hlc)) (G.as ?_)
           refine G.as ?_
           refine G.nil (EN.sub (sC 2 (sC 3 Sub.nil)) ?_)
           refine EN.then (CG.ret ?_)
           rw [← hE]
           try dsimp only
           try refine EN.triv ?_
           exact fin_ret2 rfl rfl rfl tK sF (⟨some ⟨g0, o0, none⟩, adLH lc nl 1 (some ⟨g0, o0, none⟩), nl, lc, l.length - nl, lc - nl, own 3 1 (.slice (some ⟨g0, o0, none⟩) l.length lc) l.length (l.map iv), rfl, rfl, rd_take hr, rd_drop hr hlc, by simp; omega, by simp⟩) _ (.inl rfl)

end Go.Eng
