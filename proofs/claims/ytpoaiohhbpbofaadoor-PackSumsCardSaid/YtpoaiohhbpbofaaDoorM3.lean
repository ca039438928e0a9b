/-
  Joined by program out of the texts F5 F6 F7 F8 F9 F10 F11: contracts for the functions that the law reaches, and the engine that proves them.
-/
import Derived.Test.YtpoaiohhbpbofaaDoorM2
import Derived.Test.YtpoaiohhbpbofaaDoorM1
/-
  Codes by their lengths (huff): each function's contract.
-/
set_option linter.unusedVariables false
set_option linter.unusedSimpArgs false
namespace Go.Eng
open Go.Proofs
theorem ae_120_F5 : arrE Tryd.prog 120 = some (16, 3) := by kernel_rfl
theorem ag_3_F5 : aggB Tryd.prog 3 = some false := by kernel_rfl
theorem ag_52_F5 : aggB Tryd.prog 52 = some false := by kernel_rfl
theorem bd_77_F5 : bodied Tryd.prog 77 = true := by kernel_rfl
theorem bs_52_1_all_F5 : ∀ (x0 : Int) (w : World), (Instr.buildSlice 52 1 [(0, .int .i64 x0)].toArray).run Tryd.prog w = .ok (.slice (some ⟨w.heap.size, 0, none⟩) 1 1) { w with heap := w.heap.push (.cells [.int .i64 x0].toArray 3) } := fun _ _ => by kernel_rfl
theorem bu_122_0_F5 : ∀ (x0a : Option Addr) (x0n x0c : Nat) (w : World), (Instr.build 122 [(0, .slice x0a x0n x0c)].toArray).run Tryd.prog w = .ok (.agg [.slice x0a x0n x0c, .int .i64 0, .int .i64 0, .int .i64 0, .int .i64 0, .int .i64 0, .int .i64 0, .int .i64 0, .int .i64 0, .int .i64 0, .int .i64 0, .int .i64 0, .int .i64 0, .int .i64 0, .int .i64 0, .int .i64 0, .int .i64 0, .slice none 0 0].toArray) w := fun _ _ _ _ => by kernel_rfl
theorem fo_122_0_F5 : fieldOff Tryd.prog 122 0 = some 0 := by kernel_rfl
theorem fo_122_1_F5 : fieldOff Tryd.prog 122 1 = some 1 := by kernel_rfl
theorem fo_122_2_F5 : fieldOff Tryd.prog 122 2 = some 17 := by kernel_rfl
theorem ik_3_F5 : intK Tryd.prog 3 = some .i64 := by kernel_rfl
theorem is_32_F5 : (Tryd.prog.underlying 32).isSome = true := by kernel_rfl
theorem nf_3_F5 : infoB Tryd.prog 3 = some (some [.int .i64 0], 1, 8) := by kernel_rfl
theorem se_52_F5 : sliceE Tryd.prog 52 = some 3 := by kernel_rfl
theorem sz_3_F5 : sizeB Tryd.prog 3 = some 1 := by kernel_rfl
theorem sz_52_F5 : sizeB Tryd.prog 52 = some 1 := by kernel_rfl

def TabP (b : Nat) (ls : List Nat) (p : Value × Value) : List HP := [cel b 122 (p.1 :: (Huff.cntC ls ++ [p.2])), own 3 1 p.1 ls.length (ls.map iv), own 3 1 p.2 (Huff.sorted ls).length ((Huff.sorted ls).map iv)]
def TabAt (b : Nat) (ls : List Nat) : HP := exS (TabP b ls)

set_option maxRecDepth 100000 in
set_option maxHeartbeats 1000000 in
theorem hnew_spec (g off c U : Nat) (cs : List Value) (ls : List Nat) (hls : ∀ x ∈ ls, x ≤ 15) (hlen : 0 < ls.length ∧ ls.length ≤ 320) (hsl : sliceL cs off ls.length = ls.map iv) : Spec Tryd.prog 71 #[.slice (some ⟨g, off, none⟩) ls.length c] [cel g U cs] (Ret fun v hl => (Huff.bad ls = true ∧ v = .tuple #[.pointer none, .int .i64 4] ∧ hl = [cel g U cs]) ∨ (Huff.bad ls = false ∧ ∃ b, v = .tuple #[.pointer (some ⟨b, 0, none⟩), .int .i64 0] ∧ hl = [TabAt b ls, cel g U cs])) := by
 have hsl1 : sliceL cs off (ls.length * 1) = ls.map iv := by rw [Nat.mul_one]; exact hsl
 refine Spec.enter Tryd.func71 rfl rfl rfl (fun F w0 => ?_)
 dsimp only [argL, List.cons_append, List.nil_append]
 refine CG.sr ?_
 refine G.as ?_
 refine G.as ?_
 refine G.nil ?_
 refine EN.ts ?_
 refine CG.sr ?_
 refine G.mv ?_
 refine G.q rfl rfl rfl rfl (q_len_sl rfl rfl se_52_F5) ?_
 refine G.q rfl rfl rfl rfl (q_gtr rfl rfl rfl) ?_
 refine G.nil ?_
 refine EN.then ?_
 refine CG.cond rfl (fun h14 => absurd h14 oM) (fun h14 => ?_)
 refine CG.skip ?_
 refine EN.ts ?_
 refine CG.ownNil 3 1 ?_
 refine CG.reg ?_
 refine G.mv ?_
 refine G.e rfl rfl rfl rfl (e_append_off rfl rfl rfl se_52_F5 nf_3_F5 rfl tK1 mB (hsl1) (by simp) (iv_one ls) oM) (fun _ _ _ _ _ _ => trivial) ?_
 rintro _ _ rfl
 simp only [Nat.zero_add, List.nil_append]
 refine G.ownShape tK1 ?_
 rintro ad c' rfl
 refine G.q rfl rfl rfl rfl (q_build rfl rfl (bu_122_0_F5 _ _ _)) ?_
 refine G.e rfl rfl rfl rfl (e_box rfl rfl) (fun _ _ _ _ _ _ => trivial) ?_
 rintro _ _ ⟨b18, rfl, rfl⟩
 refine G.as ?_
 refine G.nil ?_
 refine EN.ts ?_
 refine CG.sr ?_
 refine G.mv ?_
 refine G.q rfl rfl rfl rfl (q_len_sl rfl rfl se_52_F5) ?_
 refine G.mv ?_
 refine G.nil ?_
 refine EN.then ?_
 refine CG.block ?_
 refine CG.loopI (fun m L H => ∃ k : Nat, k ≤ ls.length ∧ m = (ls.length) - k ∧ L = [(0, .slice (some ⟨g, off, none⟩) ls.length c), (4, .pointer (some ⟨b18, 0, none⟩)), (19, .slice (some ⟨g, off, none⟩) ls.length c), (20, .int .i64 ls.length), (21, .int .i64 k)] ∧ H = [cel b18 122 ((.slice ad ls.length c') :: (Huff.cntC (ls.take k) ++ [.slice none 0 0])), own 3 1 (.slice ad ls.length c') ls.length (ls.map iv), cel g U cs] ++ F) ((ls.length) - 0) (hl := [_, _, _]) (⟨0, Nat.zero_le _, rfl, rfl, rfl⟩) sB rfl tK sF ?_
 rintro m L H ⟨k, hk, rfl, rfl, rfl⟩
 try dsimp only [List.cons_append, List.nil_append]
 refine CG.sr ?_
 refine G.q rfl rfl rfl rfl (q_lss rfl rfl rfl) ?_
 refine G.nil ?_
 refine EN.ts ?_
 refine CG.cond rfl (fun h22 => ?_) (fun h22 => ?_)
 ·
  obtain ⟨x, hc⟩ := get_some (l := ls) (k := k) oM
  have hs := take_snoc hc
  have hx15 := hls x (List.mem_of_getElem? hc)
  have hcl := Huff.count_le (ls.take k) x
  rw [List.length_take] at hcl
  refine CG.skip ?_
  refine EN.ts ?_
  refine CG.block ?_
  refine CG.sr ?_
  first | refine G.q rfl rfl rfl rfl (q_ixaddr1 rfl rfl rfl se_52_F5 sz_3_F5 oM) ?_ | refine G.q rfl rfl rfl rfl (q_ixaddr rfl rfl rfl se_52_F5 sz_3_F5 oM) ?_
  first | refine G.r rfl rfl rfl rfl (r_load rfl rfl ag_3_F5 .here (nth_sliceL hsl (get_iv hc))) ?_ | refine G.r rfl rfl rfl rfl (r_load rfl rfl ag_3_F5 (.there .here) (nth_sliceL hsl (get_iv hc))) ?_ | refine G.r rfl rfl rfl rfl (r_load rfl rfl ag_3_F5 (.there (.there .here)) (nth_sliceL hsl (get_iv hc))) ?_ | refine G.r rfl rfl rfl rfl (r_load rfl rfl ag_3_F5 (.there (.there (.there .here))) (nth_sliceL hsl (get_iv hc))) ?_ | refine G.r rfl rfl rfl rfl (r_load rfl rfl ag_3_F5 (.there (.there (.there (.there .here)))) (nth_sliceL hsl (get_iv hc))) ?_
  refine G.as ?_
  refine G.nil ?_
  refine EN.ts ?_
  refine CG.sr ?_
  refine G.mv ?_
  refine G.q rfl rfl rfl rfl (q_lss rfl rfl rfl) ?_
  refine G.mv ?_
  refine G.split (t := 27) rfl (fun g27 => absurd g27 oM) (fun g27 => ?_)
  refine G.mv ?_
  refine G.q rfl rfl rfl rfl (q_gtr rfl rfl rfl) ?_
  refine G.q rfl rfl rfl rfl (q_pick_f rfl rfl rfl) ?_
  refine G.nil ?_
  refine EN.then ?_
  refine CG.cond rfl (fun h30 => absurd h30 oM) (fun h30 => ?_)
  refine CG.skip ?_
  refine EN.then ?_
  refine CG.regT [] mixed (by kernel_rfl) ?_
  refine G.mv ?_
  refine G.mv ?_
  first | refine G.np ?_ | refine G.q rfl rfl rfl rfl (q_nil_f rfl rfl) ?_
  first | refine G.q rfl rfl rfl rfl (q_field0 rfl rfl fo_122_1_F5) ?_ | refine G.q rfl rfl rfl rfl (q_field rfl rfl fo_122_1_F5) ?_
  refine G.q rfl rfl rfl rfl (q_ixarr rfl rfl rfl ae_120_F5 sz_3_F5 oM) ?_
  first | refine G.r rfl rfl rfl rfl (r_load rfl rfl ag_3_F5 .here (Huff.nth_cnt _ oM)) ?_ | refine G.r rfl rfl rfl rfl (r_load rfl rfl ag_3_F5 (.there .here) (Huff.nth_cnt _ oM)) ?_ | refine G.r rfl rfl rfl rfl (r_load rfl rfl ag_3_F5 (.there (.there .here)) (Huff.nth_cnt _ oM)) ?_ | refine G.r rfl rfl rfl rfl (r_load rfl rfl ag_3_F5 (.there (.there (.there .here))) (Huff.nth_cnt _ oM)) ?_ | refine G.r rfl rfl rfl rfl (r_load rfl rfl ag_3_F5 (.there (.there (.there (.there .here)))) (Huff.nth_cnt _ oM)) ?_
  first | refine G.q rfl rfl rfl rfl (q_add_i rfl rfl rfl oM) ?_ | refine G.q rfl rfl rfl rfl (q_add rfl rfl rfl) ?_
  first | refine G.np ?_ | refine G.q rfl rfl rfl rfl (q_nil_f rfl rfl) ?_
  first | refine G.q rfl rfl rfl rfl (q_field0 rfl rfl fo_122_1_F5) ?_ | refine G.q rfl rfl rfl rfl (q_field rfl rfl fo_122_1_F5) ?_
  refine G.q rfl rfl rfl rfl (q_ixarr rfl rfl rfl ae_120_F5 sz_3_F5 oM) ?_
  first | refine G.e0 rfl rfl rfl (e_store rfl rfl rfl sz_3_F5 rfl (Huff.set_cnt _ oM) .here) (fun _ _ _ _ _ _ => trivial) ?_ | refine G.e0 rfl rfl rfl (e_store rfl rfl rfl sz_3_F5 rfl (Huff.set_cnt _ oM) (.there .here)) (fun _ _ _ _ _ _ => trivial) ?_ | refine G.e0 rfl rfl rfl (e_store rfl rfl rfl sz_3_F5 rfl (Huff.set_cnt _ oM) (.there (.there .here))) (fun _ _ _ _ _ _ => trivial) ?_ | refine G.e0 rfl rfl rfl (e_store rfl rfl rfl sz_3_F5 rfl (Huff.set_cnt _ oM) (.there (.there (.there .here)))) (fun _ _ _ _ _ _ => trivial) ?_ | refine G.e0 rfl rfl rfl (e_store rfl rfl rfl sz_3_F5 rfl (Huff.set_cnt _ oM) (.there (.there (.there (.there .here))))) (fun _ _ _ _ _ _ => trivial) ?_
  rintro _ _ ⟨rfl, rfl⟩
  refine G.nil ?_
  refine EN.sub (sC 0 (sC 4 (sC 19 (sC 20 (sC 21 Sub.nil))))) ?_
  refine EN.in_normal ?_
  refine EN.tr ?_
  first | refine G.q rfl rfl rfl rfl (q_add_i rfl rfl rfl oM) ?_ | refine G.q rfl rfl rfl rfl (q_add rfl rfl rfl) ?_
  refine G.mv ?_
  refine G.nil ?_
  rw [← hs]
  exact EN.round (hl := [_, _, _]) ((ls.length) - (k + 1)) oM (⟨k + 1, by omega, rfl, rfl, rfl⟩) sB rfl tK sF
 ·
  obtain rfl : k = ls.length := by omega
  rw [List.take_length]
  refine CG.exit ?_
  refine EN.then_exit ?_
  refine EN.then_exit ?_
  refine EN.in_here ?_
  refine EN.tsr ?_
  refine G.as ?_
  refine G.as ?_
  refine G.nil ?_
  refine EN.ts ?_
  refine CG.sr ?_
  refine G.as ?_
  refine G.nil ?_
  refine EN.then ?_
  refine CG.block ?_
  refine CG.ownNil 3 1 ?_
  refine CG.loopI (fun m L H => ∃ k : Nat, ∃ (u : Value), k ≤ 15 ∧ (∀ n, n < k → 0 ≤ Huff.leftTo ls (n + 1)) ∧ m = (15) - k ∧ L = [(0, .slice (some ⟨g, off, none⟩) ls.length c), (4, .pointer (some ⟨b18, 0, none⟩)), (7, .int .i64 (Huff.leftTo ls k)), (8, .int .i64 (Huff.codesTo ls k)), (9, .int .i64 (k + 1 : Nat))] ∧ H = [cel b18 122 ((.slice ad ls.length c') :: (Huff.cntC (ls) ++ [u])), own 3 1 (.slice ad ls.length c') ls.length (ls.map iv), own 3 1 u (Huff.sortedTo ls k).length ((Huff.sortedTo ls k).map iv), cel g U cs] ++ F) ((15) - 0) (hl := [_, _, _, _]) (⟨0, .slice none 0 0, Nat.zero_le _, (fun n hn => absurd hn (Nat.not_lt_zero n)), rfl, rfl, rfl⟩) sB rfl tK sF ?_
  rintro m L H ⟨k, u, hk, he, rfl, rfl, rfl⟩
  try dsimp only [List.cons_append, List.nil_append]
  have hl := Huff.leftTo_le' ls (n := k) oM
  have hl2 : 0 ≤ Huff.leftTo ls k := by
    cases k with
    | zero => simp [Huff.leftTo]
    | succ n => exact he n oM
  have hcn := Huff.count_le ls (k + 1)
  have hcd := Huff.codesTo_le ls k
  have hcd2 : ls.length * k ≤ 320 * 15 := Nat.mul_le_mul hlen.2 hk
  have hsd := Huff.sortedTo_le ls k
  refine CG.seq ?_
  refine CG.sr ?_
  refine G.mv ?_
  refine G.q rfl rfl rfl rfl (q_leq rfl rfl rfl) ?_
  refine G.nil ?_
  refine EN.then ?_
  refine CG.cond rfl (fun h43 => ?_) (fun h43 => ?_)
  ·
   refine CG.skip ?_
   refine EN.ts ?_
   refine CG.block ?_
   refine CG.sr ?_
   refine G.mv ?_
   first | refine G.q rfl rfl rfl rfl (q_mul_i rfl rfl rfl oM) ?_ | refine G.q rfl rfl rfl rfl (q_mul rfl rfl rfl) ?_
   refine G.mv ?_
   refine G.mv ?_
   first | refine G.np ?_ | refine G.q rfl rfl rfl rfl (q_nil_f rfl rfl) ?_
   first | refine G.q rfl rfl rfl rfl (q_field0 rfl rfl fo_122_1_F5) ?_ | refine G.q rfl rfl rfl rfl (q_field rfl rfl fo_122_1_F5) ?_
   refine G.q rfl rfl rfl rfl (q_ixarr rfl rfl rfl ae_120_F5 sz_3_F5 oM) ?_
   first | refine G.r rfl rfl rfl rfl (r_load rfl rfl ag_3_F5 .here (Huff.nth_cnt _ oM)) ?_ | refine G.r rfl rfl rfl rfl (r_load rfl rfl ag_3_F5 (.there .here) (Huff.nth_cnt _ oM)) ?_ | refine G.r rfl rfl rfl rfl (r_load rfl rfl ag_3_F5 (.there (.there .here)) (Huff.nth_cnt _ oM)) ?_ | refine G.r rfl rfl rfl rfl (r_load rfl rfl ag_3_F5 (.there (.there (.there .here))) (Huff.nth_cnt _ oM)) ?_ | refine G.r rfl rfl rfl rfl (r_load rfl rfl ag_3_F5 (.there (.there (.there (.there .here)))) (Huff.nth_cnt _ oM)) ?_
   first | refine G.q rfl rfl rfl rfl (q_sub_i rfl rfl rfl oM) ?_ | refine G.q rfl rfl rfl rfl (q_sub rfl rfl rfl) ?_
   refine G.as ?_
   refine G.nil ?_
   refine EN.sub (sC 0 (sC 4 (sC 7 (sC 8 (sC 9 Sub.nil))))) ?_
   refine EN.tsr ?_
   refine G.mv ?_
   refine G.mv ?_
   refine G.mv ?_
   first | refine G.np ?_ | refine G.q rfl rfl rfl rfl (q_nil_f rfl rfl) ?_
   first | refine G.q rfl rfl rfl rfl (q_field0 rfl rfl fo_122_1_F5) ?_ | refine G.q rfl rfl rfl rfl (q_field rfl rfl fo_122_1_F5) ?_
   refine G.q rfl rfl rfl rfl (q_ixarr rfl rfl rfl ae_120_F5 sz_3_F5 oM) ?_
   first | refine G.r rfl rfl rfl rfl (r_load rfl rfl ag_3_F5 .here (Huff.nth_cnt _ oM)) ?_ | refine G.r rfl rfl rfl rfl (r_load rfl rfl ag_3_F5 (.there .here) (Huff.nth_cnt _ oM)) ?_ | refine G.r rfl rfl rfl rfl (r_load rfl rfl ag_3_F5 (.there (.there .here)) (Huff.nth_cnt _ oM)) ?_ | refine G.r rfl rfl rfl rfl (r_load rfl rfl ag_3_F5 (.there (.there (.there .here))) (Huff.nth_cnt _ oM)) ?_ | refine G.r rfl rfl rfl rfl (r_load rfl rfl ag_3_F5 (.there (.there (.there (.there .here)))) (Huff.nth_cnt _ oM)) ?_
   first | refine G.q rfl rfl rfl rfl (q_add_i rfl rfl rfl oM) ?_ | refine G.q rfl rfl rfl rfl (q_add rfl rfl rfl) ?_
   refine G.as ?_
   refine G.nil ?_
   refine EN.ts ?_
   refine CG.sr ?_
   refine G.mv ?_
   refine G.q rfl rfl rfl rfl (q_lss rfl rfl rfl) ?_
   refine G.nil ?_
   refine EN.sub (sC 0 (sC 4 (sC 7 (sC 8 (sC 9 (sC 64 Sub.nil)))))) ?_
   refine EN.then ?_
   refine CG.cond rfl (fun h64 => ?_) (fun h64 => ?_)
   ·
    refine CG.seq ?_
    have hb := Huff.bad_neg (ls := ls) (n := k) oM h64
    refine CG.reg ?_
    refine G.as ?_
    refine G.as ?_
    refine G.nil ?_
    refine EN.then ?_
    refine CG.ret ?_
    refine EN.then_ret ?_
    refine EN.in_ret ?_
    refine EN.then_ret ?_
    refine EN.then_ret ?_
    refine EN.in_ret ?_
    refine EN.then_ret ?_
    exact fin_ret2 rfl rfl rfl tK sF (.inl ⟨hb, rfl, rfl⟩) _ (.inl rfl)
   ·
    refine CG.skip ?_
    refine EN.tsr ?_
    refine G.mv ?_
    refine G.q rfl rfl rfl rfl (q_len_sl rfl rfl se_52_F5) ?_
    refine G.mv ?_
    refine G.nil ?_
    refine EN.then ?_
    refine CG.block ?_
    rw [← List.append_nil (Huff.sortedTo ls k)]
    refine CG.loopI (fun m L H => ∃ j : Nat, ∃ (u : Value), j ≤ ls.length ∧ m = (ls.length) - j ∧ L = [(0, .slice (some ⟨g, off, none⟩) ls.length c), (4, .pointer (some ⟨b18, 0, none⟩)), (7, .int .i64 (Huff.leftTo ls (k + 1))), (8, .int .i64 (Huff.codesTo ls (k + 1))), (9, .int .i64 (k + 1 : Nat)), (65, .slice (some ⟨g, off, none⟩) ls.length c), (66, .int .i64 ls.length), (67, .int .i64 j)] ∧ H = [cel b18 122 ((.slice ad ls.length c') :: (Huff.cntC (ls) ++ [u])), own 3 1 (.slice ad ls.length c') ls.length (ls.map iv), own 3 1 u (Huff.sortedTo ls k ++ Huff.idxTo ls (k + 1) j).length ((Huff.sortedTo ls k ++ Huff.idxTo ls (k + 1) j).map iv), cel g U cs] ++ F) ((ls.length) - 0) (hl := [_, _, _, _]) (⟨0, u, Nat.zero_le _, rfl, rfl, rfl⟩) sB rfl tK sF ?_
    rintro m L H ⟨j, u, hk, rfl, rfl, rfl⟩
    try dsimp only [List.cons_append, List.nil_append]
    refine CG.sr ?_
    refine G.q rfl rfl rfl rfl (q_lss rfl rfl rfl) ?_
    refine G.nil ?_
    refine EN.ts ?_
    refine CG.cond rfl (fun h68 => ?_) (fun h68 => ?_)
    ·
     obtain ⟨x, hc⟩ := get_some (l := ls) (k := j) oM
     have hil := Huff.idxTo_len ls (k + 1) j hk
     have hil2 := Huff.count_le (ls.take j) (k + 1)
     rw [List.length_take] at hil2
     refine CG.skip ?_
     refine EN.ts ?_
     refine CG.block ?_
     refine CG.sr ?_
     refine G.mv ?_
     first | refine G.q rfl rfl rfl rfl (q_ixaddr1 rfl rfl rfl se_52_F5 sz_3_F5 oM) ?_ | refine G.q rfl rfl rfl rfl (q_ixaddr rfl rfl rfl se_52_F5 sz_3_F5 oM) ?_
     first | refine G.r rfl rfl rfl rfl (r_load rfl rfl ag_3_F5 .here (nth_sliceL hsl (get_iv hc))) ?_ | refine G.r rfl rfl rfl rfl (r_load rfl rfl ag_3_F5 (.there .here) (nth_sliceL hsl (get_iv hc))) ?_ | refine G.r rfl rfl rfl rfl (r_load rfl rfl ag_3_F5 (.there (.there .here)) (nth_sliceL hsl (get_iv hc))) ?_ | refine G.r rfl rfl rfl rfl (r_load rfl rfl ag_3_F5 (.there (.there (.there .here))) (nth_sliceL hsl (get_iv hc))) ?_ | refine G.r rfl rfl rfl rfl (r_load rfl rfl ag_3_F5 (.there (.there (.there (.there .here)))) (nth_sliceL hsl (get_iv hc))) ?_
     refine G.as ?_
     refine G.as ?_
     refine G.nil ?_
     refine EN.tsr ?_
     refine G.mv ?_
     refine G.mv ?_
     refine G.q rfl rfl rfl rfl (q_eql rfl rfl rfl) ?_
     refine G.nil ?_
     refine EN.then ?_
     refine CG.cond rfl (fun h74 => ?_) (fun h74 => ?_)
     ·
      have hxk : x = k + 1 := by omega
      have e : (Huff.sortedTo ls k ++ Huff.idxTo ls (k + 1) j) ++ [j] = Huff.sortedTo ls k ++ Huff.idxTo ls (k + 1) (j + 1) := by
        rw [Huff.idxTo_succ, if_pos (by rw [hc, hxk]), List.append_assoc]
      refine CG.reg ?_
      refine G.mv ?_
      refine G.mv ?_
      first | refine G.np ?_ | refine G.q rfl rfl rfl rfl (q_nil_f rfl rfl) ?_
      first | refine G.q rfl rfl rfl rfl (q_field0 rfl rfl fo_122_2_F5) ?_ | refine G.q rfl rfl rfl rfl (q_field rfl rfl fo_122_2_F5) ?_
      first | refine G.r rfl rfl rfl rfl (r_load rfl rfl ag_52_F5 .here (Huff.nth_cnt17 _)) ?_ | refine G.r rfl rfl rfl rfl (r_load rfl rfl ag_52_F5 (.there .here) (Huff.nth_cnt17 _)) ?_ | refine G.r rfl rfl rfl rfl (r_load rfl rfl ag_52_F5 (.there (.there .here)) (Huff.nth_cnt17 _)) ?_ | refine G.r rfl rfl rfl rfl (r_load rfl rfl ag_52_F5 (.there (.there (.there .here))) (Huff.nth_cnt17 _)) ?_ | refine G.r rfl rfl rfl rfl (r_load rfl rfl ag_52_F5 (.there (.there (.there (.there .here)))) (Huff.nth_cnt17 _)) ?_
      refine G.mv ?_
      refine G.e rfl rfl rfl rfl (e_bslice rfl rfl (bs_52_1_all_F5 _)) (fun _ _ _ _ _ _ => trivial) ?_
      rintro _ _ ⟨b81, rfl, rfl⟩
      refine G.e rfl rfl rfl rfl (e_append rfl rfl rfl se_52_F5 nf_3_F5 rfl tK1 mB (by rfl) (by simp [Value.oneCell', str]) (by rw [List.length_append]; omega)) (fun _ _ _ _ _ _ => trivial) ?_
      rintro _ _ rfl
      rw [own_snocI, e]
      refine G.ownShape tK1 ?_
      rintro ad2 c2 rfl
      first | refine G.np ?_ | refine G.q rfl rfl rfl rfl (q_nil_f rfl rfl) ?_
      first | refine G.q rfl rfl rfl rfl (q_field0 rfl rfl fo_122_2_F5) ?_ | refine G.q rfl rfl rfl rfl (q_field rfl rfl fo_122_2_F5) ?_
      first | refine G.e0 rfl rfl rfl (e_store rfl rfl rfl sz_52_F5 rfl (Huff.set_cnt17 _) .here) (fun _ _ _ _ _ _ => trivial) ?_ | refine G.e0 rfl rfl rfl (e_store rfl rfl rfl sz_52_F5 rfl (Huff.set_cnt17 _) (.there .here)) (fun _ _ _ _ _ _ => trivial) ?_ | refine G.e0 rfl rfl rfl (e_store rfl rfl rfl sz_52_F5 rfl (Huff.set_cnt17 _) (.there (.there .here))) (fun _ _ _ _ _ _ => trivial) ?_ | refine G.e0 rfl rfl rfl (e_store rfl rfl rfl sz_52_F5 rfl (Huff.set_cnt17 _) (.there (.there (.there .here)))) (fun _ _ _ _ _ _ => trivial) ?_ | refine G.e0 rfl rfl rfl (e_store rfl rfl rfl sz_52_F5 rfl (Huff.set_cnt17 _) (.there (.there (.there (.there .here))))) (fun _ _ _ _ _ _ => trivial) ?_
      rintro _ _ ⟨rfl, rfl⟩
      refine G.nil ?_
      refine EN.sub (sC 0 (sC 4 (sC 7 (sC 8 (sC 9 (sC 65 (sC 66 (sC 67 Sub.nil)))))))) ?_
      refine EN.in_normal ?_
      refine EN.tr ?_
      first | refine G.q rfl rfl rfl rfl (q_add_i rfl rfl rfl oM) ?_ | refine G.q rfl rfl rfl rfl (q_add rfl rfl rfl) ?_
      refine G.mv ?_
      refine G.nil ?_
      exact EN.round (hl := [_, _, _, _]) ((ls.length) - (j + 1)) oM (⟨j + 1, _, by omega, rfl, rfl, rfl⟩) sB rfl tK sF
     ·
      have hxk : x ≠ k + 1 := by omega
      have e : Huff.idxTo ls (k + 1) j = Huff.idxTo ls (k + 1) (j + 1) := by
        rw [Huff.idxTo_succ, if_neg (by rw [hc]; simpa using hxk)]
      rw [e]
      refine CG.skip ?_
      refine EN.in_normal ?_
      refine EN.tr ?_
      first | refine G.q rfl rfl rfl rfl (q_add_i rfl rfl rfl oM) ?_ | refine G.q rfl rfl rfl rfl (q_add rfl rfl rfl) ?_
      refine G.mv ?_
      refine G.nil ?_
      exact EN.round (hl := [_, _, _, _]) ((ls.length) - (j + 1)) oM (⟨j + 1, _, by omega, rfl, rfl, rfl⟩) sB rfl tK sF
    ·
     obtain rfl : j = ls.length := by omega
     refine CG.exit ?_
     refine EN.then_exit ?_
     refine EN.then_exit ?_
     refine EN.in_here ?_
     refine EN.in_normal ?_
     refine EN.tr ?_
     refine G.mv ?_
     first | refine G.q rfl rfl rfl rfl (q_add_i rfl rfl rfl oM) ?_ | refine G.q rfl rfl rfl rfl (q_add rfl rfl rfl) ?_
     refine G.as ?_
     refine G.nil ?_
     have hx : ∀ n, n < k + 1 → 0 ≤ Huff.leftTo ls (n + 1) := by
       intro n hn
       rcases Nat.lt_or_ge n k with h1 | h1
       · exact he n h1
       · rw [show n = k by omega]; have h2 := h64; exact Int.not_lt.1 h2
     exact EN.round (hl := [_, _, _, _]) ((15) - (k + 1)) oM (⟨k + 1, _, by omega, hx, rfl, rfl, rfl⟩) sB rfl tK sF
  ·
   obtain rfl : k = 15 := by omega
   refine CG.exit ?_
   refine EN.then_exit ?_
   refine EN.then_exit ?_
   refine EN.in_here ?_
   refine EN.ts ?_
   refine CG.sr ?_
   refine G.mv ?_
   refine G.q rfl rfl rfl rfl (q_gtr rfl rfl rfl) ?_
   refine G.mv ?_
   refine G.split (t := 88) rfl (fun g88 => ?_) (fun g88 => ?_)
   ·
    refine G.mv ?_
    refine G.q rfl rfl rfl rfl (q_gtr rfl rfl rfl) ?_
    refine G.q rfl rfl rfl rfl (q_pick_t rfl rfl rfl) ?_
    refine G.mv ?_
    refine G.split (t := 92) rfl (fun g92 => ?_) (fun g92 => ?_)
    ·
     refine G.mv ?_
     refine G.q rfl rfl rfl rfl (q_eql rfl rfl rfl) ?_
     refine G.mv ?_
     refine G.split (t := 95) rfl (fun g95 => ?_) (fun g95 => ?_)
     ·
      refine G.mv ?_
      first | refine G.np ?_ | refine G.q rfl rfl rfl rfl (q_nil_f rfl rfl) ?_
      first | refine G.q rfl rfl rfl rfl (q_field0 rfl rfl fo_122_1_F5) ?_ | refine G.q rfl rfl rfl rfl (q_field rfl rfl fo_122_1_F5) ?_
      refine G.q rfl rfl rfl rfl (q_ixarr rfl rfl rfl ae_120_F5 sz_3_F5 (by decide)) ?_
      first | refine G.r rfl rfl rfl rfl (r_load rfl rfl ag_3_F5 .here (Huff.nth_cnt (i := 1) _ oM)) ?_ | refine G.r rfl rfl rfl rfl (r_load rfl rfl ag_3_F5 (.there .here) (Huff.nth_cnt (i := 1) _ oM)) ?_ | refine G.r rfl rfl rfl rfl (r_load rfl rfl ag_3_F5 (.there (.there .here)) (Huff.nth_cnt (i := 1) _ oM)) ?_ | refine G.r rfl rfl rfl rfl (r_load rfl rfl ag_3_F5 (.there (.there (.there .here))) (Huff.nth_cnt (i := 1) _ oM)) ?_ | refine G.r rfl rfl rfl rfl (r_load rfl rfl ag_3_F5 (.there (.there (.there (.there .here)))) (Huff.nth_cnt (i := 1) _ oM)) ?_
      refine G.q rfl rfl rfl rfl (q_eql rfl rfl rfl) ?_
      refine G.q rfl rfl rfl rfl (q_pick_t rfl rfl rfl) ?_
      refine G.q rfl rfl rfl rfl (q_not rfl rfl) ?_
      refine G.q rfl rfl rfl rfl (q_pick_t rfl rfl rfl) ?_
      refine G.nil ?_
      refine EN.sub (sC 4 (sC 104 Sub.nil)) ?_
      refine EN.then ?_
      refine CG.condB rfl (fun h104 => ?_) (fun h104 => ?_)
      ·
       have h104b : ¬ ls.count 1 = 1 := by simp at h104; omega
       refine CG.seq ?_
       have hb : Huff.bad ls = true := by rw [Huff.bad_end he]; simp; omega
       refine CG.reg ?_
       refine G.as ?_
       refine G.as ?_
       refine G.nil ?_
       refine EN.then ?_
       refine CG.ret ?_
       refine EN.then_ret ?_
       exact fin_ret2 rfl rfl rfl tK sF (.inl ⟨hb, rfl, rfl⟩) _ (.inl rfl)
      ·
       have h104b : ls.count 1 = 1 := by simp at h104; omega
       refine CG.skip ?_
       refine EN.ts ?_
       have hb : Huff.bad ls = false := by rw [Huff.bad_end he]; simp; omega
       refine CG.closeS (TabP b18 ls) (.slice ad ls.length c', u) tK ?_
       refine CG.reg ?_
       refine G.mv ?_
       refine G.as ?_
       refine G.as ?_
       refine G.nil ?_
       refine EN.then ?_
       refine CG.ret ?_
       exact fin_ret2 rfl rfl rfl tK sF (.inr ⟨hb, b18, rfl, rfl⟩) _ (.inl rfl)
     ·
      refine G.skip rfl rfl rfl ?_
      refine G.skip rfl rfl rfl ?_
      refine G.skip rfl rfl rfl ?_
      refine G.skip rfl rfl rfl ?_
      refine G.skip rfl rfl rfl ?_
      refine G.skip rfl rfl rfl ?_
      refine G.q rfl rfl rfl rfl (q_pick_f rfl rfl rfl) ?_
      refine G.q rfl rfl rfl rfl (q_not rfl rfl) ?_
      refine G.q rfl rfl rfl rfl (q_pick_t rfl rfl rfl) ?_
      refine G.nil ?_
      refine EN.sub (sC 4 (sC 104 Sub.nil)) ?_
      refine EN.then ?_
      refine CG.cond_t rfl ?_
      refine CG.seq ?_
      have hb : Huff.bad ls = true := by rw [Huff.bad_end he]; simp; omega
      refine CG.reg ?_
      refine G.as ?_
      refine G.as ?_
      refine G.nil ?_
      refine EN.then ?_
      refine CG.ret ?_
      refine EN.then_ret ?_
      exact fin_ret2 rfl rfl rfl tK sF (.inl ⟨hb, rfl, rfl⟩) _ (.inl rfl)
    ·
     refine G.skip rfl rfl rfl ?_
     refine G.skip rfl rfl rfl ?_
     refine G.skip rfl rfl rfl ?_
     refine G.skip rfl rfl rfl ?_
     refine G.skip rfl rfl rfl ?_
     refine G.skip rfl rfl rfl ?_
     refine G.skip rfl rfl rfl ?_
     refine G.skip rfl rfl rfl ?_
     refine G.skip rfl rfl rfl ?_
     refine G.skip rfl rfl rfl ?_
     refine G.skip rfl rfl rfl ?_
     refine G.q rfl rfl rfl rfl (q_pick_f rfl rfl rfl) ?_
     refine G.nil ?_
     refine EN.sub (sC 4 (sC 104 Sub.nil)) ?_
     refine EN.then ?_
     refine CG.cond_f rfl ?_
     refine CG.skip ?_
     refine EN.ts ?_
     have hb : Huff.bad ls = false := by rw [Huff.bad_end he]; simp; omega
     refine CG.closeS (TabP b18 ls) (.slice ad ls.length c', u) tK ?_
     refine CG.reg ?_
     refine G.mv ?_
     refine G.as ?_
     refine G.as ?_
     refine G.nil ?_
     refine EN.then ?_
     refine CG.ret ?_
     exact fin_ret2 rfl rfl rfl tK sF (.inr ⟨hb, b18, rfl, rfl⟩) _ (.inl rfl)
   ·
    refine G.skip rfl rfl rfl ?_
    refine G.skip rfl rfl rfl ?_
    refine G.q rfl rfl rfl rfl (q_pick_f rfl rfl rfl) ?_
    refine G.mv ?_
    refine G.skip rfl rfl rfl ?_
    refine G.skip rfl rfl rfl ?_
    refine G.skip rfl rfl rfl ?_
    refine G.skip rfl rfl rfl ?_
    refine G.skip rfl rfl rfl ?_
    refine G.skip rfl rfl rfl ?_
    refine G.skip rfl rfl rfl ?_
    refine G.skip rfl rfl rfl ?_
    refine G.skip rfl rfl rfl ?_
    refine G.skip rfl rfl rfl ?_
    refine G.skip rfl rfl rfl ?_
    refine G.q rfl rfl rfl rfl (q_pick_f rfl rfl rfl) ?_
    refine G.nil ?_
    refine EN.sub (sC 4 (sC 104 Sub.nil)) ?_
    refine EN.then ?_
    refine CG.cond_f rfl ?_
    refine CG.skip ?_
    refine EN.ts ?_
    have hb : Huff.bad ls = false := by rw [Huff.bad_end he]; simp; omega
    refine CG.closeS (TabP b18 ls) (.slice ad ls.length c', u) tK ?_
    refine CG.reg ?_
    refine G.mv ?_
    refine G.as ?_
    refine G.as ?_
    refine G.nil ?_
    refine EN.then ?_
    refine CG.ret ?_
    exact fin_ret2 rfl rfl rfl tK sF (.inr ⟨hb, b18, rfl, rfl⟩) _ (.inl rfl)

attribute [local irreducible] cel own exS Huff.sorted Huff.cntC

set_option maxRecDepth 100000 in
set_option maxHeartbeats 1000000 in
theorem hread_spec (b rb : Nat) (ls : List Nat) (r : RD) (hr : r.Ok) (hlen : ls.length ≤ 320) : Spec Tryd.prog 80 #[.pointer (some ⟨b, 0, none⟩), .pointer (some ⟨rb, 0, none⟩)] [TabAt b ls, RdAt rb r] (Ret fun v hl => v = .tuple #[.int .i64 (Huff.read ls r).2.1, .int .i64 (Huff.read ls r).2.2] ∧ hl = [TabAt b ls, RdAt rb (Huff.read ls r).1]) := by
 refine Spec.enter Tryd.func80 rfl rfl rfl (fun F w0 => ?_)
 dsimp only [argL, List.cons_append, List.nil_append]
 refine CG.seq ?_
 refine CG.openS (TabP b ls) tK1 (fun p => ?_)
 obtain ⟨v, u⟩ := p
 unfold TabP
 dsimp only [List.cons_append, List.nil_append]
 refine CG.ownShape u tK1 (fun ad c2 hu => ?_)
 subst hu
 refine CG.reg ?_
 refine G.as ?_
 refine G.as ?_
 refine G.nil ?_
 refine EN.ts ?_
 refine CG.sr ?_
 refine G.mv ?_
 first | refine G.np ?_ | refine G.q rfl rfl rfl rfl (q_nil_f rfl rfl) ?_
 first | refine G.q rfl rfl rfl rfl (q_field0 rfl rfl fo_122_2_F5) ?_ | refine G.q rfl rfl rfl rfl (q_field rfl rfl fo_122_2_F5) ?_
 first | refine G.r rfl rfl rfl rfl (r_load rfl rfl ag_52_F5 .here (Huff.nth_cnt17 _)) ?_ | refine G.r rfl rfl rfl rfl (r_load rfl rfl ag_52_F5 (.there .here) (Huff.nth_cnt17 _)) ?_ | refine G.r rfl rfl rfl rfl (r_load rfl rfl ag_52_F5 (.there (.there .here)) (Huff.nth_cnt17 _)) ?_ | refine G.r rfl rfl rfl rfl (r_load rfl rfl ag_52_F5 (.there (.there (.there .here))) (Huff.nth_cnt17 _)) ?_ | refine G.r rfl rfl rfl rfl (r_load rfl rfl ag_52_F5 (.there (.there (.there (.there .here)))) (Huff.nth_cnt17 _)) ?_
 refine G.q rfl rfl rfl rfl (q_len_sl rfl rfl se_52_F5) ?_
 refine G.q rfl rfl rfl rfl (q_eql rfl rfl rfl) ?_
 refine G.nil ?_
 refine EN.then ?_
 refine CG.cond rfl (fun h18 => ?_) (fun h18 => ?_)
 ·
  have hE : Huff.read ls r = (r, 0, 3) := if_pos oM
  refine CG.sr ?_
  refine G.as ?_
  refine G.as ?_
  refine G.nil ?_
  refine EN.then ?_
  refine CG.ret ?_
  refine EN.then_ret ?_
  first | refine EN.closeOwn (g := g) tK1 hcap hmx hcl hct ?_ | skip
  refine EN.closeS (TabP b ls) (v, _) tK ?_
  rw [hE]
  try dsimp only
  exact fin_ret2 rfl rfl rfl tK sF (⟨rfl, rfl⟩) _ (.inl rfl)
 ·
  have hE0 : Huff.read ls r = Huff.readGo ls (Huff.sorted ls) 15 1 0 0 0 r := if_neg oM
  refine CG.skip ?_
  refine EN.tsr ?_
  refine G.as ?_
  refine G.as ?_
  refine G.as ?_
  refine G.nil ?_
  refine EN.ts ?_
  refine CG.sr ?_
  refine G.as ?_
  refine G.nil ?_
  refine EN.then ?_
  refine CG.block ?_
  refine CG.loopI (fun m L H => ∃ (k code first att : Nat) (q : RD), q.Ok ∧ Huff.readGo ls (Huff.sorted ls) (15 - k) (k + 1) code first att q = Huff.readGo ls (Huff.sorted ls) 15 1 0 0 0 r ∧ first ≤ 2 * code ∧ code + 1 ≤ 2 ^ k ∧ att = (Huff.sortedTo ls k).length ∧ k ≤ 15 ∧ m = 15 - k ∧ L = [(0, .pointer (some ⟨b, 0, none⟩)), (1, .pointer (some ⟨rb, 0, none⟩)), (6, .int .i64 code), (7, .int .i64 first), (8, .int .i64 att), (9, .int .i64 (k + 1 : Nat))] ∧ H = [cel b 122 (v :: (Huff.cntC ls ++ [(.slice ad (Huff.sorted ls).length c2)])), own 3 1 v ls.length (ls.map iv), own 3 1 (.slice ad (Huff.sorted ls).length c2) (Huff.sorted ls).length ((Huff.sorted ls).map iv), RdAt rb q] ++ F) (15) (hl := [_, _, _, _]) (⟨0, 0, 0, 0, r, hr, rfl, by omega, by decide, rfl, by omega, rfl, rfl, rfl⟩) sB rfl tK sF ?_
  rintro m L H ⟨k, code, first, att, q, hq, hgo, hfc, hcp, hat, hk, rfl, rfl, rfl⟩
  try dsimp only [List.cons_append, List.nil_append]
  refine CG.seq ?_
  refine CG.sr ?_
  refine G.mv ?_
  refine G.q rfl rfl rfl rfl (q_leq rfl rfl rfl) ?_
  refine G.nil ?_
  refine EN.then ?_
  refine CG.cond rfl (fun h20 => ?_) (fun h20 => ?_)
  ·
   have hp15 : 2 ^ k ≤ 2 ^ 14 := Nat.pow_le_pow_right oM oM
   rw [show 15 - k = (15 - (k + 1)) + 1 by omega, Huff.readGo] at hgo
   have hx := RD.bits_lt q 1
   have hcn := Huff.count_le ls (k + 1)
   have hs1 := Huff.sortedTo_len_succ ls k
   have hs2 := Huff.sortedTo_mono ls (a := k + 1) (b := 15) oM
   have hs3 := Huff.sortedTo_le ls 15
   have hS : (Huff.sorted ls).length = (Huff.sortedTo ls 15).length := by unfold Huff.sorted; rfl
   have hql : (q.bits 1).1.Ok := RD.bits_ok hq oM
   refine CG.skip ?_
   refine EN.ts ?_
   refine CG.block ?_
   refine CG.sr ?_
   refine G.mv ?_
   refine G.call (xs := [_, _]) rfl rfl (rbits_spec rb q 1 hq oM) bd_77_F5 rfl rfl rfl rfl tK (fun _ _ _ _ _ _ => trivial) ?_
   rintro _ _ ⟨rfl, rfl⟩
   try dsimp only [List.cons_append, List.nil_append]
   refine G.mv ?_
   refine G.q rfl rfl rfl rfl (q_extract rfl rfl rfl) ?_
   refine G.q rfl rfl rfl rfl (q_extract rfl rfl rfl) ?_
   refine G.as ?_
   refine G.as ?_
   refine G.nil ?_
   refine EN.ts ?_
   refine CG.sr ?_
   refine G.mv ?_
   refine G.q rfl rfl rfl rfl (q_not rfl rfl) ?_
   refine G.nil ?_
   refine EN.sub (sC 0 (sC 1 (sC 6 (sC 7 (sC 8 (sC 9 (sC 10 (sC 29 Sub.nil)))))))) ?_
   refine EN.then ?_
   refine CG.condB rfl (fun h29 => ?_) (fun h29 => ?_)
   ·
    have h29b : (q.bits 1).2.2 = false := by simpa using h29
    rw [if_pos h29b] at hgo
    have hE := hE0.trans hgo.symm
    refine CG.sr ?_
    refine G.as ?_
    refine G.as ?_
    refine G.nil ?_
    refine EN.then ?_
    refine CG.ret ?_
    refine EN.then_ret ?_
    refine EN.in_ret ?_
    refine EN.then_ret ?_
    refine EN.then_ret ?_
    refine EN.in_ret ?_
    refine EN.then_ret ?_
    first | refine EN.closeOwn (g := g) tK1 hcap hmx hcl hct ?_ | skip
    refine EN.closeS (TabP b ls) (v, _) tK ?_
    rw [hE]
    try dsimp only
    exact fin_ret2 rfl rfl rfl tK sF (⟨rfl, rfl⟩) _ (.inl rfl)
   ·
    have h29b : ¬ (q.bits 1).2.2 = false := by simpa using h29
    rw [if_neg h29b] at hgo
    have e31 : (code : Int) * 2 + ((q.bits 1).2.1 : Nat) = ((code * 2 + (q.bits 1).2.1 : Nat) : Int) := by omega
    refine CG.skip ?_
    refine EN.tsr ?_
    refine G.mv ?_
    first | refine G.q rfl rfl rfl rfl (q_shlcw (d := 2) rfl rfl rfl (by decide) (by decide) lOm lOm) ?_ | refine G.q rfl rfl rfl rfl (q_shlc (d := 2) rfl rfl rfl (by decide) (by decide)) ?_
    refine G.mv ?_
    first | refine G.q rfl rfl rfl rfl (q_conv_in rfl rfl is_32_F5 ik_3_F5 (wrap64_in oM)) ?_ | refine G.q rfl rfl rfl rfl (q_conv rfl rfl is_32_F5 ik_3_F5) ?_
    first | refine G.q rfl rfl rfl rfl (q_ord (j := 1) (d := 2) rfl rfl rfl (by decide) lOm lOm lOm (by decide)) ?_ | refine G.q rfl rfl rfl rfl (q_or rfl rfl rfl) ?_
    refine G.as ?_
    refine G.nil ?_
    refine EN.ts ?_
    refine CG.sr ?_
    refine G.mv ?_
    refine G.mv ?_
    first | refine G.q rfl rfl rfl rfl (q_sub_i rfl rfl rfl oM) ?_ | refine G.q rfl rfl rfl rfl (q_sub rfl rfl rfl) ?_
    refine G.as ?_
    refine G.nil ?_
    refine EN.sub (sC 0 (sC 1 (sC 6 (sC 7 (sC 8 (sC 9 (sC 12 Sub.nil))))))) ?_
    refine EN.tsr ?_
    refine G.mv ?_
    refine G.mv ?_
    refine G.mv ?_
    first | refine G.np ?_ | refine G.q rfl rfl rfl rfl (q_nil_f rfl rfl) ?_
    first | refine G.q rfl rfl rfl rfl (q_field0 rfl rfl fo_122_1_F5) ?_ | refine G.q rfl rfl rfl rfl (q_field rfl rfl fo_122_1_F5) ?_
    refine G.q rfl rfl rfl rfl (q_ixarr rfl rfl rfl ae_120_F5 sz_3_F5 oM) ?_
    first | refine G.r rfl rfl rfl rfl (r_load rfl rfl ag_3_F5 .here (Huff.nth_cnt _ oM)) ?_ | refine G.r rfl rfl rfl rfl (r_load rfl rfl ag_3_F5 (.there .here) (Huff.nth_cnt _ oM)) ?_ | refine G.r rfl rfl rfl rfl (r_load rfl rfl ag_3_F5 (.there (.there .here)) (Huff.nth_cnt _ oM)) ?_ | refine G.r rfl rfl rfl rfl (r_load rfl rfl ag_3_F5 (.there (.there (.there .here))) (Huff.nth_cnt _ oM)) ?_ | refine G.r rfl rfl rfl rfl (r_load rfl rfl ag_3_F5 (.there (.there (.there (.there .here)))) (Huff.nth_cnt _ oM)) ?_
    refine G.q rfl rfl rfl rfl (q_lss rfl rfl rfl) ?_
    refine G.nil ?_
    refine EN.then ?_
    refine CG.cond rfl (fun h45 => ?_) (fun h45 => ?_)
    ·
     rw [if_pos oM] at hgo
     have hE := hE0.trans hgo.symm
     have e52 : (att : Int) + ((code : Int) * 2 + ((q.bits 1).2.1 : Nat) - first) = ((att + (code * 2 + (q.bits 1).2.1 - first) : Nat) : Int) := by omega
     refine CG.openOwn (v := (.slice ad (Huff.sorted ls).length c2)) tK1 oM (fun g cap cur hu hcap hmx hcl hct => ?_)
     cases hu
     refine CG.sr ?_
     refine G.mv ?_
     first | refine G.np ?_ | refine G.q rfl rfl rfl rfl (q_nil_f rfl rfl) ?_
     first | refine G.q rfl rfl rfl rfl (q_field0 rfl rfl fo_122_2_F5) ?_ | refine G.q rfl rfl rfl rfl (q_field rfl rfl fo_122_2_F5) ?_
     first | refine G.r rfl rfl rfl rfl (r_load rfl rfl ag_52_F5 .here (Huff.nth_cnt17 _)) ?_ | refine G.r rfl rfl rfl rfl (r_load rfl rfl ag_52_F5 (.there .here) (Huff.nth_cnt17 _)) ?_ | refine G.r rfl rfl rfl rfl (r_load rfl rfl ag_52_F5 (.there (.there .here)) (Huff.nth_cnt17 _)) ?_ | refine G.r rfl rfl rfl rfl (r_load rfl rfl ag_52_F5 (.there (.there (.there .here))) (Huff.nth_cnt17 _)) ?_ | refine G.r rfl rfl rfl rfl (r_load rfl rfl ag_52_F5 (.there (.there (.there (.there .here)))) (Huff.nth_cnt17 _)) ?_
     refine G.mv ?_
     refine G.mv ?_
     first | refine G.q rfl rfl rfl rfl (q_add_i rfl rfl rfl oM) ?_ | refine G.q rfl rfl rfl rfl (q_add rfl rfl rfl) ?_
     rw [e52]
     first | refine G.q rfl rfl rfl rfl (q_ixaddr1 rfl rfl rfl se_52_F5 sz_3_F5 oM) ?_ | refine G.q rfl rfl rfl rfl (q_ixaddr rfl rfl rfl se_52_F5 sz_3_F5 oM) ?_
     first | refine G.r rfl rfl rfl rfl (r_load rfl rfl ag_3_F5 .here (nth_take hct (get_iv (getD_iv oM)))) ?_ | refine G.r rfl rfl rfl rfl (r_load rfl rfl ag_3_F5 (.there .here) (nth_take hct (get_iv (getD_iv oM)))) ?_ | refine G.r rfl rfl rfl rfl (r_load rfl rfl ag_3_F5 (.there (.there .here)) (nth_take hct (get_iv (getD_iv oM)))) ?_ | refine G.r rfl rfl rfl rfl (r_load rfl rfl ag_3_F5 (.there (.there (.there .here))) (nth_take hct (get_iv (getD_iv oM)))) ?_ | refine G.r rfl rfl rfl rfl (r_load rfl rfl ag_3_F5 (.there (.there (.there (.there .here)))) (nth_take hct (get_iv (getD_iv oM)))) ?_
     refine G.as ?_
     refine G.as ?_
     refine G.nil ?_
     refine EN.sub (sC 0 (sC 1 (sC 4 (sC 5 (sC 6 (sC 7 (sC 8 (sC 9 Sub.nil)))))))) ?_
     refine EN.then ?_
     refine CG.ret ?_
     refine EN.then_ret ?_
     refine EN.in_ret ?_
     refine EN.then_ret ?_
     refine EN.then_ret ?_
     refine EN.in_ret ?_
     refine EN.then_ret ?_
     first | refine EN.closeOwn (g := g) tK1 hcap hmx hcl hct ?_ | skip
     refine EN.closeS (TabP b ls) (v, _) tK ?_
     rw [hE]
     try dsimp only
     exact fin_ret2 rfl rfl rfl tK sF (⟨rfl, rfl⟩) _ (.inl rfl)
    ·
     rw [if_neg oM] at hgo
     have e71 : ((first : Int) + (ls.count (k + 1) : Nat)) * 2 = (((first + ls.count (k + 1)) * 2 : Nat) : Int) := by omega
     have e8 : (att : Int) + (ls.count (k + 1) : Nat) = ((att + ls.count (k + 1) : Nat) : Int) := by omega
     refine CG.skip ?_
     refine EN.tsr ?_
     refine G.mv ?_
     refine G.mv ?_
     refine G.mv ?_
     first | refine G.np ?_ | refine G.q rfl rfl rfl rfl (q_nil_f rfl rfl) ?_
     first | refine G.q rfl rfl rfl rfl (q_field0 rfl rfl fo_122_1_F5) ?_ | refine G.q rfl rfl rfl rfl (q_field rfl rfl fo_122_1_F5) ?_
     refine G.q rfl rfl rfl rfl (q_ixarr rfl rfl rfl ae_120_F5 sz_3_F5 oM) ?_
     first | refine G.r rfl rfl rfl rfl (r_load rfl rfl ag_3_F5 .here (Huff.nth_cnt _ oM)) ?_ | refine G.r rfl rfl rfl rfl (r_load rfl rfl ag_3_F5 (.there .here) (Huff.nth_cnt _ oM)) ?_ | refine G.r rfl rfl rfl rfl (r_load rfl rfl ag_3_F5 (.there (.there .here)) (Huff.nth_cnt _ oM)) ?_ | refine G.r rfl rfl rfl rfl (r_load rfl rfl ag_3_F5 (.there (.there (.there .here))) (Huff.nth_cnt _ oM)) ?_ | refine G.r rfl rfl rfl rfl (r_load rfl rfl ag_3_F5 (.there (.there (.there (.there .here)))) (Huff.nth_cnt _ oM)) ?_
     first | refine G.q rfl rfl rfl rfl (q_add_i rfl rfl rfl oM) ?_ | refine G.q rfl rfl rfl rfl (q_add rfl rfl rfl) ?_
     refine G.as ?_
     refine G.nil ?_
     refine EN.sub (sC 0 (sC 1 (sC 6 (sC 7 (sC 8 (sC 9 Sub.nil)))))) ?_
     refine EN.tsr ?_
     refine G.mv ?_
     refine G.mv ?_
     refine G.mv ?_
     first | refine G.np ?_ | refine G.q rfl rfl rfl rfl (q_nil_f rfl rfl) ?_
     first | refine G.q rfl rfl rfl rfl (q_field0 rfl rfl fo_122_1_F5) ?_ | refine G.q rfl rfl rfl rfl (q_field rfl rfl fo_122_1_F5) ?_
     refine G.q rfl rfl rfl rfl (q_ixarr rfl rfl rfl ae_120_F5 sz_3_F5 oM) ?_
     first | refine G.r rfl rfl rfl rfl (r_load rfl rfl ag_3_F5 .here (Huff.nth_cnt _ oM)) ?_ | refine G.r rfl rfl rfl rfl (r_load rfl rfl ag_3_F5 (.there .here) (Huff.nth_cnt _ oM)) ?_ | refine G.r rfl rfl rfl rfl (r_load rfl rfl ag_3_F5 (.there (.there .here)) (Huff.nth_cnt _ oM)) ?_ | refine G.r rfl rfl rfl rfl (r_load rfl rfl ag_3_F5 (.there (.there (.there .here))) (Huff.nth_cnt _ oM)) ?_ | refine G.r rfl rfl rfl rfl (r_load rfl rfl ag_3_F5 (.there (.there (.there (.there .here)))) (Huff.nth_cnt _ oM)) ?_
     first | refine G.q rfl rfl rfl rfl (q_add_i rfl rfl rfl oM) ?_ | refine G.q rfl rfl rfl rfl (q_add rfl rfl rfl) ?_
     first | refine G.q rfl rfl rfl rfl (q_shlcw (d := 2) rfl rfl rfl (by decide) (by decide) lOm lOm) ?_ | refine G.q rfl rfl rfl rfl (q_shlc (d := 2) rfl rfl rfl (by decide) (by decide)) ?_
     refine G.as ?_
     refine G.nil ?_
     refine EN.sub (sC 0 (sC 1 (sC 6 (sC 7 (sC 8 (sC 9 Sub.nil)))))) ?_
     refine EN.tsr ?_
     refine G.mv ?_
     refine G.mv ?_
     first | refine G.np ?_ | refine G.q rfl rfl rfl rfl (q_nil_f rfl rfl) ?_
     first | refine G.q rfl rfl rfl rfl (q_field0 rfl rfl fo_122_2_F5) ?_ | refine G.q rfl rfl rfl rfl (q_field rfl rfl fo_122_2_F5) ?_
     first | refine G.r rfl rfl rfl rfl (r_load rfl rfl ag_52_F5 .here (Huff.nth_cnt17 _)) ?_ | refine G.r rfl rfl rfl rfl (r_load rfl rfl ag_52_F5 (.there .here) (Huff.nth_cnt17 _)) ?_ | refine G.r rfl rfl rfl rfl (r_load rfl rfl ag_52_F5 (.there (.there .here)) (Huff.nth_cnt17 _)) ?_ | refine G.r rfl rfl rfl rfl (r_load rfl rfl ag_52_F5 (.there (.there (.there .here))) (Huff.nth_cnt17 _)) ?_ | refine G.r rfl rfl rfl rfl (r_load rfl rfl ag_52_F5 (.there (.there (.there (.there .here)))) (Huff.nth_cnt17 _)) ?_
     refine G.q rfl rfl rfl rfl (q_len_sl rfl rfl se_52_F5) ?_
     refine G.q rfl rfl rfl rfl (q_eql rfl rfl rfl) ?_
     refine G.nil ?_
     refine EN.then ?_
     refine CG.cond rfl (fun h78 => ?_) (fun h78 => ?_)
     ·
      rw [if_pos oM] at hgo
      have hE := hE0.trans hgo.symm
      refine CG.exit ?_
      refine EN.in_exit rfl ?_
      refine EN.then_exit ?_
      refine EN.then_exit ?_
      refine EN.in_here ?_
      refine EN.tsr ?_
      refine G.as ?_
      refine G.as ?_
      refine G.nil ?_
      refine EN.sub (sC 4 (sC 5 Sub.nil)) ?_
      refine EN.then ?_
      refine CG.ret ?_
      first | refine EN.closeOwn (g := g) tK1 hcap hmx hcl hct ?_ | skip
      refine EN.closeS (TabP b ls) (v, _) tK ?_
      rw [hE]
      try dsimp only
      exact fin_ret2 rfl rfl rfl tK sF (⟨rfl, rfl⟩) _ (.inl rfl)
     ·
      rw [if_neg oM] at hgo
      refine CG.skip ?_
      refine EN.in_normal ?_
      refine EN.tr ?_
      refine G.mv ?_
      first | refine G.q rfl rfl rfl rfl (q_add_i rfl rfl rfl oM) ?_ | refine G.q rfl rfl rfl rfl (q_add rfl rfl rfl) ?_
      refine G.as ?_
      refine G.nil ?_
      rw [e31, e71, e8]
      exact EN.round (hl := [_, _, _, _]) (15 - (k + 1)) oM (⟨k + 1, _, _, _, _, RD.bits_ok hq oM, hgo, by omega, by rw [Nat.pow_succ]; omega, by rw [Huff.sortedTo_len_succ]; omega, by omega, rfl, rfl, rfl⟩) sB rfl tK sF
  ·
   obtain rfl : k = 15 := by omega
   rw [show 15 - 15 = 0 from rfl, Huff.readGo] at hgo
   have hE := hE0.trans hgo.symm
   refine CG.exit ?_
   refine EN.then_exit ?_
   refine EN.then_exit ?_
   refine EN.in_here ?_
   refine EN.tsr ?_
   refine G.as ?_
   refine G.as ?_
   refine G.nil ?_
   refine EN.then ?_
   refine CG.ret ?_
   first | refine EN.closeOwn (g := g) tK1 hcap hmx hcl hct ?_ | skip
   refine EN.closeS (TabP b ls) (v, _) tK ?_
   rw [hE]
   try dsimp only
   exact fin_ret2 rfl rfl rfl tK sF (⟨rfl, rfl⟩) _ (.inl rfl)

def codeV (p : Nat × Nat) : Value := .tuple #[.int .u32 p.1, .int .i64 p.2]

set_option maxRecDepth 100000 in
set_option maxHeartbeats 1000000 in
theorem hcode_spec (b : Nat) (ls : List Nat) (sym l : Nat) (hlen : ls.length ≤ 320) (hS : 0 < (Huff.sorted ls).length) (hsym : ls[sym]? = some l) (hl : 0 < l) : Spec Tryd.prog 54 #[.pointer (some ⟨b, 0, none⟩), .int .i64 sym] [TabAt b ls] (Ret fun v hl => v = codeV (Huff.code ls sym) ∧ hl = [TabAt b ls]) := by
 obtain ⟨hsl, _⟩ := List.getElem?_eq_some_iff.1 hsym
 refine Spec.enter Tryd.func54 rfl rfl rfl (fun F w0 => ?_)
 dsimp only [argL, List.cons_append, List.nil_append]
 refine CG.seq ?_
 refine CG.openS (TabP b ls) tK1 (fun p => ?_)
 obtain ⟨v, u⟩ := p
 unfold TabP
 dsimp only [List.cons_append, List.nil_append]
 refine CG.openOwn (v := v) tK1 oM (fun gv cv xv hv hcv hmv hlv htv => ?_)
 cases hv
 refine CG.openOwn (v := u) tK1 hS (fun gu cu xu hu hcu hmu hlu htu => ?_)
 cases hu
 refine CG.reg ?_
 refine G.as ?_
 refine G.as ?_
 refine G.nil ?_
 refine EN.ts ?_
 refine CG.sr ?_
 refine G.mv ?_
 refine G.q rfl rfl rfl rfl (q_lss rfl rfl rfl) ?_
 refine G.mv ?_
 refine G.split (t := 11) rfl (fun g11 => absurd g11 oM) (fun g11 => ?_)
 refine G.mv ?_
 refine G.mv ?_
 first | refine G.np ?_ | refine G.q rfl rfl rfl rfl (q_nil_f rfl rfl) ?_
 first | refine G.q rfl rfl rfl rfl (q_field0 rfl rfl fo_122_0_F5) ?_ | refine G.q rfl rfl rfl rfl (q_field rfl rfl fo_122_0_F5) ?_
 refine G.ld ag_52_F5 ?_
 refine G.q rfl rfl rfl rfl (q_len_sl rfl rfl se_52_F5) ?_
 refine G.q rfl rfl rfl rfl (q_geq rfl rfl rfl) ?_
 refine G.q rfl rfl rfl rfl (q_pick_f rfl rfl rfl) ?_
 refine G.mv ?_
 refine G.split (t := 20) rfl (fun g20 => absurd g20 oM) (fun g20 => ?_)
 refine G.mv ?_
 first | refine G.np ?_ | refine G.q rfl rfl rfl rfl (q_nil_f rfl rfl) ?_
 first | refine G.q rfl rfl rfl rfl (q_field0 rfl rfl fo_122_0_F5) ?_ | refine G.q rfl rfl rfl rfl (q_field rfl rfl fo_122_0_F5) ?_
 refine G.ld ag_52_F5 ?_
 refine G.mv ?_
 first | refine G.q rfl rfl rfl rfl (q_ixaddr1 rfl rfl rfl se_52_F5 sz_3_F5 oM) ?_ | refine G.q rfl rfl rfl rfl (q_ixaddr rfl rfl rfl se_52_F5 sz_3_F5 oM) ?_
 first | refine G.r rfl rfl rfl rfl (r_load rfl rfl ag_3_F5 .here (nth_take htv (get_iv hsym))) ?_ | refine G.r rfl rfl rfl rfl (r_load rfl rfl ag_3_F5 (.there .here) (nth_take htv (get_iv hsym))) ?_ | refine G.r rfl rfl rfl rfl (r_load rfl rfl ag_3_F5 (.there (.there .here)) (nth_take htv (get_iv hsym))) ?_ | refine G.r rfl rfl rfl rfl (r_load rfl rfl ag_3_F5 (.there (.there (.there .here))) (nth_take htv (get_iv hsym))) ?_ | refine G.r rfl rfl rfl rfl (r_load rfl rfl ag_3_F5 (.there (.there (.there (.there .here)))) (nth_take htv (get_iv hsym))) ?_
 refine G.q rfl rfl rfl rfl (q_eql rfl rfl rfl) ?_
 refine G.q rfl rfl rfl rfl (q_pick_f rfl rfl rfl) ?_
 refine G.nil ?_
 refine EN.sub (sC 0 (sC 1 (sC 4 (sC 5 (sC 29 Sub.nil))))) ?_
 refine EN.then ?_
 refine CG.cond rfl (fun h29 => absurd h29 oM) (fun h29 => ?_)
 refine CG.skip ?_
 refine EN.tsr ?_
 refine G.as ?_
 refine G.as ?_
 refine G.nil ?_
 refine EN.ts ?_
 refine CG.sr ?_
 refine G.as ?_
 refine G.nil ?_
 refine EN.then ?_
 refine CG.block ?_
 refine CG.loopI (fun m L H => ∃ (k code att : Nat), Huff.codeGo ls (Huff.sorted ls) sym (15 - k) (k + 1) code att = Huff.codeGo ls (Huff.sorted ls) sym 15 1 0 0 ∧ code + 320 ≤ 320 * 2 ^ k ∧ att = (Huff.sortedTo ls k).length ∧ k ≤ 15 ∧ m = 15 - k ∧ L = [(0, .pointer (some ⟨b, 0, none⟩)), (1, .int .i64 sym), (6, .int .u32 code), (7, .int .i64 att), (8, .int .i64 (k + 1 : Nat))] ∧ H = [cel b 122 (.slice (some ⟨gv, 0, none⟩) ls.length cv :: (Huff.cntC ls ++ [.slice (some ⟨gu, 0, none⟩) (Huff.sorted ls).length cu])), cel gv 3 xv, cel gu 3 xu] ++ F) (15) (hl := [_, _, _]) (⟨0, 0, 0, rfl, by decide, rfl, by omega, rfl, rfl, rfl⟩) sB rfl tK sF ?_
 rintro m L H ⟨k, code, att, hgo, hcp, hat, hk, rfl, rfl, rfl⟩
 try dsimp only [List.cons_append, List.nil_append]
 refine CG.seq ?_
 refine CG.sr ?_
 refine G.mv ?_
 refine G.q rfl rfl rfl rfl (q_leq rfl rfl rfl) ?_
 refine G.nil ?_
 refine EN.then ?_
 refine CG.cond rfl (fun h31 => ?_) (fun h31 => ?_)
 ·
  have hp15 : 2 ^ k ≤ 2 ^ 14 := Nat.pow_le_pow_right oM oM
  rw [show 15 - k = (15 - (k + 1)) + 1 by omega, Huff.codeGo] at hgo
  have hcn := Huff.count_le ls (k + 1)
  have hs1 := Huff.sortedTo_len_succ ls k
  have hs2 := Huff.sortedTo_mono ls (a := k + 1) (b := 15) oM
  have hs3 := Huff.sortedTo_le ls 15
  have hSl : (Huff.sorted ls).length = (Huff.sortedTo ls 15).length := by unfold Huff.sorted; rfl
  have e6 : (code : Int) * 2 = ((2 * code + 0 : Nat) : Int) := by omega
  refine CG.skip ?_
  refine EN.ts ?_
  refine CG.block ?_
  refine CG.sr ?_
  refine G.mv ?_
  first | refine G.q rfl rfl rfl rfl (q_shlcw (d := 2) rfl rfl rfl (by decide) (by decide) lOm lOm) ?_ | refine G.q rfl rfl rfl rfl (q_shlc (d := 2) rfl rfl rfl (by decide) (by decide)) ?_
  refine G.as ?_
  refine G.nil ?_
  refine EN.tsr ?_
  refine G.mv ?_
  refine G.mv ?_
  first | refine G.np ?_ | refine G.q rfl rfl rfl rfl (q_nil_f rfl rfl) ?_
  first | refine G.q rfl rfl rfl rfl (q_field0 rfl rfl fo_122_1_F5) ?_ | refine G.q rfl rfl rfl rfl (q_field rfl rfl fo_122_1_F5) ?_
  refine G.q rfl rfl rfl rfl (q_ixarr rfl rfl rfl ae_120_F5 sz_3_F5 oM) ?_
  first | refine G.r rfl rfl rfl rfl (r_load rfl rfl ag_3_F5 .here (Huff.nth_cnt _ oM)) ?_ | refine G.r rfl rfl rfl rfl (r_load rfl rfl ag_3_F5 (.there .here) (Huff.nth_cnt _ oM)) ?_ | refine G.r rfl rfl rfl rfl (r_load rfl rfl ag_3_F5 (.there (.there .here)) (Huff.nth_cnt _ oM)) ?_ | refine G.r rfl rfl rfl rfl (r_load rfl rfl ag_3_F5 (.there (.there (.there .here))) (Huff.nth_cnt _ oM)) ?_ | refine G.r rfl rfl rfl rfl (r_load rfl rfl ag_3_F5 (.there (.there (.there (.there .here)))) (Huff.nth_cnt _ oM)) ?_
  refine G.mv ?_
  refine G.nil ?_
  refine EN.sub (sC 0 (sC 1 (sC 6 (sC 7 (sC 8 (sC 41 (sC 42 Sub.nil))))))) ?_
  refine EN.then ?_
  refine CG.block ?_
  rw [e6]
  refine CG.loopI (fun m L H => ∃ j : Nat, j ≤ ls.count (k + 1) ∧ (Huff.codeRow (Huff.sorted ls) sym (ls.count (k + 1) - j) (2 * code + j) (att + j) = Huff.codeRow (Huff.sorted ls) sym (ls.count (k + 1)) (2 * code) att) ∧ m = (ls.count (k + 1)) - j ∧ L = [(0, .pointer (some ⟨b, 0, none⟩)), (1, .int .i64 sym), (6, .int .u32 (2 * code + j : Nat)), (7, .int .i64 (att + j : Nat)), (8, .int .i64 (k + 1 : Nat)), (41, .int .i64 (ls.count (k + 1) : Nat)), (42, .int .i64 j)] ∧ H = [cel b 122 (.slice (some ⟨gv, 0, none⟩) ls.length cv :: (Huff.cntC ls ++ [.slice (some ⟨gu, 0, none⟩) (Huff.sorted ls).length cu])), cel gv 3 xv, cel gu 3 xu] ++ F) ((ls.count (k + 1)) - 0) (hl := [_, _, _]) (⟨0, Nat.zero_le _, rfl, rfl, rfl, rfl⟩) sB rfl tK sF ?_
  rintro m L H ⟨j, hk, hrow, rfl, rfl, rfl⟩
  try dsimp only [List.cons_append, List.nil_append]
  refine CG.sr ?_
  refine G.q rfl rfl rfl rfl (q_lss rfl rfl rfl) ?_
  refine G.nil ?_
  refine EN.ts ?_
  refine CG.cond rfl (fun h43 => ?_) (fun h43 => ?_)
  ·
   rw [show ls.count (k + 1) - j = (ls.count (k + 1) - (j + 1)) + 1 by omega, Huff.codeRow, getD_iv (i := att + j) oM] at hrow
   refine CG.skip ?_
   refine EN.ts ?_
   refine CG.block ?_
   refine CG.seq ?_
   refine CG.sr ?_
   refine G.mv ?_
   first | refine G.np ?_ | refine G.q rfl rfl rfl rfl (q_nil_f rfl rfl) ?_
   first | refine G.q rfl rfl rfl rfl (q_field0 rfl rfl fo_122_2_F5) ?_ | refine G.q rfl rfl rfl rfl (q_field rfl rfl fo_122_2_F5) ?_
   first | refine G.r rfl rfl rfl rfl (r_load rfl rfl ag_52_F5 .here (Huff.nth_cnt17 _)) ?_ | refine G.r rfl rfl rfl rfl (r_load rfl rfl ag_52_F5 (.there .here) (Huff.nth_cnt17 _)) ?_ | refine G.r rfl rfl rfl rfl (r_load rfl rfl ag_52_F5 (.there (.there .here)) (Huff.nth_cnt17 _)) ?_ | refine G.r rfl rfl rfl rfl (r_load rfl rfl ag_52_F5 (.there (.there (.there .here))) (Huff.nth_cnt17 _)) ?_ | refine G.r rfl rfl rfl rfl (r_load rfl rfl ag_52_F5 (.there (.there (.there (.there .here)))) (Huff.nth_cnt17 _)) ?_
   refine G.mv ?_
   first | refine G.q rfl rfl rfl rfl (q_ixaddr1 rfl rfl rfl se_52_F5 sz_3_F5 oM) ?_ | refine G.q rfl rfl rfl rfl (q_ixaddr rfl rfl rfl se_52_F5 sz_3_F5 oM) ?_
   first | refine G.r rfl rfl rfl rfl (r_load rfl rfl ag_3_F5 .here (nth_take htu (get_iv (getD_iv oM)))) ?_ | refine G.r rfl rfl rfl rfl (r_load rfl rfl ag_3_F5 (.there .here) (nth_take htu (get_iv (getD_iv oM)))) ?_ | refine G.r rfl rfl rfl rfl (r_load rfl rfl ag_3_F5 (.there (.there .here)) (nth_take htu (get_iv (getD_iv oM)))) ?_ | refine G.r rfl rfl rfl rfl (r_load rfl rfl ag_3_F5 (.there (.there (.there .here))) (nth_take htu (get_iv (getD_iv oM)))) ?_ | refine G.r rfl rfl rfl rfl (r_load rfl rfl ag_3_F5 (.there (.there (.there (.there .here)))) (nth_take htu (get_iv (getD_iv oM)))) ?_
   refine G.mv ?_
   refine G.q rfl rfl rfl rfl (q_eql rfl rfl rfl) ?_
   refine G.nil ?_
   refine EN.sub (sC 0 (sC 1 (sC 6 (sC 7 (sC 8 (sC 41 (sC 42 (sC 52 Sub.nil)))))))) ?_
   refine EN.then ?_
   refine CG.cond rfl (fun h52 => ?_) (fun h52 => ?_)
   ·
    rw [if_pos (by rw [show (Huff.sorted ls).getD (att + j) 0 = sym by omega])] at hrow
    rw [← hrow] at hgo
    dsimp only at hgo
    have hE : Huff.code ls sym = (2 * code + j, k + 1) := hgo.symm
    refine CG.sr ?_
    refine G.mv ?_
    refine G.mv ?_
    refine G.as ?_
    refine G.as ?_
    refine G.nil ?_
    refine EN.then ?_
    refine CG.ret ?_
    refine EN.then_ret ?_
    refine EN.in_ret ?_
    refine EN.then_ret ?_
    refine EN.then_ret ?_
    refine EN.in_ret ?_
    refine EN.in_ret ?_
    refine EN.then_ret ?_
    refine EN.then_ret ?_
    refine EN.in_ret ?_
    refine EN.then_ret ?_
    refine EN.closeOwn (g := gv) tK1 hcv hmv hlv htv ?_
    refine EN.closeOwn (g := gu) tK1 hcu hmu hlu htu ?_
    refine EN.closeS (TabP b ls) (_, _) tK ?_
    rw [hE]
    unfold codeV
    try dsimp only
    exact fin_ret2 rfl rfl rfl tK sF (⟨rfl, rfl⟩) _ (.inl rfl)
   ·
    rw [if_neg (fun e => h52 (by rw [Option.some.inj e]))] at hrow
    refine CG.skip ?_
    refine EN.tsr ?_
    refine G.mv ?_
    first | refine G.q rfl rfl rfl rfl (q_addw rfl rfl rfl lOm lOm) ?_ | refine G.q rfl rfl rfl rfl (q_add rfl rfl rfl) ?_
    refine G.as ?_
    refine G.nil ?_
    refine EN.tr ?_
    refine G.mv ?_
    first | refine G.q rfl rfl rfl rfl (q_add_i rfl rfl rfl oM) ?_ | refine G.q rfl rfl rfl rfl (q_add rfl rfl rfl) ?_
    refine G.as ?_
    refine G.nil ?_
    refine EN.in_normal ?_
    refine EN.tr ?_
    first | refine G.q rfl rfl rfl rfl (q_add_i rfl rfl rfl oM) ?_ | refine G.q rfl rfl rfl rfl (q_add rfl rfl rfl) ?_
    refine G.mv ?_
    refine G.nil ?_
    exact EN.round (hl := [_, _, _]) ((ls.count (k + 1)) - (j + 1)) oM (⟨j + 1, by omega, hrow, rfl, rfl, rfl⟩) sB rfl tK sF
  ·
   obtain rfl : j = ls.count (k + 1) := by omega
   rw [Nat.sub_self, Huff.codeRow] at hrow
   rw [← hrow] at hgo
   dsimp only at hgo
   refine CG.exit ?_
   refine EN.then_exit ?_
   refine EN.then_exit ?_
   refine EN.in_here ?_
   refine EN.in_normal ?_
   refine EN.tr ?_
   refine G.mv ?_
   first | refine G.q rfl rfl rfl rfl (q_add_i rfl rfl rfl oM) ?_ | refine G.q rfl rfl rfl rfl (q_add rfl rfl rfl) ?_
   refine G.as ?_
   refine G.nil ?_
   exact EN.round (hl := [_, _, _]) (15 - (k + 1)) oM (⟨k + 1, _, _, hgo, by rw [Nat.pow_succ]; omega, by rw [Huff.sortedTo_len_succ]; omega, by omega, rfl, rfl, rfl⟩) sB rfl tK sF
 ·
  obtain rfl : k = 15 := by omega
  rw [show 15 - 15 = 0 from rfl, Huff.codeGo] at hgo
  have hE : Huff.code ls sym = (0, 0) := hgo.symm
  refine CG.exit ?_
  refine EN.then_exit ?_
  refine EN.then_exit ?_
  refine EN.in_here ?_
  refine EN.tsr ?_
  refine G.as ?_
  refine G.as ?_
  refine G.nil ?_
  refine EN.then ?_
  refine CG.ret ?_
  refine EN.closeOwn (g := gv) tK1 hcv hmv hlv htv ?_
  refine EN.closeOwn (g := gu) tK1 hcu hmu hlu htu ?_
  refine EN.closeS (TabP b ls) (_, _) tK ?_
  rw [hE]
  unfold codeV
  try dsimp only
  exact fin_ret2 rfl rfl rfl tK sF (⟨rfl, rfl⟩) _ (.inl rfl)

end Go.Eng
/-
  RFC 1951 read (inflate): each function's contract.
-/
set_option linter.unusedVariables false
set_option linter.unusedSimpArgs false
namespace Go.Eng
open Go.Proofs
theorem ag_109_F6 : aggB Tryd.prog 109 = some false := by kernel_rfl
theorem ag_139_F6 : aggB Tryd.prog 139 = some true := by kernel_rfl
theorem ag_39_F6 : aggB Tryd.prog 39 = some false := by kernel_rfl
theorem ag_3_F6 : aggB Tryd.prog 3 = some false := by kernel_rfl
theorem ag_5_F6 : aggB Tryd.prog 5 = some false := by kernel_rfl
theorem bd_57_F6 : bodied Tryd.prog 57 = true := by kernel_rfl
theorem bd_58_F6 : bodied Tryd.prog 58 = true := by kernel_rfl
theorem bd_71_F6 : bodied Tryd.prog 71 = true := by kernel_rfl
theorem bd_77_F6 : bodied Tryd.prog 77 = true := by kernel_rfl
theorem bd_80_F6 : bodied Tryd.prog 80 = true := by kernel_rfl
theorem bd_81_F6 : bodied Tryd.prog 81 = true := by kernel_rfl
theorem bd_87_F6 : bodied Tryd.prog 87 = true := by kernel_rfl
theorem bd_88_F6 : bodied Tryd.prog 88 = true := by kernel_rfl
theorem bd_89_F6 : bodied Tryd.prog 89 = true := by kernel_rfl
theorem bs_39_1_all_F6 : ∀ (x0 : Int) (w : World), (Instr.buildSlice 39 1 [(0, .int .u8 x0)].toArray).run Tryd.prog w = .ok (.slice (some ⟨w.heap.size, 0, none⟩) 1 1) { w with heap := w.heap.push (.cells [.int .u8 x0].toArray 5) } := fun _ _ => by kernel_rfl
theorem bs_52_1_all_F6 : ∀ (x0 : Int) (w : World), (Instr.buildSlice 52 1 [(0, .int .i64 x0)].toArray).run Tryd.prog w = .ok (.slice (some ⟨w.heap.size, 0, none⟩) 1 1) { w with heap := w.heap.push (.cells [.int .i64 x0].toArray 3) } := fun _ _ => by kernel_rfl
theorem bu_139_0_1_2_3_4_5_6_7_8_9_10_11_12_13_14_15_16_17_18_F6 : ∀ (x0 : Int) (x1 : Int) (x2 : Int) (x3 : Int) (x4 : Int) (x5 : Int) (x6 : Int) (x7 : Int) (x8 : Int) (x9 : Int) (x10 : Int) (x11 : Int) (x12 : Int) (x13 : Int) (x14 : Int) (x15 : Int) (x16 : Int) (x17 : Int) (x18 : Int) (w : World), (Instr.build 139 [(0, .int .i64 x0), (1, .int .i64 x1), (2, .int .i64 x2), (3, .int .i64 x3), (4, .int .i64 x4), (5, .int .i64 x5), (6, .int .i64 x6), (7, .int .i64 x7), (8, .int .i64 x8), (9, .int .i64 x9), (10, .int .i64 x10), (11, .int .i64 x11), (12, .int .i64 x12), (13, .int .i64 x13), (14, .int .i64 x14), (15, .int .i64 x15), (16, .int .i64 x16), (17, .int .i64 x17), (18, .int .i64 x18)].toArray).run Tryd.prog w = .ok (.agg [.int .i64 x0, .int .i64 x1, .int .i64 x2, .int .i64 x3, .int .i64 x4, .int .i64 x5, .int .i64 x6, .int .i64 x7, .int .i64 x8, .int .i64 x9, .int .i64 x10, .int .i64 x11, .int .i64 x12, .int .i64 x13, .int .i64 x14, .int .i64 x15, .int .i64 x16, .int .i64 x17, .int .i64 x18].toArray) w := fun _ _ _ _ _ _ _ _ _ _ _ _ _ _ _ _ _ _ _ _ => by kernel_rfl
theorem fo_112_0_F6 : fieldOff Tryd.prog 112 0 = some 0 := by kernel_rfl
theorem fo_112_1_F6 : fieldOff Tryd.prog 112 1 = some 1 := by kernel_rfl
theorem fo_112_2_F6 : fieldOff Tryd.prog 112 2 = some 2 := by kernel_rfl
theorem ik_3_F6 : intK Tryd.prog 3 = some .i64 := by kernel_rfl
theorem is_32_F6 : (Tryd.prog.underlying 32).isSome = true := by kernel_rfl
theorem is_51_F6 : (Tryd.prog.underlying 51).isSome = true := by kernel_rfl
theorem nf_3_F6 : infoB Tryd.prog 3 = some (some [.int .i64 0], 1, 8) := by kernel_rfl
theorem nf_5_F6 : infoB Tryd.prog 5 = some (some [.int .u8 0], 1, 1) := by kernel_rfl
theorem se_39_F6 : sliceE Tryd.prog 39 = some 5 := by kernel_rfl
theorem se_52_F6 : sliceE Tryd.prog 52 = some 3 := by kernel_rfl
theorem sz_139_F6 : sizeB Tryd.prog 139 = some 19 := by kernel_rfl
theorem sz_39_F6 : sizeB Tryd.prog 39 = some 1 := by kernel_rfl
theorem sz_5_F6 : sizeB Tryd.prog 5 = some 1 := by kernel_rfl
theorem us_9_F6 : Tryd.prog.underlying 9 = some .string := by kernel_rfl
theorem zl_139_F6 : zeroL Tryd.prog 139 = some [.int .i64 0, .int .i64 0, .int .i64 0, .int .i64 0, .int .i64 0, .int .i64 0, .int .i64 0, .int .i64 0, .int .i64 0, .int .i64 0, .int .i64 0, .int .i64 0, .int .i64 0, .int .i64 0, .int .i64 0, .int .i64 0, .int .i64 0, .int .i64 0, .int .i64 0] := by kernel_rfl

theorem own_takeI {e k : Nat} {v : Value} {f : Nat → Nat} {u : Value} (h : u = iv (f k)) : own e 1 v (k + 1) (((List.range k).map f).map iv ++ [u]) = own e 1 v (k + 1) (((List.range (k + 1)).map f).map iv) := by
  rw [h, Sums.range_take]; simp
def StP (b rb : Nat) (out : List UInt8) (most : Nat) (v : Value) : List HP := [cel b 112 [.pointer (some ⟨rb, 0, none⟩), v, .int .i64 most], own 5 1 v out.length (out.map u8v)]
def StAt (b rb : Nat) (out : List UInt8) (most : Nat) : HP := exS (StP b rb out most)
attribute [local irreducible] cel own exS Huff.sorted Huff.cntC

set_option maxRecDepth 100000 in
set_option maxHeartbeats 1000000 in
theorem order_spec : Spec Tryd.prog 90 #[] [] (Ret fun v hl => v = .agg (Infl.order.map iv).toArray ∧ hl = []) := by
 refine Spec.enter Tryd.func90 rfl rfl rfl (fun F w0 => ?_)
 dsimp only [argL, List.cons_append, List.nil_append]
 refine CG.sr ?_
 refine G.e rfl rfl rfl rfl (e_alloc rfl zl_139_F6) (fun _ _ _ _ _ _ => trivial) ?_
 rintro _ _ ⟨b0, rfl, rfl⟩
 refine G.nil ?_
 refine EN.tsr ?_
 refine G.q rfl rfl rfl rfl (q_build rfl rfl (bu_139_0_1_2_3_4_5_6_7_8_9_10_11_12_13_14_15_16_17_18_F6 _ _ _ _ _ _ _ _ _ _ _ _ _ _ _ _ _ _ _)) ?_
 first | refine G.sa0 sz_139_F6 ?_ | refine G.sg0 sz_139_F6 ?_
 refine G.nil ?_
 refine EN.then ?_
 refine CG.ret ?_
 exact fin_ret1c rfl rfl ag_139_F6 sz_139_F6 mB rfl tK sF (⟨rfl, rfl⟩) _ (.inl rfl)

set_option maxRecDepth 100000 in
set_option maxHeartbeats 1000000 in
theorem lengthBase_spec (i : Nat) (hi : i ≤ 28) : Spec Tryd.prog 57 #[.int .i64 i] [] (Ret fun v hl => v = .tuple #[.int .i64 (Infl.lengthBase i).1, .int .i64 (Infl.lengthBase i).2] ∧ hl = []) := by
 refine Spec.enter Tryd.func57 rfl rfl rfl (fun F w0 => ?_)
 dsimp only [argL, List.cons_append, List.nil_append]
 refine CG.sr ?_
 refine G.as ?_
 refine G.as ?_
 refine G.nil ?_
 refine EN.ts ?_
 refine CG.sr ?_
 refine G.mv ?_
 refine G.q rfl rfl rfl rfl (q_eql rfl rfl rfl) ?_
 refine G.nil ?_
 refine EN.then ?_
 refine CG.cond rfl (fun h6 => ?_) (fun h6 => ?_)
 ·
  have e : Infl.lengthBase i = (258, 0) := if_pos oM
  refine CG.sr ?_
  refine G.as ?_
  refine G.as ?_
  refine G.nil ?_
  refine EN.then ?_
  refine CG.ret ?_
  refine EN.then_ret ?_
  rw [e]
  try dsimp only
  exact fin_ret2 rfl rfl rfl tK sF (⟨rfl, rfl⟩) _ (.inl rfl)
 ·
  refine CG.skip ?_
  refine EN.ts ?_
  refine CG.sr ?_
  refine G.mv ?_
  refine G.q rfl rfl rfl rfl (q_lss rfl rfl rfl) ?_
  refine G.nil ?_
  refine EN.then ?_
  refine CG.cond rfl (fun h8 => ?_) (fun h8 => ?_)
  ·
   have e : Infl.lengthBase i = (3 + i, 0) := by unfold Infl.lengthBase; rw [if_neg oM, if_pos oM]
   refine CG.sr ?_
   refine G.mv ?_
   first | refine G.q rfl rfl rfl rfl (q_add_i rfl rfl rfl oM) ?_ | refine G.q rfl rfl rfl rfl (q_add rfl rfl rfl) ?_
   refine G.as ?_
   refine G.as ?_
   refine G.nil ?_
   refine EN.then ?_
   refine CG.ret ?_
   refine EN.then_ret ?_
   rw [e]
   try dsimp only
   exact fin_ret2 rfl rfl rfl tK sF (⟨rfl, rfl⟩) _ (.inl rfl)
  ·
   have e : Infl.lengthBase i = (3 + (4 + i % 4) * 2 ^ (i / 4 - 1), i / 4 - 1) := by unfold Infl.lengthBase; rw [if_neg oM, if_neg oM]
   have hle : (4 + i % 4) * 2 ^ (i / 4 - 1) ≤ 7 * 2 ^ 6 := Nat.mul_le_mul oM (Infl.two_pow_le oM)
   have e1 : ((i : Int) / 4 - 1) = ((i / 4 - 1 : Nat) : Int) := by omega
   have e2 : ((4 : Int) + (i : Int) % 4) = ((4 + i % 4 : Nat) : Int) := by omega
   have e3 := shl_lim (k := .i64) (a := 4 + i % 4) (c := i / 4 - 1) (by simp [IntKind.bits]; omega) (by simp only [lim, IntKind.signed, IntKind.bits]; omega)
   refine CG.skip ?_
   refine EN.tsr ?_
   refine G.mv ?_
   first | refine G.q rfl rfl rfl rfl (q_quo_i rfl rfl rfl oM) ?_ | refine G.q rfl rfl rfl rfl (q_quo rfl rfl rfl oM) ?_
   first | refine G.q rfl rfl rfl rfl (q_sub_i rfl rfl rfl oM) ?_ | refine G.q rfl rfl rfl rfl (q_sub rfl rfl rfl) ?_
   refine G.as ?_
   refine G.nil ?_
   refine EN.ts ?_
   rw [e1]
   refine CG.reg ?_
   refine G.mv ?_
   first | refine G.q rfl rfl rfl rfl (q_rem_n rfl rfl rfl oM) ?_ | refine G.q rfl rfl rfl rfl (q_rem rfl rfl rfl oM) ?_
   first | refine G.q rfl rfl rfl rfl (q_add_i rfl rfl rfl oM) ?_ | refine G.q rfl rfl rfl rfl (q_add rfl rfl rfl) ?_
   rw [e2]
   refine G.mv ?_
   refine G.q rfl rfl rfl rfl (q_shl rfl rfl rfl oM) ?_
   rw [e3]
   first | refine G.q rfl rfl rfl rfl (q_add_i rfl rfl rfl oM) ?_ | refine G.q rfl rfl rfl rfl (q_add rfl rfl rfl) ?_
   refine G.mv ?_
   refine G.as ?_
   refine G.as ?_
   refine G.nil ?_
   refine EN.sub (sC 2 (sC 3 Sub.nil)) ?_
   refine EN.then ?_
   refine CG.ret ?_
   rw [e]
   try dsimp only
   exact fin_ret2 rfl rfl rfl tK sF (⟨rfl, rfl⟩) _ (.inl rfl)

set_option maxRecDepth 100000 in
set_option maxHeartbeats 1000000 in
theorem distBase_spec (i : Nat) (hi : i ≤ 29) : Spec Tryd.prog 58 #[.int .i64 i] [] (Ret fun v hl => v = .tuple #[.int .i64 (Infl.distBase i).1, .int .i64 (Infl.distBase i).2] ∧ hl = []) := by
 refine Spec.enter Tryd.func58 rfl rfl rfl (fun F w0 => ?_)
 dsimp only [argL, List.cons_append, List.nil_append]
 refine CG.sr ?_
 refine G.as ?_
 refine G.as ?_
 refine G.nil ?_
 refine EN.ts ?_
 refine CG.sr ?_
 refine G.mv ?_
 refine G.q rfl rfl rfl rfl (q_lss rfl rfl rfl) ?_
 refine G.nil ?_
 refine EN.then ?_
 refine CG.cond rfl (fun h6 => ?_) (fun h6 => ?_)
 ·
  have e : Infl.distBase i = (1 + i, 0) := if_pos oM
  refine CG.sr ?_
  refine G.mv ?_
  first | refine G.q rfl rfl rfl rfl (q_add_i rfl rfl rfl oM) ?_ | refine G.q rfl rfl rfl rfl (q_add rfl rfl rfl) ?_
  refine G.as ?_
  refine G.as ?_
  refine G.nil ?_
  refine EN.then ?_
  refine CG.ret ?_
  refine EN.then_ret ?_
  rw [e]
  try dsimp only
  exact fin_ret2 rfl rfl rfl tK sF (⟨rfl, rfl⟩) _ (.inl rfl)
 ·
  have e : Infl.distBase i = (1 + (2 + i % 2) * 2 ^ (i / 2 - 1), i / 2 - 1) := if_neg oM
  have hle : (2 + i % 2) * 2 ^ (i / 2 - 1) ≤ 3 * 2 ^ 13 := Nat.mul_le_mul oM (Infl.two_pow_le oM)
  have e1 : ((i : Int) / 2 - 1) = ((i / 2 - 1 : Nat) : Int) := by omega
  have e2 : ((2 : Int) + (i : Int) % 2) = ((2 + i % 2 : Nat) : Int) := by omega
  have e3 := shl_lim (k := .i64) (a := 2 + i % 2) (c := i / 2 - 1) (by simp [IntKind.bits]; omega) (by simp only [lim, IntKind.signed, IntKind.bits]; omega)
  refine CG.skip ?_
  refine EN.tsr ?_
  refine G.mv ?_
  first | refine G.q rfl rfl rfl rfl (q_quo_i rfl rfl rfl oM) ?_ | refine G.q rfl rfl rfl rfl (q_quo rfl rfl rfl oM) ?_
  first | refine G.q rfl rfl rfl rfl (q_sub_i rfl rfl rfl oM) ?_ | refine G.q rfl rfl rfl rfl (q_sub rfl rfl rfl) ?_
  refine G.as ?_
  refine G.nil ?_
  refine EN.ts ?_
  rw [e1]
  refine CG.reg ?_
  refine G.mv ?_
  first | refine G.q rfl rfl rfl rfl (q_rem_n rfl rfl rfl oM) ?_ | refine G.q rfl rfl rfl rfl (q_rem rfl rfl rfl oM) ?_
  first | refine G.q rfl rfl rfl rfl (q_add_i rfl rfl rfl oM) ?_ | refine G.q rfl rfl rfl rfl (q_add rfl rfl rfl) ?_
  rw [e2]
  refine G.mv ?_
  refine G.q rfl rfl rfl rfl (q_shl rfl rfl rfl oM) ?_
  rw [e3]
  first | refine G.q rfl rfl rfl rfl (q_add_i rfl rfl rfl oM) ?_ | refine G.q rfl rfl rfl rfl (q_add rfl rfl rfl) ?_
  refine G.mv ?_
  refine G.as ?_
  refine G.as ?_
  refine G.nil ?_
  refine EN.sub (sC 2 (sC 3 Sub.nil)) ?_
  refine EN.then ?_
  refine CG.ret ?_
  rw [e]
  try dsimp only
  exact fin_ret2 rfl rfl rfl tK sF (⟨rfl, rfl⟩) _ (.inl rfl)

set_option maxRecDepth 100000 in
set_option maxHeartbeats 1000000 in
theorem put_spec (b rb : Nat) (out : List UInt8) (most : Nat) (c : UInt8) (hm : most ≤ 1000000000) (ho : out.length ≤ 1000000000) : Spec Tryd.prog 81 #[.pointer (some ⟨b, 0, none⟩), .int .u8 c.toNat] [StAt b rb out most] (Ret fun v hl => v = .int .i64 (if out.length = most then 2 else 0) ∧ hl = [StAt b rb (if out.length = most then out else out ++ [c]) most]) := by
 refine Spec.enter Tryd.func81 rfl rfl rfl (fun F w0 => ?_)
 dsimp only [argL, List.cons_append, List.nil_append]
 refine CG.seq ?_
 refine CG.openS (StP b rb out most) tK1 (fun v => ?_)
 unfold StP
 dsimp only [List.cons_append, List.nil_append]
 refine CG.reg ?_
 refine G.as ?_
 refine G.nil ?_
 refine EN.ts ?_
 refine CG.seq ?_
 refine CG.regT [] mixed (by kernel_rfl) ?_
 refine G.mv ?_
 first | refine G.np ?_ | refine G.q rfl rfl rfl rfl (q_nil_f rfl rfl) ?_
 first | refine G.q rfl rfl rfl rfl (q_field0 rfl rfl fo_112_1_F6) ?_ | refine G.q rfl rfl rfl rfl (q_field rfl rfl fo_112_1_F6) ?_
 refine G.ld ag_39_F6 ?_
 refine G.ownShape (v := v) tK1 ?_
 rintro ad c' rfl
 refine G.q rfl rfl rfl rfl (q_len_sl rfl rfl se_39_F6) ?_
 refine G.mv ?_
 first | refine G.np ?_ | refine G.q rfl rfl rfl rfl (q_nil_f rfl rfl) ?_
 first | refine G.q rfl rfl rfl rfl (q_field0 rfl rfl fo_112_2_F6) ?_ | refine G.q rfl rfl rfl rfl (q_field rfl rfl fo_112_2_F6) ?_
 refine G.ld ag_3_F6 ?_
 refine G.q rfl rfl rfl rfl (q_eql rfl rfl rfl) ?_
 refine G.nil ?_
 refine EN.sub (sC 0 (sC 1 (sC 4 (sC 14 Sub.nil)))) ?_
 refine EN.then ?_
 refine CG.cond rfl (fun h14 => ?_) (fun h14 => ?_)
 ·
  rw [if_pos oM, if_pos oM]
  refine CG.closeS (StP b rb out most) _ tK ?_
  refine CG.sr ?_
  refine G.as ?_
  refine G.nil ?_
  refine EN.then ?_
  refine CG.ret ?_
  refine EN.then_ret ?_
  first | refine EN.closeS (StP b rb (out ++ [c]) most) _ tK ?_ | skip
  exact fin_ret1 rfl rfl tK sF (⟨rfl, rfl⟩) _ (.inl rfl)
 ·
  rw [if_neg oM, if_neg oM]
  refine CG.skip ?_
  refine EN.tsr ?_
  refine G.mv ?_
  refine G.mv ?_
  first | refine G.np ?_ | refine G.q rfl rfl rfl rfl (q_nil_f rfl rfl) ?_
  first | refine G.q rfl rfl rfl rfl (q_field0 rfl rfl fo_112_1_F6) ?_ | refine G.q rfl rfl rfl rfl (q_field rfl rfl fo_112_1_F6) ?_
  refine G.ld ag_39_F6 ?_
  refine G.mv ?_
  refine G.e rfl rfl rfl rfl (e_bslice rfl rfl (bs_39_1_all_F6 _)) (fun _ _ _ _ _ _ => trivial) ?_
  rintro _ _ ⟨b21, rfl, rfl⟩
  refine G.e rfl rfl rfl rfl (e_append rfl rfl rfl se_39_F6 nf_5_F6 rfl tK1 mB (by rfl) (by simp [Value.oneCell', str]) oM) (fun _ _ _ _ _ _ => trivial) ?_
  rintro _ _ rfl
  rw [own_snoc2]
  refine G.ownShape tK1 ?_
  rintro ad2 c2 rfl
  first | refine G.np ?_ | refine G.q rfl rfl rfl rfl (q_nil_f rfl rfl) ?_
  first | refine G.q rfl rfl rfl rfl (q_field0 rfl rfl fo_112_1_F6) ?_ | refine G.q rfl rfl rfl rfl (q_field rfl rfl fo_112_1_F6) ?_
  refine G.st0 sz_39_F6 ?_
  refine G.nil ?_
  refine EN.sub (sC 4 Sub.nil) ?_
  refine EN.tsr ?_
  refine G.as ?_
  refine G.nil ?_
  refine EN.then ?_
  refine CG.ret ?_
  first | refine EN.closeS (StP b rb (out ++ [c]) most) _ tK ?_ | skip
  exact fin_ret1 rfl rfl tK sF (⟨rfl, rfl⟩) _ (.inl rfl)

set_option maxRecDepth 100000 in
set_option maxHeartbeats 1000000 in
theorem fixed_spec : Spec Tryd.prog 52 #[] [] (Ret fun v hl => ∃ bl bd, v = .tuple #[.pointer (some ⟨bl, 0, none⟩), .pointer (some ⟨bd, 0, none⟩)] ∧ hl = [TabAt bl Infl.fixedLit, TabAt bd Infl.fixedDist]) := by
 refine Spec.enter Tryd.func52 rfl rfl rfl (fun F w0 => ?_)
 dsimp only [argL, List.cons_append, List.nil_append]
 refine CG.sr ?_
 refine G.as ?_
 refine G.as ?_
 refine G.nil ?_
 refine EN.tsr ?_
 refine G.as ?_
 refine G.as ?_
 refine G.nil ?_
 refine EN.ts ?_
 refine CG.sr ?_
 refine G.mv ?_
 refine G.nil ?_
 refine EN.then ?_
 refine CG.block ?_
 refine CG.ownNil 3 1 ?_
 refine CG.loopI (fun m L H => ∃ k : Nat, ∃ (v : Value), k ≤ 288 ∧ m = (288) - k ∧ L = [(2, v), (3, .slice none 0 0), (9, .int .i64 k)] ∧ H = [own 3 1 v k (((List.range k).map Infl.fixedLen).map iv)] ++ F) ((288) - 0) (hl := [_]) (⟨0, .slice none 0 0, Nat.zero_le _, rfl, rfl, rfl⟩) sB rfl tK sF ?_
 rintro m L H ⟨k, v, hk, rfl, rfl, rfl⟩
 try dsimp only [List.cons_append, List.nil_append]
 refine CG.sr ?_
 refine G.q rfl rfl rfl rfl (q_lss rfl rfl rfl) ?_
 refine G.nil ?_
 refine EN.ts ?_
 refine CG.cond rfl (fun h10 => ?_) (fun h10 => ?_)
 ·
  have hk2 : k < 288 := by omega
  refine CG.skip ?_
  refine EN.ts ?_
  refine CG.block ?_
  refine CG.sr ?_
  refine G.mv ?_
  refine G.as ?_
  refine G.nil ?_
  refine EN.then ?_
  refine CG.block ?_
  refine CG.seq ?_
  refine CG.sr ?_
  refine G.mv ?_
  refine G.q rfl rfl rfl rfl (q_lss rfl rfl rfl) ?_
  refine G.as ?_
  refine G.nil ?_
  refine EN.then ?_
  refine CG.splitT (t := 15) rfl (fun h15 => ?_) (fun h15 => ?_)
  ·
   refine CG.cond_t rfl ?_
   refine CG.skip ?_
   refine EN.then ?_
   refine CG.cond_t rfl ?_
   have hf : Value.int .i64 8 = iv (Infl.fixedLen k) := by unfold Infl.fixedLen; first | rw [if_pos oM]; rfl | rw [if_neg oM, if_pos oM]; rfl
   refine CG.reg ?_
   refine G.mv ?_
   refine G.e rfl rfl rfl rfl (e_bslice rfl rfl (bs_52_1_all_F6 _)) (fun _ _ _ _ _ _ => trivial) ?_
   rintro _ _ ⟨b21, rfl, rfl⟩
   refine G.e rfl rfl rfl rfl (e_append rfl rfl rfl se_52_F6 nf_3_F6 rfl tK1 mB (by rfl) (by simp [Value.oneCell', str]) oM) (fun _ _ _ _ _ _ => trivial) ?_
   rintro _ _ rfl
   rw [own_takeI (u := .int .i64 8) hf]
   refine G.ownShape tK1 ?_
   rintro ad c' rfl
   refine G.as ?_
   refine G.nil ?_
   refine EN.sub (sC 2 (sC 3 (sC 9 Sub.nil))) ?_
   refine EN.in_normal ?_
   refine EN.in_normal ?_
   refine EN.tr ?_
   first | refine G.q rfl rfl rfl rfl (q_add_i rfl rfl rfl oM) ?_ | refine G.q rfl rfl rfl rfl (q_add rfl rfl rfl) ?_
   refine G.mv ?_
   refine G.nil ?_
   exact EN.round (hl := [_]) ((288) - (k + 1)) oM (⟨k + 1, _, by omega, rfl, rfl, rfl⟩) sB rfl tK sF
  ·
   refine CG.cond_f rfl ?_
   refine CG.reg ?_
   refine G.mv ?_
   refine G.q rfl rfl rfl rfl (q_geq rfl rfl rfl) ?_
   refine G.as ?_
   refine G.nil ?_
   refine EN.then ?_
   refine CG.splitT (t := 15) rfl (fun h15 => ?_) (fun h15 => ?_)
   ·
    refine CG.cond_t rfl ?_
    have hf : Value.int .i64 8 = iv (Infl.fixedLen k) := by unfold Infl.fixedLen; first | rw [if_pos oM]; rfl | rw [if_neg oM, if_pos oM]; rfl
    refine CG.reg ?_
    refine G.mv ?_
    refine G.e rfl rfl rfl rfl (e_bslice rfl rfl (bs_52_1_all_F6 _)) (fun _ _ _ _ _ _ => trivial) ?_
    rintro _ _ ⟨b21, rfl, rfl⟩
    refine G.e rfl rfl rfl rfl (e_append rfl rfl rfl se_52_F6 nf_3_F6 rfl tK1 mB (by rfl) (by simp [Value.oneCell', str]) oM) (fun _ _ _ _ _ _ => trivial) ?_
    rintro _ _ rfl
    rw [own_takeI (u := .int .i64 8) hf]
    refine G.ownShape tK1 ?_
    rintro ad c' rfl
    refine G.as ?_
    refine G.nil ?_
    refine EN.sub (sC 2 (sC 3 (sC 9 Sub.nil))) ?_
    refine EN.in_normal ?_
    refine EN.in_normal ?_
    refine EN.tr ?_
    first | refine G.q rfl rfl rfl rfl (q_add_i rfl rfl rfl oM) ?_ | refine G.q rfl rfl rfl rfl (q_add rfl rfl rfl) ?_
    refine G.mv ?_
    refine G.nil ?_
    exact EN.round (hl := [_]) ((288) - (k + 1)) oM (⟨k + 1, _, by omega, rfl, rfl, rfl⟩) sB rfl tK sF
   ·
    refine CG.cond_f rfl ?_
    refine CG.sr ?_
    refine G.mv ?_
    refine G.q rfl rfl rfl rfl (q_lss rfl rfl rfl) ?_
    refine G.as ?_
    refine G.nil ?_
    refine EN.sub (sC 2 (sC 3 (sC 9 (sC 23 Sub.nil)))) ?_
    refine EN.then ?_
    refine CG.cond rfl (fun h23 => ?_) (fun h23 => ?_)
    ·
     have hf : Value.int .i64 9 = iv (Infl.fixedLen k) := by unfold Infl.fixedLen; rw [if_neg oM, if_neg oM, if_pos oM]; rfl
     refine CG.reg ?_
     refine G.mv ?_
     refine G.e rfl rfl rfl rfl (e_bslice rfl rfl (bs_52_1_all_F6 _)) (fun _ _ _ _ _ _ => trivial) ?_
     rintro _ _ ⟨b27, rfl, rfl⟩
     refine G.e rfl rfl rfl rfl (e_append rfl rfl rfl se_52_F6 nf_3_F6 rfl tK1 mB (by rfl) (by simp [Value.oneCell', str]) oM) (fun _ _ _ _ _ _ => trivial) ?_
     rintro _ _ rfl
     rw [own_takeI (u := .int .i64 9) hf]
     refine G.ownShape tK1 ?_
     rintro ad c' rfl
     refine G.as ?_
     refine G.nil ?_
     refine EN.in_normal ?_
     refine EN.in_normal ?_
     refine EN.tr ?_
     first | refine G.q rfl rfl rfl rfl (q_add_i rfl rfl rfl oM) ?_ | refine G.q rfl rfl rfl rfl (q_add rfl rfl rfl) ?_
     refine G.mv ?_
     refine G.nil ?_
     exact EN.round (hl := [_]) ((288) - (k + 1)) oM (⟨k + 1, _, by omega, rfl, rfl, rfl⟩) sB rfl tK sF
    ·
     have hf : Value.int .i64 7 = iv (Infl.fixedLen k) := by unfold Infl.fixedLen; rw [if_neg oM, if_neg oM, if_neg oM]; rfl
     refine CG.reg ?_
     refine G.mv ?_
     refine G.e rfl rfl rfl rfl (e_bslice rfl rfl (bs_52_1_all_F6 _)) (fun _ _ _ _ _ _ => trivial) ?_
     rintro _ _ ⟨b13, rfl, rfl⟩
     refine G.e rfl rfl rfl rfl (e_append rfl rfl rfl se_52_F6 nf_3_F6 rfl tK1 mB (by rfl) (by simp [Value.oneCell', str]) oM) (fun _ _ _ _ _ _ => trivial) ?_
     rintro _ _ rfl
     rw [own_takeI (u := .int .i64 7) hf]
     refine G.ownShape tK1 ?_
     rintro ad c' rfl
     refine G.as ?_
     refine G.nil ?_
     refine EN.in_normal ?_
     refine EN.in_normal ?_
     refine EN.tr ?_
     first | refine G.q rfl rfl rfl rfl (q_add_i rfl rfl rfl oM) ?_ | refine G.q rfl rfl rfl rfl (q_add rfl rfl rfl) ?_
     refine G.mv ?_
     refine G.nil ?_
     exact EN.round (hl := [_]) ((288) - (k + 1)) oM (⟨k + 1, _, by omega, rfl, rfl, rfl⟩) sB rfl tK sF
 ·
  obtain rfl : k = 288 := by omega
  refine CG.exit ?_
  refine EN.then_exit ?_
  refine EN.then_exit ?_
  refine EN.in_here ?_
  refine EN.ts ?_
  refine CG.sr ?_
  refine G.mv ?_
  refine G.nil ?_
  refine EN.then ?_
  refine CG.block ?_
  refine CG.ownNil 3 1 ?_
  refine CG.loopI (fun m L H => ∃ k : Nat, ∃ (u : Value), k ≤ 32 ∧ m = (32) - k ∧ L = [(2, v), (3, u), (30, .int .i64 k)] ∧ H = [own 3 1 v 288 (Infl.fixedLit.map iv), own 3 1 u k (((List.range k).map fun _ => 5).map iv)] ++ F) ((32) - 0) (hl := [_, _]) (⟨0, .slice none 0 0, Nat.zero_le _, rfl, rfl, rfl⟩) sB rfl tK sF ?_
  rintro m L H ⟨k, u, hk, rfl, rfl, rfl⟩
  try dsimp only [List.cons_append, List.nil_append]
  refine CG.sr ?_
  refine G.q rfl rfl rfl rfl (q_lss rfl rfl rfl) ?_
  refine G.nil ?_
  refine EN.ts ?_
  refine CG.cond rfl (fun h31 => ?_) (fun h31 => ?_)
  ·
   have hk2 : k < 32 := by omega
   refine CG.skip ?_
   refine EN.ts ?_
   refine CG.block ?_
   refine CG.reg ?_
   refine G.mv ?_
   refine G.e rfl rfl rfl rfl (e_bslice rfl rfl (bs_52_1_all_F6 _)) (fun _ _ _ _ _ _ => trivial) ?_
   rintro _ _ ⟨b33, rfl, rfl⟩
   refine G.e rfl rfl rfl rfl (e_append rfl rfl rfl se_52_F6 nf_3_F6 rfl tK1 mB (by rfl) (by simp [Value.oneCell', str]) oM) (fun _ _ _ _ _ _ => trivial) ?_
   rintro _ _ rfl
   rw [own_takeI (f := fun _ => 5) (u := .int .i64 5) rfl]
   refine G.ownShape tK1 ?_
   rintro ad c' rfl
   refine G.as ?_
   refine G.nil ?_
   refine EN.in_normal ?_
   refine EN.tr ?_
   first | refine G.q rfl rfl rfl rfl (q_add_i rfl rfl rfl oM) ?_ | refine G.q rfl rfl rfl rfl (q_add rfl rfl rfl) ?_
   refine G.mv ?_
   refine G.nil ?_
   exact EN.round (hl := [_, _]) ((32) - (k + 1)) oM (⟨k + 1, _, by omega, rfl, rfl, rfl⟩) sB rfl tK sF
  ·
   obtain rfl : k = 32 := by omega
   refine CG.openOwn (v := v) tK1 oM (fun gv cv xv hv hcv hmv hlv htv => ?_)
   cases hv
   refine CG.openOwn (v := u) tK1 oM (fun gu cu xu hu hcu hmu hlu htu => ?_)
   cases hu
   refine CG.exit ?_
   refine EN.then_exit ?_
   refine EN.then_exit ?_
   refine EN.in_here ?_
   refine EN.tsr ?_
   refine G.mv ?_
   refine G.call (xs := [_]) rfl rfl (hnew_spec gv 0 cv 3 xv Infl.fixedLit Infl.lit_le (by rw [Infl.lit_len]; omega) (by rw [Infl.lit_len]; exact htv)) bd_71_F6 rfl rfl rfl rfl tK (fun _ _ _ _ _ _ => trivial) ?_
   rintro _ _ (⟨hb, _⟩ | ⟨_, bl, rfl, rfl⟩)
   · rw [Infl.lit_bad] at hb; cases hb
   try dsimp only [List.cons_append, List.nil_append]
   refine G.mv ?_
   refine G.q rfl rfl rfl rfl (q_extract rfl rfl rfl) ?_
   refine G.q rfl rfl rfl rfl (q_extract rfl rfl rfl) ?_
   refine G.as ?_
   refine G.as ?_
   refine G.nil ?_
   refine EN.sub (sC 3 (sC 5 Sub.nil)) ?_
   refine EN.tsr ?_
   refine G.mv ?_
   refine G.call (xs := [_]) rfl rfl (hnew_spec gu 0 cu 3 xu Infl.fixedDist Infl.dist_le (by rw [Infl.dist_len]; omega) (by rw [Infl.dist_len]; exact htu)) bd_71_F6 rfl rfl rfl rfl tK (fun _ _ _ _ _ _ => trivial) ?_
   rintro _ _ (⟨hb, _⟩ | ⟨_, bd, rfl, rfl⟩)
   · rw [Infl.dist_bad] at hb; cases hb
   try dsimp only [List.cons_append, List.nil_append]
   refine G.mv ?_
   refine G.q rfl rfl rfl rfl (q_extract rfl rfl rfl) ?_
   refine G.q rfl rfl rfl rfl (q_extract rfl rfl rfl) ?_
   refine G.as ?_
   refine G.as ?_
   refine G.nil ?_
   refine EN.tsr ?_
   refine G.mv ?_
   refine G.mv ?_
   refine G.as ?_
   refine G.as ?_
   refine G.nil ?_
   refine EN.sub (sC 0 (sC 1 Sub.nil)) ?_
   refine EN.then ?_
   refine CG.ret ?_
   exact fin_ret2 rfl rfl rfl tK sF (⟨bl, bd, rfl, rfl⟩) _ (.inl rfl)

set_option maxRecDepth 100000 in
set_option maxHeartbeats 1000000 in
theorem stored_spec (b rb : Nat) (r : RD) (out : List UInt8) (most : Nat) (hr : r.Ok) (hm : most ≤ 1000000) (ho : out.length ≤ most) : Spec Tryd.prog 78 #[.pointer (some ⟨b, 0, none⟩)] [StAt b rb out most, RdAt rb r] (Ret fun v hl => v = .int .i64 (Infl.stored r out most).2.2 ∧ hl = [StAt b rb (Infl.stored r out most).2.1 most, RdAt rb (Infl.stored r out most).1]) := by
 refine Spec.enter Tryd.func78 rfl rfl rfl (fun F w0 => ?_)
 dsimp only [argL, List.cons_append, List.nil_append]
 refine CG.seq ?_
 refine CG.openS (StP b rb out most) tK1 (fun v => ?_)
 unfold StP
 dsimp only [List.cons_append, List.nil_append]
 refine CG.reg ?_
 refine G.as ?_
 refine G.nil ?_
 refine EN.tsr ?_
 refine G.mv ?_
 first | refine G.np ?_ | refine G.q rfl rfl rfl rfl (q_nil_f rfl rfl) ?_
 first | refine G.q rfl rfl rfl rfl (q_field0 rfl rfl fo_112_0_F6) ?_ | refine G.q rfl rfl rfl rfl (q_field rfl rfl fo_112_0_F6) ?_
 refine G.ld ag_109_F6 ?_
 refine G.call (xs := [_, _]) rfl rfl (rbytes_spec rb r 4 hr oM) bd_87_F6 rfl rfl rfl rfl tK (fun _ _ _ _ _ _ => trivial) ?_
 rintro _ _ ⟨rfl, rfl⟩
 try dsimp only [List.cons_append, List.nil_append]
 refine G.mv ?_
 refine G.q rfl rfl rfl rfl (q_extract rfl rfl rfl) ?_
 refine G.q rfl rfl rfl rfl (q_extract rfl rfl rfl) ?_
 refine G.as ?_
 refine G.as ?_
 refine G.nil ?_
 refine EN.ts ?_
 refine CG.sr ?_
 refine G.mv ?_
 refine G.q rfl rfl rfl rfl (q_not rfl rfl) ?_
 refine G.nil ?_
 refine EN.sub (sC 0 (sC 2 (sC 3 (sC 4 (sC 16 Sub.nil))))) ?_
 refine EN.then ?_
 refine CG.condB rfl (fun h16 => ?_) (fun h16 => ?_)
 ·
  have hE : Infl.stored r out most = ((r.bytes 4).1, out, 6) := if_pos (by simpa using h16)
  refine CG.sr ?_
  refine G.as ?_
  refine G.nil ?_
  refine EN.then ?_
  refine CG.ret ?_
  refine EN.then_ret ?_
  first | refine EN.closeS (StP b rb (out ++ bs) most) _ tK ?_ | refine EN.closeS (StP b rb out most) _ tK ?_
  rw [hE]
  try dsimp only
  exact fin_ret1 rfl rfl tK sF (⟨rfl, rfl⟩) _ (.inl rfl)
 ·
  have h16b : ¬ (r.bytes 4).2.2 = false := by simpa using h16
  have hl := RD.bytes_len hr (n := 4) (by simpa using h16b)
  have hr1 : (r.bytes 4).1.Ok := RD.bytes_ok hr 4
  have hb1 := Sums.fromLittle_lt' (s := (r.bytes 4).2.1.take 2) (j := 2) (by simp; omega)
  have hb2 := Sums.fromLittle_lt' (s := (r.bytes 4).2.1.drop 2) (j := 2) (by simp; omega)
  obtain ⟨n, hn⟩ := Int.eq_ofNat_of_zero_le hb1.1
  rw [hn] at hb1
  have hr2 : ((r.bytes 4).1.bytes n).1.Ok := RD.bytes_ok hr1 n
  have hE0 : Infl.stored r out most = if bits .xor .i64 (n : Int) 65535 ≠ Sums.fromLittle ((r.bytes 4).2.1.drop 2) then ((r.bytes 4).1, out, 3) else Infl.stored1 (r.bytes 4).1 n out most := by
    unfold Infl.stored; rw [if_neg h16b, hn, Int.toNat_natCast]
  refine CG.skip ?_
  refine EN.tsr ?_
  refine G.mv ?_
  refine G.q rfl rfl rfl rfl (q_slice_hi rfl rfl rfl us_9_F6 (by rw [hl]; decide)) ?_
  refine G.call (xs := [_]) rfl rfl (fromLittle_spec ((r.bytes 4).2.1.take 2) (by simp; omega)) bd_88_F6 rfl rfl rfl rfl tK (fun _ _ _ _ _ _ => trivial) ?_
  rintro _ _ ⟨rfl, rfl⟩
  try dsimp only [List.cons_append, List.nil_append]
  rw [hn]
  first | refine G.q rfl rfl rfl rfl (q_conv_in rfl rfl is_51_F6 ik_3_F6 (wrap64_in oM)) ?_ | refine G.q rfl rfl rfl rfl (q_conv rfl rfl is_51_F6 ik_3_F6) ?_
  refine G.as ?_
  refine G.nil ?_
  refine EN.ts ?_
  refine CG.sr ?_
  refine G.mv ?_
  refine G.q rfl rfl rfl rfl (q_xor rfl rfl rfl) ?_
  refine G.mv ?_
  refine G.q rfl rfl rfl rfl (q_slice_lo rfl rfl rfl us_9_F6 (by rw [hl]; decide)) ?_
  refine G.call (xs := [_]) rfl rfl (fromLittle_spec ((r.bytes 4).2.1.drop 2) (by simp; omega)) bd_88_F6 rfl rfl rfl rfl tK (fun _ _ _ _ _ _ => trivial) ?_
  rintro _ _ ⟨rfl, rfl⟩
  try dsimp only [List.cons_append, List.nil_append]
  first | refine G.q rfl rfl rfl rfl (q_conv_in rfl rfl is_51_F6 ik_3_F6 (wrap64_in oM)) ?_ | refine G.q rfl rfl rfl rfl (q_conv rfl rfl is_51_F6 ik_3_F6) ?_
  refine G.q rfl rfl rfl rfl (q_neq rfl rfl rfl) ?_
  refine G.nil ?_
  refine EN.sub (sC 0 (sC 2 (sC 4 (sC 5 (sC 27 Sub.nil))))) ?_
  refine EN.then ?_
  refine CG.cond rfl (fun h27 => ?_) (fun h27 => ?_)
  ·
   have hE : Infl.stored r out most = ((r.bytes 4).1, out, 3) := by rw [hE0, if_pos h27]
   refine CG.sr ?_
   refine G.as ?_
   refine G.nil ?_
   refine EN.then ?_
   refine CG.ret ?_
   refine EN.then_ret ?_
   first | refine EN.closeS (StP b rb (out ++ bs) most) _ tK ?_ | refine EN.closeS (StP b rb out most) _ tK ?_
   rw [hE]
   try dsimp only
   exact fin_ret1 rfl rfl tK sF (⟨rfl, rfl⟩) _ (.inl rfl)
  ·
   rw [if_neg h27] at hE0
   unfold Infl.stored1 at hE0
   refine CG.skip ?_
   refine EN.tsr ?_
   refine G.mv ?_
   first | refine G.np ?_ | refine G.q rfl rfl rfl rfl (q_nil_f rfl rfl) ?_
   first | refine G.q rfl rfl rfl rfl (q_field0 rfl rfl fo_112_0_F6) ?_ | refine G.q rfl rfl rfl rfl (q_field rfl rfl fo_112_0_F6) ?_
   refine G.ld ag_109_F6 ?_
   refine G.mv ?_
   refine G.call (xs := [_, _]) rfl rfl (rbytes_spec rb (r.bytes 4).1 n hr1 oM) bd_87_F6 rfl rfl rfl rfl tK (fun _ _ _ _ _ _ => trivial) ?_
   rintro _ _ ⟨rfl, rfl⟩
   try dsimp only [List.cons_append, List.nil_append]
   refine G.mv ?_
   refine G.q rfl rfl rfl rfl (q_extract rfl rfl rfl) ?_
   refine G.q rfl rfl rfl rfl (q_extract rfl rfl rfl) ?_
   refine G.as ?_
   refine G.as ?_
   refine G.nil ?_
   refine EN.sub (sC 0 (sC 2 (sC 4 (sC 6 Sub.nil)))) ?_
   refine EN.then ?_
   refine CG.cut (fun L H => ∃ (q : RD) (bs : List UInt8) (ok : Bool), q.Ok ∧ Infl.stored r out most = Infl.stored2 ok q bs out most ∧ L = [(0, .pointer (some ⟨b, 0, none⟩)), (4, .bool ok), (6, str bs)] ∧ H = [cel b 112 [.pointer (some ⟨rb, 0, none⟩), v, .int .i64 most], own 5 1 v out.length (out.map u8v), RdAt rb q] ++ F) ?_ ?_
   ·
    refine CG.sr ?_
    refine G.mv ?_
    refine G.q rfl rfl rfl rfl (q_not rfl rfl) ?_
    refine G.nil ?_
    refine EN.then ?_
    refine CG.condB rfl (fun h38 => ?_) (fun h38 => ?_)
    ·
     have h38b : ((r.bytes 4).1.bytes n).2.2 = false := by simpa using h38
     rw [if_pos h38b] at hE0
     have e9 : ((((r.bytes 4).1.bytes n).1.left : Nat) : Int) / 8 = ((((r.bytes 4).1.bytes n).1.left / 8 : Nat) : Int) := by omega
     have hld := RD.left_div hr2
     have hld2 := hr2.len
     have hq2 := RD.bytes_ok hr2 (((r.bytes 4).1.bytes n).1.left / 8)
     rw [h38b]
     refine CG.regC [43] (CellIs b 0 (.pointer (some ⟨rb, 0, none⟩))) mixed (by kernel_rfl) (fun w hw => CellIs.of hw mB rfl) ?_
     refine G.mv ?_
     first | refine G.np ?_ | refine G.q rfl rfl rfl rfl (q_nil_f rfl rfl) ?_
     first | refine G.q rfl rfl rfl rfl (q_field0 rfl rfl fo_112_0_F6) ?_ | refine G.q rfl rfl rfl rfl (q_field rfl rfl fo_112_0_F6) ?_
     refine G.loadC rfl rfl rfl rfl rfl rfl rfl ag_109_F6 (fun w h => h) ?_
     refine G.mv ?_
     first | refine G.np ?_ | refine G.q rfl rfl rfl rfl (q_nil_f rfl rfl) ?_
     first | refine G.q rfl rfl rfl rfl (q_field0 rfl rfl fo_112_0_F6) ?_ | refine G.q rfl rfl rfl rfl (q_field rfl rfl fo_112_0_F6) ?_
     refine G.ld ag_109_F6 ?_
     refine G.call (xs := [_]) rfl rfl (left_spec rb ((r.bytes 4).1.bytes n).1 hr2) bd_89_F6 rfl rfl rfl rfl tK (fun _ _ _ w hR hw => by obtain ⟨_, rfl⟩ := hR; exact CellIs.of hw mB rfl) ?_
     rintro _ _ ⟨rfl, rfl⟩
     try dsimp only [List.cons_append, List.nil_append]
     first | refine G.q rfl rfl rfl rfl (q_quo_i rfl rfl rfl oM) ?_ | refine G.q rfl rfl rfl rfl (q_quo rfl rfl rfl oM) ?_
     rw [e9]
     refine G.call (xs := [_, _]) rfl rfl (rbytes_spec rb ((r.bytes 4).1.bytes n).1 _ hr2 (Nat.le_trans (RD.left_div hr2) hr2.len)) bd_87_F6 rfl rfl rfl rfl tK (fun _ _ _ w hR hw => by obtain ⟨_, rfl⟩ := hR; exact CellIs.of hw mB rfl) ?_
     rintro _ _ ⟨rfl, rfl⟩
     try dsimp only [List.cons_append, List.nil_append]
     refine G.mv ?_
     refine G.q rfl rfl rfl rfl (q_extract rfl rfl rfl) ?_
     refine G.q rfl rfl rfl rfl (q_extract rfl rfl rfl) ?_
     refine G.as ?_
     refine G.nil ?_
     refine EN.sub (sC 0 (sC 2 (sC 4 (sC 6 Sub.nil)))) ?_
     exact EN.cut (hl := [_, _, _]) (⟨_, _, _, hq2, hE0, rfl, rfl⟩) sB rfl tK sF
    ·
     have h38b : ((r.bytes 4).1.bytes n).2.2 = true := by simpa using h38
     rw [if_neg (by rw [h38b]; simp)] at hE0
     have hq2 := hr2
     rw [h38b]
     refine CG.skip ?_
     exact EN.cut (hl := [_, _, _]) (⟨_, _, _, hq2, hE0, rfl, rfl⟩) sB rfl tK sF
   ·
    rintro L H ⟨q, bs, ok, hq, hE1, rfl, rfl⟩
    try dsimp only [List.cons_append, List.nil_append]
    unfold Infl.stored2 at hE1
    refine CG.ownShape v tK1 (fun ad c2 hu => ?_)
    subst hu
    refine CG.seq ?_
    refine CG.seq ?_
    refine CG.regT [] mixed (by kernel_rfl) ?_
    refine G.mv ?_
    refine G.q rfl rfl rfl rfl (q_len_str rfl rfl us_9_F6) ?_
    refine G.mv ?_
    first | refine G.np ?_ | refine G.q rfl rfl rfl rfl (q_nil_f rfl rfl) ?_
    first | refine G.q rfl rfl rfl rfl (q_field0 rfl rfl fo_112_2_F6) ?_ | refine G.q rfl rfl rfl rfl (q_field rfl rfl fo_112_2_F6) ?_
    refine G.ld ag_3_F6 ?_
    refine G.mv ?_
    first | refine G.np ?_ | refine G.q rfl rfl rfl rfl (q_nil_f rfl rfl) ?_
    first | refine G.q rfl rfl rfl rfl (q_field0 rfl rfl fo_112_1_F6) ?_ | refine G.q rfl rfl rfl rfl (q_field rfl rfl fo_112_1_F6) ?_
    refine G.ld ag_39_F6 ?_
    refine G.q rfl rfl rfl rfl (q_len_sl rfl rfl se_39_F6) ?_
    first | refine G.q rfl rfl rfl rfl (q_sub_i rfl rfl rfl oM) ?_ | refine G.q rfl rfl rfl rfl (q_sub rfl rfl rfl) ?_
    refine G.q rfl rfl rfl rfl (q_gtr rfl rfl rfl) ?_
    refine G.nil ?_
    refine EN.sub (sC 0 (sC 4 (sC 6 (sC 65 Sub.nil)))) ?_
    refine EN.then ?_
    refine CG.cond rfl (fun h65 => ?_) (fun h65 => ?_)
    ·
     have hE : Infl.stored r out most = (q, out, 2) := by rw [hE1, if_pos oM]
     refine CG.sr ?_
     refine G.as ?_
     refine G.nil ?_
     refine EN.then ?_
     refine CG.ret ?_
     refine EN.then_ret ?_
     first | refine EN.closeS (StP b rb (out ++ bs) most) _ tK ?_ | refine EN.closeS (StP b rb out most) _ tK ?_
     rw [hE]
     try dsimp only
     exact fin_ret1 rfl rfl tK sF (⟨rfl, rfl⟩) _ (.inl rfl)
    ·
     rw [if_neg oM] at hE1
     refine CG.skip ?_
     refine EN.tsr ?_
     refine G.mv ?_
     refine G.mv ?_
     first | refine G.np ?_ | refine G.q rfl rfl rfl rfl (q_nil_f rfl rfl) ?_
     first | refine G.q rfl rfl rfl rfl (q_field0 rfl rfl fo_112_1_F6) ?_ | refine G.q rfl rfl rfl rfl (q_field rfl rfl fo_112_1_F6) ?_
     refine G.ld ag_39_F6 ?_
     refine G.mv ?_
     refine G.e rfl rfl rfl rfl (e_append_str rfl rfl rfl se_39_F6 us_9_F6 nf_5_F6 tK1 oM) (fun _ _ _ _ _ _ => trivial) ?_
     rintro _ _ rfl
     rw [own_app]
     refine G.ownShape tK1 ?_
     rintro ad2 c3 rfl
     first | refine G.np ?_ | refine G.q rfl rfl rfl rfl (q_nil_f rfl rfl) ?_
     first | refine G.q rfl rfl rfl rfl (q_field0 rfl rfl fo_112_1_F6) ?_ | refine G.q rfl rfl rfl rfl (q_field rfl rfl fo_112_1_F6) ?_
     refine G.st0 sz_39_F6 ?_
     refine G.nil ?_
     refine EN.sub (sC 4 Sub.nil) ?_
     refine EN.ts ?_
     refine CG.sr ?_
     refine G.mv ?_
     refine G.q rfl rfl rfl rfl (q_not rfl rfl) ?_
     refine G.nil ?_
     refine EN.then ?_
     refine CG.condB rfl (fun h76 => ?_) (fun h76 => ?_)
     ·
      have hE : Infl.stored r out most = (q, out ++ bs, 6) := by rw [hE1, if_pos (by simpa using h76)]
      refine CG.sr ?_
      refine G.as ?_
      refine G.nil ?_
      refine EN.then ?_
      refine CG.ret ?_
      refine EN.then_ret ?_
      first | refine EN.closeS (StP b rb (out ++ bs) most) _ tK ?_ | refine EN.closeS (StP b rb out most) _ tK ?_
      rw [hE]
      try dsimp only
      exact fin_ret1 rfl rfl tK sF (⟨rfl, rfl⟩) _ (.inl rfl)
     ·
      have hE : Infl.stored r out most = (q, out ++ bs, 0) := by rw [hE1, if_neg (by simpa using h76)]
      refine CG.skip ?_
      refine EN.tsr ?_
      refine G.as ?_
      refine G.nil ?_
      refine EN.then ?_
      refine CG.ret ?_
      first | refine EN.closeS (StP b rb (out ++ bs) most) _ tK ?_ | refine EN.closeS (StP b rb out most) _ tK ?_
      rw [hE]
      try dsimp only
      exact fin_ret1 rfl rfl tK sF (⟨rfl, rfl⟩) _ (.inl rfl)

set_option maxRecDepth 100000 in
set_option maxHeartbeats 1000000 in
theorem again_spec (b rb bd : Nat) (ds : List Nat) (r : RD) (out : List UInt8) (most s : Nat) (hr : r.Ok) (hds : ds.length ≤ 320) (hm : most ≤ 1000000) (ho : out.length ≤ most) (hs : 257 ≤ s) : Spec Tryd.prog 82 #[.pointer (some ⟨b, 0, none⟩), .int .i64 s, .pointer (some ⟨bd, 0, none⟩)] [StAt b rb out most, TabAt bd ds, RdAt rb r] (Ret fun v hl => v = .int .i64 (Infl.again ds most r out s).2.2 ∧ hl = [StAt b rb (Infl.again ds most r out s).2.1 most, TabAt bd ds, RdAt rb (Infl.again ds most r out s).1]) := by
 obtain ⟨X, hX⟩ : ∃ X, Infl.again ds most r out s = X := ⟨_, rfl⟩
 have hE0 := hX
 unfold Infl.again at hE0
 rw [hX]
 refine Spec.enter Tryd.func82 rfl rfl rfl (fun F w0 => ?_)
 dsimp only [argL, List.cons_append, List.nil_append]
 refine CG.seq ?_
 refine CG.openS (StP b rb out most) tK1 (fun v => ?_)
 unfold StP
 dsimp only [List.cons_append, List.nil_append]
 refine CG.reg ?_
 refine G.as ?_
 refine G.nil ?_
 refine EN.ts ?_
 refine CG.sr ?_
 refine G.mv ?_
 refine G.q rfl rfl rfl rfl (q_gtr rfl rfl rfl) ?_
 refine G.nil ?_
 refine EN.then ?_
 refine CG.cond rfl (fun h16 => ?_) (fun h16 => ?_)
 ·
  rw [if_pos oM] at hE0
  refine CG.sr ?_
  refine G.as ?_
  refine G.nil ?_
  refine EN.then ?_
  refine CG.ret ?_
  refine EN.then_ret ?_
  first | refine EN.closeS (StP b rb _ most) _ tK ?_ | skip
  rw [← hE0]
  try dsimp only
  exact fin_ret1 rfl rfl tK sF (⟨rfl, rfl⟩) _ (.inl rfl)
 ·
  rw [if_neg oM] at hE0
  dsimp only at hE0
  have e257 : ((s : Int) - 257) = ((s - 257 : Nat) : Int) := by omega
  have hB := Infl.lengthBase_le (i := s - 257) oM
  have hx1 := RD.bits_ok hr (n := (Infl.lengthBase (s - 257)).2) oM
  have hx2 := RD.bits_lt r (Infl.lengthBase (s - 257)).2
  have hx3 := Infl.two_pow_le hB.2.2
  have hy1 := (Huff.read_ok ds hx1).1
  refine CG.skip ?_
  refine EN.tsr ?_
  refine G.mv ?_
  first | refine G.q rfl rfl rfl rfl (q_sub_i rfl rfl rfl oM) ?_ | refine G.q rfl rfl rfl rfl (q_sub rfl rfl rfl) ?_
  rw [e257]
  refine G.call (xs := [_]) rfl rfl (lengthBase_spec (s - 257) oM) bd_57_F6 rfl rfl rfl rfl tK (fun _ _ _ _ _ _ => trivial) ?_
  rintro _ _ ⟨rfl, rfl⟩
  try dsimp only [List.cons_append, List.nil_append]
  refine G.mv ?_
  refine G.q rfl rfl rfl rfl (q_extract rfl rfl rfl) ?_
  refine G.q rfl rfl rfl rfl (q_extract rfl rfl rfl) ?_
  refine G.as ?_
  refine G.as ?_
  refine G.nil ?_
  refine EN.sub (sC 0 (sC 2 (sC 6 (sC 7 (sC 8 Sub.nil))))) ?_
  refine EN.tsr ?_
  refine G.mv ?_
  first | refine G.np ?_ | refine G.q rfl rfl rfl rfl (q_nil_f rfl rfl) ?_
  first | refine G.q rfl rfl rfl rfl (q_field0 rfl rfl fo_112_0_F6) ?_ | refine G.q rfl rfl rfl rfl (q_field rfl rfl fo_112_0_F6) ?_
  refine G.ld ag_109_F6 ?_
  refine G.mv ?_
  refine G.call (xs := [_, _]) rfl rfl (rbits_spec rb r _ hr oM) bd_77_F6 rfl rfl rfl rfl tK (fun _ _ _ _ _ _ => trivial) ?_
  rintro _ _ ⟨rfl, rfl⟩
  try dsimp only [List.cons_append, List.nil_append]
  refine G.mv ?_
  refine G.q rfl rfl rfl rfl (q_extract rfl rfl rfl) ?_
  refine G.q rfl rfl rfl rfl (q_extract rfl rfl rfl) ?_
  refine G.as ?_
  refine G.as ?_
  refine G.nil ?_
  refine EN.sub (sC 0 (sC 2 (sC 6 (sC 7 (sC 8 (sC 9 (sC 10 Sub.nil))))))) ?_
  refine EN.ts ?_
  refine CG.sr ?_
  refine G.mv ?_
  refine G.q rfl rfl rfl rfl (q_not rfl rfl) ?_
  refine G.nil ?_
  refine EN.then ?_
  refine CG.condB rfl (fun h33 => ?_) (fun h33 => ?_)
  ·
   rw [if_pos (by simpa using h33)] at hE0
   refine CG.sr ?_
   refine G.as ?_
   refine G.nil ?_
   refine EN.then ?_
   refine CG.ret ?_
   refine EN.then_ret ?_
   first | refine EN.closeS (StP b rb _ most) _ tK ?_ | skip
   rw [← hE0]
   try dsimp only
   exact fin_ret1 rfl rfl tK sF (⟨rfl, rfl⟩) _ (.inl rfl)
  ·
   rw [if_neg (by simpa using h33)] at hE0
   refine CG.skip ?_
   refine EN.tsr ?_
   refine G.mv ?_
   refine G.mv ?_
   first | refine G.q rfl rfl rfl rfl (q_conv_in rfl rfl is_32_F6 ik_3_F6 (wrap64_in oM)) ?_ | refine G.q rfl rfl rfl rfl (q_conv rfl rfl is_32_F6 ik_3_F6) ?_
   first | refine G.q rfl rfl rfl rfl (q_add_i rfl rfl rfl oM) ?_ | refine G.q rfl rfl rfl rfl (q_add rfl rfl rfl) ?_
   refine G.as ?_
   refine G.nil ?_
   refine EN.tsr ?_
   refine G.mv ?_
   refine G.mv ?_
   first | refine G.np ?_ | refine G.q rfl rfl rfl rfl (q_nil_f rfl rfl) ?_
   first | refine G.q rfl rfl rfl rfl (q_field0 rfl rfl fo_112_0_F6) ?_ | refine G.q rfl rfl rfl rfl (q_field rfl rfl fo_112_0_F6) ?_
   refine G.ld ag_109_F6 ?_
   refine G.call (xs := [_, _]) rfl rfl (hread_spec bd rb ds (r.bits (Infl.lengthBase (s - 257)).2).1 hx1 hds) bd_80_F6 rfl rfl rfl rfl tK (fun _ _ _ _ _ _ => trivial) ?_
   rintro _ _ ⟨rfl, rfl⟩
   try dsimp only [List.cons_append, List.nil_append]
   refine G.mv ?_
   refine G.q rfl rfl rfl rfl (q_extract rfl rfl rfl) ?_
   refine G.q rfl rfl rfl rfl (q_extract rfl rfl rfl) ?_
   refine G.as ?_
   refine G.as ?_
   refine G.nil ?_
   refine EN.sub (sC 0 (sC 6 (sC 7 (sC 8 (sC 9 (sC 10 (sC 11 (sC 12 Sub.nil)))))))) ?_
   refine EN.ts ?_
   refine CG.sr ?_
   refine G.mv ?_
   refine G.q rfl rfl rfl rfl (q_neq rfl rfl rfl) ?_
   refine G.nil ?_
   refine EN.then ?_
   refine CG.cond rfl (fun h48 => ?_) (fun h48 => ?_)
   ·
    rw [if_pos oM] at hE0
    refine CG.sr ?_
    refine G.mv ?_
    refine G.as ?_
    refine G.nil ?_
    refine EN.then ?_
    refine CG.ret ?_
    refine EN.then_ret ?_
    first | refine EN.closeS (StP b rb _ most) _ tK ?_ | skip
    rw [← hE0]
    try dsimp only
    exact fin_ret1 rfl rfl tK sF (⟨rfl, rfl⟩) _ (.inl rfl)
   ·
    rw [if_neg oM] at hE0
    refine CG.skip ?_
    refine EN.ts ?_
    refine CG.sr ?_
    refine G.mv ?_
    refine G.q rfl rfl rfl rfl (q_gtr rfl rfl rfl) ?_
    refine G.nil ?_
    refine EN.then ?_
    refine CG.cond rfl (fun h51 => ?_) (fun h51 => ?_)
    ·
     rw [if_pos oM] at hE0
     refine CG.sr ?_
     refine G.as ?_
     refine G.nil ?_
     refine EN.then ?_
     refine CG.ret ?_
     refine EN.then_ret ?_
     first | refine EN.closeS (StP b rb _ most) _ tK ?_ | skip
     rw [← hE0]
     try dsimp only
     exact fin_ret1 rfl rfl tK sF (⟨rfl, rfl⟩) _ (.inl rfl)
    ·
     rw [if_neg oM] at hE0
     have hD := Infl.distBase_le (i := (Huff.read ds (r.bits (Infl.lengthBase (s - 257)).2).1).2.1) oM
     have hz2 := RD.bits_lt (Huff.read ds (r.bits (Infl.lengthBase (s - 257)).2).1).1 (Infl.distBase (Huff.read ds (r.bits (Infl.lengthBase (s - 257)).2).1).2.1).2
     have hz3 := Infl.two_pow_le hD.2.2
     refine CG.skip ?_
     refine EN.tsr ?_
     refine G.mv ?_
     refine G.call (xs := [_]) rfl rfl (distBase_spec (Huff.read ds (r.bits (Infl.lengthBase (s - 257)).2).1).2.1 oM) bd_58_F6 rfl rfl rfl rfl tK (fun _ _ _ _ _ _ => trivial) ?_
     rintro _ _ ⟨rfl, rfl⟩
     try dsimp only [List.cons_append, List.nil_append]
     refine G.mv ?_
     refine G.q rfl rfl rfl rfl (q_extract rfl rfl rfl) ?_
     refine G.q rfl rfl rfl rfl (q_extract rfl rfl rfl) ?_
     refine G.as ?_
     refine G.as ?_
     refine G.nil ?_
     refine EN.sub (sC 0 (sC 6 (sC 7 (sC 8 (sC 9 (sC 10 (sC 13 Sub.nil))))))) ?_
     refine EN.tsr ?_
     refine G.mv ?_
     first | refine G.np ?_ | refine G.q rfl rfl rfl rfl (q_nil_f rfl rfl) ?_
     first | refine G.q rfl rfl rfl rfl (q_field0 rfl rfl fo_112_0_F6) ?_ | refine G.q rfl rfl rfl rfl (q_field rfl rfl fo_112_0_F6) ?_
     refine G.ld ag_109_F6 ?_
     refine G.mv ?_
     refine G.call (xs := [_, _]) rfl rfl (rbits_spec rb (Huff.read ds (r.bits (Infl.lengthBase (s - 257)).2).1).1 _ hy1 oM) bd_77_F6 rfl rfl rfl rfl tK (fun _ _ _ _ _ _ => trivial) ?_
     rintro _ _ ⟨rfl, rfl⟩
     try dsimp only [List.cons_append, List.nil_append]
     refine G.mv ?_
     refine G.q rfl rfl rfl rfl (q_extract rfl rfl rfl) ?_
     refine G.q rfl rfl rfl rfl (q_extract rfl rfl rfl) ?_
     refine G.as ?_
     refine G.as ?_
     refine G.nil ?_
     refine EN.sub (sC 0 (sC 6 (sC 7 (sC 9 (sC 10 (sC 13 Sub.nil)))))) ?_
     refine EN.ts ?_
     refine CG.sr ?_
     refine G.mv ?_
     refine G.q rfl rfl rfl rfl (q_not rfl rfl) ?_
     refine G.nil ?_
     refine EN.then ?_
     refine CG.condB rfl (fun h67 => ?_) (fun h67 => ?_)
     ·
      rw [if_pos (by simpa using h67)] at hE0
      refine CG.sr ?_
      refine G.as ?_
      refine G.nil ?_
      refine EN.then ?_
      refine CG.ret ?_
      refine EN.then_ret ?_
      first | refine EN.closeS (StP b rb _ most) _ tK ?_ | skip
      rw [← hE0]
      try dsimp only
      exact fin_ret1 rfl rfl tK sF (⟨rfl, rfl⟩) _ (.inl rfl)
     ·
      rw [if_neg (by simpa using h67)] at hE0
      refine CG.skip ?_
      refine EN.tsr ?_
      refine G.mv ?_
      refine G.mv ?_
      first | refine G.q rfl rfl rfl rfl (q_conv_in rfl rfl is_32_F6 ik_3_F6 (wrap64_in oM)) ?_ | refine G.q rfl rfl rfl rfl (q_conv rfl rfl is_32_F6 ik_3_F6) ?_
      first | refine G.q rfl rfl rfl rfl (q_add_i rfl rfl rfl oM) ?_ | refine G.q rfl rfl rfl rfl (q_add rfl rfl rfl) ?_
      refine G.as ?_
      refine G.nil ?_
      refine EN.ts ?_
      refine CG.seq ?_
      refine CG.ownShape v tK1 (fun ad c2 hu => ?_)
      subst hu
      have e13 : (((Infl.distBase (Huff.read ds (r.bits (Infl.lengthBase (s - 257)).2).1).2.1).1 : Int) + (((Huff.read ds (r.bits (Infl.lengthBase (s - 257)).2).1).1.bits (Infl.distBase (Huff.read ds (r.bits (Infl.lengthBase (s - 257)).2).1).2.1).2).2.1 : Nat)) = (((Infl.distBase (Huff.read ds (r.bits (Infl.lengthBase (s - 257)).2).1).2.1).1 + ((Huff.read ds (r.bits (Infl.lengthBase (s - 257)).2).1).1.bits (Infl.distBase (Huff.read ds (r.bits (Infl.lengthBase (s - 257)).2).1).2.1).2).2.1 : Nat) : Int) := by omega
      rw [e13]
      have e7 : (((Infl.lengthBase (s - 257)).1 : Int) + ((r.bits (Infl.lengthBase (s - 257)).2).2.1 : Nat)) = (((Infl.lengthBase (s - 257)).1 + (r.bits (Infl.lengthBase (s - 257)).2).2.1 : Nat) : Int) := by omega
      rw [e7]
      refine CG.reg ?_
      refine G.mv ?_
      refine G.mv ?_
      first | refine G.np ?_ | refine G.q rfl rfl rfl rfl (q_nil_f rfl rfl) ?_
      first | refine G.q rfl rfl rfl rfl (q_field0 rfl rfl fo_112_1_F6) ?_ | refine G.q rfl rfl rfl rfl (q_field rfl rfl fo_112_1_F6) ?_
      refine G.ld ag_39_F6 ?_
      refine G.q rfl rfl rfl rfl (q_len_sl rfl rfl se_39_F6) ?_
      refine G.q rfl rfl rfl rfl (q_gtr rfl rfl rfl) ?_
      refine G.nil ?_
      refine EN.sub (sC 0 (sC 6 (sC 7 (sC 13 (sC 78 Sub.nil))))) ?_
      refine EN.then ?_
      refine CG.cond rfl (fun h78 => ?_) (fun h78 => ?_)
      ·
       rw [if_pos oM] at hE0
       refine CG.sr ?_
       refine G.as ?_
       refine G.nil ?_
       refine EN.then ?_
       refine CG.ret ?_
       refine EN.then_ret ?_
       first | refine EN.closeS (StP b rb _ most) _ tK ?_ | skip
       rw [← hE0]
       try dsimp only
       exact fin_ret1 rfl rfl tK sF (⟨rfl, rfl⟩) _ (.inl rfl)
      ·
       rw [if_neg oM] at hE0
       refine CG.closeS (StP b rb out most) _ tK ?_
       refine CG.skip ?_
       refine EN.ts ?_
       refine CG.sr ?_
       refine G.mv ?_
       refine G.mv ?_
       refine G.nil ?_
       refine EN.then ?_
       refine CG.block ?_
       refine CG.loopI (fun m L H => ∃ k : Nat, ∃ (o : List UInt8), k ≤ (Infl.lengthBase (s - 257)).1 + (r.bits (Infl.lengthBase (s - 257)).2).2.1 ∧ (o.length ≤ most ∧ (Infl.distBase (Huff.read ds (r.bits (Infl.lengthBase (s - 257)).2).1).2.1).1 + ((Huff.read ds (r.bits (Infl.lengthBase (s - 257)).2).1).1.bits (Infl.distBase (Huff.read ds (r.bits (Infl.lengthBase (s - 257)).2).1).2.1).2).2.1 ≤ o.length ∧ Infl.copyGo most ((Infl.distBase (Huff.read ds (r.bits (Infl.lengthBase (s - 257)).2).1).2.1).1 + ((Huff.read ds (r.bits (Infl.lengthBase (s - 257)).2).1).1.bits (Infl.distBase (Huff.read ds (r.bits (Infl.lengthBase (s - 257)).2).1).2.1).2).2.1) ((Infl.lengthBase (s - 257)).1 + (r.bits (Infl.lengthBase (s - 257)).2).2.1 - k) o = Infl.copyGo most ((Infl.distBase (Huff.read ds (r.bits (Infl.lengthBase (s - 257)).2).1).2.1).1 + ((Huff.read ds (r.bits (Infl.lengthBase (s - 257)).2).1).1.bits (Infl.distBase (Huff.read ds (r.bits (Infl.lengthBase (s - 257)).2).1).2.1).2).2.1) ((Infl.lengthBase (s - 257)).1 + (r.bits (Infl.lengthBase (s - 257)).2).2.1) out) ∧ m = ((Infl.lengthBase (s - 257)).1 + (r.bits (Infl.lengthBase (s - 257)).2).2.1) - k ∧ L = [(0, .pointer (some ⟨b, 0, none⟩)), (13, .int .i64 ((Infl.distBase (Huff.read ds (r.bits (Infl.lengthBase (s - 257)).2).1).2.1).1 + ((Huff.read ds (r.bits (Infl.lengthBase (s - 257)).2).1).1.bits (Infl.distBase (Huff.read ds (r.bits (Infl.lengthBase (s - 257)).2).1).2.1).2).2.1 : Nat)), (79, .int .i64 ((Infl.lengthBase (s - 257)).1 + (r.bits (Infl.lengthBase (s - 257)).2).2.1 : Nat)), (80, .int .i64 k)] ∧ H = [StAt b rb o most, TabAt bd ds, RdAt rb ((Huff.read ds (r.bits (Infl.lengthBase (s - 257)).2).1).1.bits (Infl.distBase (Huff.read ds (r.bits (Infl.lengthBase (s - 257)).2).1).2.1).2).1] ++ F) (((Infl.lengthBase (s - 257)).1 + (r.bits (Infl.lengthBase (s - 257)).2).2.1) - 0) (hl := [_, _, _]) (⟨0, out, Nat.zero_le _, ⟨ho, by omega, rfl⟩, rfl, rfl, rfl⟩) sB rfl tK sF ?_
       rintro m L H ⟨k, o, hk, ⟨hol, hob, hcp⟩, rfl, rfl, rfl⟩
       try dsimp only [List.cons_append, List.nil_append]
       refine CG.sr ?_
       refine G.q rfl rfl rfl rfl (q_lss rfl rfl rfl) ?_
       refine G.nil ?_
       refine EN.ts ?_
       refine CG.cond rfl (fun h81 => ?_) (fun h81 => ?_)
       ·
        rw [show (Infl.lengthBase (s - 257)).1 + (r.bits (Infl.lengthBase (s - 257)).2).2.1 - k = ((Infl.lengthBase (s - 257)).1 + (r.bits (Infl.lengthBase (s - 257)).2).2.1 - (k + 1)) + 1 by omega, Infl.copyGo] at hcp
        refine CG.skip ?_
        refine EN.ts ?_
        refine CG.block ?_
        refine CG.seq ?_
        refine CG.openS (StP b rb o most) tK1 (fun v => ?_)
        unfold StP
        dsimp only [List.cons_append, List.nil_append]
        refine CG.openOwn (v := v) tK1 oM (fun gv cv xv hv hcv hmv hlv htv => ?_)
        cases hv
        have e93 : (o.length : Int) - ((Infl.distBase (Huff.read ds (r.bits (Infl.lengthBase (s - 257)).2).1).2.1).1 + ((Huff.read ds (r.bits (Infl.lengthBase (s - 257)).2).1).1.bits (Infl.distBase (Huff.read ds (r.bits (Infl.lengthBase (s - 257)).2).1).2.1).2).2.1 : Nat) = ((o.length - ((Infl.distBase (Huff.read ds (r.bits (Infl.lengthBase (s - 257)).2).1).2.1).1 + ((Huff.read ds (r.bits (Infl.lengthBase (s - 257)).2).1).1.bits (Infl.distBase (Huff.read ds (r.bits (Infl.lengthBase (s - 257)).2).1).2.1).2).2.1) : Nat) : Int) := by omega
        refine CG.regT [] mixed (by kernel_rfl) ?_
        refine G.mv ?_
        refine G.mv ?_
        first | refine G.np ?_ | refine G.q rfl rfl rfl rfl (q_nil_f rfl rfl) ?_
        first | refine G.q rfl rfl rfl rfl (q_field0 rfl rfl fo_112_1_F6) ?_ | refine G.q rfl rfl rfl rfl (q_field rfl rfl fo_112_1_F6) ?_
        refine G.ld ag_39_F6 ?_
        refine G.mv ?_
        first | refine G.np ?_ | refine G.q rfl rfl rfl rfl (q_nil_f rfl rfl) ?_
        first | refine G.q rfl rfl rfl rfl (q_field0 rfl rfl fo_112_1_F6) ?_ | refine G.q rfl rfl rfl rfl (q_field rfl rfl fo_112_1_F6) ?_
        refine G.ld ag_39_F6 ?_
        refine G.q rfl rfl rfl rfl (q_len_sl rfl rfl se_39_F6) ?_
        refine G.mv ?_
        first | refine G.q rfl rfl rfl rfl (q_sub_i rfl rfl rfl oM) ?_ | refine G.q rfl rfl rfl rfl (q_sub rfl rfl rfl) ?_
        rw [e93]
        first | refine G.q rfl rfl rfl rfl (q_ixaddr1 rfl rfl rfl se_39_F6 sz_5_F6 oM) ?_ | refine G.q rfl rfl rfl rfl (q_ixaddr rfl rfl rfl se_39_F6 sz_5_F6 oM) ?_
        first | refine G.r rfl rfl rfl rfl (r_load rfl rfl ag_5_F6 .here (nth_take htv (get_u8 (getD_u8 oM)))) ?_ | refine G.r rfl rfl rfl rfl (r_load rfl rfl ag_5_F6 (.there .here) (nth_take htv (get_u8 (getD_u8 oM)))) ?_ | refine G.r rfl rfl rfl rfl (r_load rfl rfl ag_5_F6 (.there (.there .here)) (nth_take htv (get_u8 (getD_u8 oM)))) ?_ | refine G.r rfl rfl rfl rfl (r_load rfl rfl ag_5_F6 (.there (.there (.there .here))) (nth_take htv (get_u8 (getD_u8 oM)))) ?_ | refine G.r rfl rfl rfl rfl (r_load rfl rfl ag_5_F6 (.there (.there (.there (.there .here)))) (nth_take htv (get_u8 (getD_u8 oM)))) ?_
        refine G.closeOwn (g := gv) tK1 hcv hmv hlv htv ?_
        refine G.closeS (StP b rb o most) _ tK ?_
        refine G.call (xs := [_, _]) rfl rfl (put_spec b rb o most (o.getD (o.length - ((Infl.distBase (Huff.read ds (r.bits (Infl.lengthBase (s - 257)).2).1).2.1).1 + ((Huff.read ds (r.bits (Infl.lengthBase (s - 257)).2).1).1.bits (Infl.distBase (Huff.read ds (r.bits (Infl.lengthBase (s - 257)).2).1).2.1).2).2.1)) 0) oM oM) bd_81_F6 rfl rfl rfl rfl tK (fun _ _ _ _ _ _ => trivial) ?_
        rintro _ _ ⟨rfl, rfl⟩
        try dsimp only [List.cons_append, List.nil_append]
        refine G.as ?_
        refine G.nil ?_
        refine EN.sub (sC 0 (sC 13 (sC 14 (sC 79 (sC 80 Sub.nil))))) ?_
        refine EN.tsr ?_
        refine G.mv ?_
        refine G.q rfl rfl rfl rfl (q_neq rfl rfl rfl) ?_
        refine G.nil ?_
        refine EN.then ?_
        refine CG.cond rfl (fun h98 => ?_) (fun h98 => ?_)
        ·
         have hom : o.length = most := by
           rcases Nat.lt_or_ge o.length most with h1 | h1
           · rw [if_neg oM] at h98; exact absurd rfl h98
           · omega
         rw [if_pos hom] at hcp
         rw [← hcp] at hE0
         rw [if_pos hom, if_pos hom]
         refine CG.sr ?_
         refine G.mv ?_
         refine G.as ?_
         refine G.nil ?_
         refine EN.then ?_
         refine CG.ret ?_
         refine EN.in_ret ?_
         refine EN.then_ret ?_
         refine EN.then_ret ?_
         refine EN.in_ret ?_
         refine EN.then_ret ?_
         first | refine EN.closeS (StP b rb _ most) _ tK ?_ | skip
         rw [← hE0]
         try dsimp only
         exact fin_ret1 rfl rfl tK sF (⟨rfl, rfl⟩) _ (.inl rfl)
        ·
         have hom : ¬ o.length = most := by
           intro h1; rw [if_pos h1] at h98; exact h98 (by decide)
         rw [if_neg hom] at hcp
         rw [if_neg hom, if_neg hom]
         refine CG.skip ?_
         refine EN.in_normal ?_
         refine EN.tr ?_
         first | refine G.q rfl rfl rfl rfl (q_add_i rfl rfl rfl oM) ?_ | refine G.q rfl rfl rfl rfl (q_add rfl rfl rfl) ?_
         refine G.mv ?_
         refine G.nil ?_
         exact EN.round (hl := [_, _, _]) (((Infl.lengthBase (s - 257)).1 + (r.bits (Infl.lengthBase (s - 257)).2).2.1) - (k + 1)) oM (⟨k + 1, _, by omega, ⟨by simp; omega, by simp; omega, hcp⟩, rfl, rfl, rfl⟩) sB rfl tK sF
       ·
        rw [show (Infl.lengthBase (s - 257)).1 + (r.bits (Infl.lengthBase (s - 257)).2).2.1 - k = 0 by omega, Infl.copyGo] at hcp
        rw [← hcp] at hE0
        refine CG.exit ?_
        refine EN.then_exit ?_
        refine EN.then_exit ?_
        refine EN.in_here ?_
        refine EN.tsr ?_
        refine G.as ?_
        refine G.nil ?_
        refine EN.then ?_
        refine CG.ret ?_
        first | refine EN.closeS (StP b rb _ most) _ tK ?_ | skip
        rw [← hE0]
        try dsimp only
        exact fin_ret1 rfl rfl tK sF (⟨rfl, rfl⟩) _ (.inl rfl)

end Go.Eng
/-
  RFC 1951 read (inflate): tables of a block.
-/
set_option linter.unusedVariables false
set_option linter.unusedSimpArgs false
namespace Go.Eng
open Go.Proofs
theorem ae_139_F7 : arrE Tryd.prog 139 = some (19, 3) := by kernel_rfl
theorem ag_109_F7 : aggB Tryd.prog 109 = some false := by kernel_rfl
theorem ag_3_F7 : aggB Tryd.prog 3 = some false := by kernel_rfl
theorem bd_71_F7 : bodied Tryd.prog 71 = true := by kernel_rfl
theorem bd_77_F7 : bodied Tryd.prog 77 = true := by kernel_rfl
theorem bd_80_F7 : bodied Tryd.prog 80 = true := by kernel_rfl
theorem bd_90_F7 : bodied Tryd.prog 90 = true := by kernel_rfl
theorem bs_52_1_all_F7 : ∀ (x0 : Int) (w : World), (Instr.buildSlice 52 1 [(0, .int .i64 x0)].toArray).run Tryd.prog w = .ok (.slice (some ⟨w.heap.size, 0, none⟩) 1 1) { w with heap := w.heap.push (.cells [.int .i64 x0].toArray 3) } := fun _ _ => by kernel_rfl
theorem fo_112_0_F7 : fieldOff Tryd.prog 112 0 = some 0 := by kernel_rfl
theorem ik_3_F7 : intK Tryd.prog 3 = some .i64 := by kernel_rfl
theorem is_32_F7 : (Tryd.prog.underlying 32).isSome = true := by kernel_rfl
theorem nf_3_F7 : infoB Tryd.prog 3 = some (some [.int .i64 0], 1, 8) := by kernel_rfl
theorem se_52_F7 : sliceE Tryd.prog 52 = some 3 := by kernel_rfl
theorem sz_3_F7 : sizeB Tryd.prog 3 = some 1 := by kernel_rfl

theorem hnew_ok {n g off c U : Nat} {cs : List Value} {ls : List Nat} (hn : ls.length = n) (hls : ∀ x ∈ ls, x ≤ 15) (hlen : 0 < n ∧ n ≤ 320) (hsl : sliceL cs off n = ls.map iv) (hb : Huff.bad ls = false) :
    Spec Tryd.prog 71 #[.slice (some ⟨g, off, none⟩) n c] [cel g U cs] (Ret fun v hl => ∃ b, v = .tuple #[.pointer (some ⟨b, 0, none⟩), .int .i64 0] ∧ hl = [TabAt b ls, cel g U cs]) := by
  subst hn
  refine Spec.mono (hnew_spec g off c U cs ls hls hlen hsl) ?_
  rintro v hl (⟨h, _⟩ | ⟨_, h⟩)
  · rw [hb] at h; cases h
  · exact h
theorem hnew_bad {n g off c U : Nat} {cs : List Value} {ls : List Nat} (hn : ls.length = n) (hls : ∀ x ∈ ls, x ≤ 15) (hlen : 0 < n ∧ n ≤ 320) (hsl : sliceL cs off n = ls.map iv) (hb : Huff.bad ls = true) :
    Spec Tryd.prog 71 #[.slice (some ⟨g, off, none⟩) n c] [cel g U cs] (Ret fun v hl => v = .tuple #[.pointer none, .int .i64 4] ∧ hl = [cel g U cs]) := by
  subst hn
  refine Spec.mono (hnew_spec g off c U cs ls hls hlen hsl) ?_
  rintro v hl (⟨_, h⟩ | ⟨h, _⟩)
  · exact h
  · rw [hb] at h; cases h
theorem sliceL_all (xs : List Value) {n : Nat} (h : xs.length = n) : sliceL xs 0 n = xs := by subst h; simp [sliceL]
theorem sliceL_take {cur : List Value} {l : List Nat} {n : Nat} (h : cur.take (l.length * 1) = l.map iv) (hn : n ≤ l.length) : sliceL cur 0 n = (l.take n).map iv := by
  rw [List.map_take, ← h]; simp [sliceL, List.take_take, Nat.min_eq_left hn]
theorem sliceL_drop {cur : List Value} {l : List Nat} {n : Nat} (h : cur.take (l.length * 1) = l.map iv) : sliceL cur (0 + n * 1) (l.length - n) = (l.drop n).map iv := by
  rw [List.map_drop, ← h]; simp [sliceL, List.drop_take]
theorem own_rep {e : Nat} {u : Value} {l : List Nat} {j x : Nat} : own e 1 u ((l ++ List.replicate j x).length + 1) ((l ++ List.replicate j x).map iv ++ [.int .i64 (x : Int)]) = own e 1 u (l ++ List.replicate (j + 1) x).length ((l ++ List.replicate (j + 1) x).map iv) := by
  rw [own_snocI, List.append_assoc, ← List.replicate_succ']
attribute [local irreducible] cel own exS Huff.sorted Huff.cntC Huff.read RD.bits Infl.lensGo Infl.clGo Infl.repK

set_option maxRecDepth 100000 in
set_option maxHeartbeats 1000000 in
theorem tables_spec (b rb : Nat) (r : RD) (out : List UInt8) (most : Nat) (hr : r.Ok) : Spec Tryd.prog 79 #[.pointer (some ⟨b, 0, none⟩)] [StAt b rb out most, RdAt rb r] (Ret fun v hl => ((Infl.tables r).err ≠ 0 ∧ v = .tuple #[.pointer none, .pointer none, .int .i64 (Infl.tables r).err] ∧ hl = [StAt b rb out most, RdAt rb (Infl.tables r).r]) ∨ ((Infl.tables r).err = 0 ∧ ∃ bl bd, v = .tuple #[.pointer (some ⟨bl, 0, none⟩), .pointer (some ⟨bd, 0, none⟩), .int .i64 0] ∧ hl = [TabAt bl (Infl.tables r).lit, TabAt bd (Infl.tables r).dist, StAt b rb out most, RdAt rb (Infl.tables r).r])) := by
 obtain ⟨T, hT⟩ : ∃ T, Infl.tables r = T := ⟨_, rfl⟩
 have hE := hT
 unfold Infl.tables at hE
 dsimp only at hE
 rw [hT]
 have hx1 := RD.bits_ok hr (n := 14) oM
 have hx2 := RD.bits_lt r 14
 refine Spec.enter Tryd.func79 rfl rfl rfl (fun F w0 => ?_)
 dsimp only [argL, List.cons_append, List.nil_append]
 refine CG.seq ?_
 refine CG.openS (StP b rb out most) tK1 (fun v => ?_)
 unfold StP
 dsimp only [List.cons_append, List.nil_append]
 refine CG.reg ?_
 refine G.as ?_
 refine G.as ?_
 refine G.as ?_
 refine G.nil ?_
 refine EN.tsr ?_
 refine G.mv ?_
 first | refine G.np ?_ | refine G.q rfl rfl rfl rfl (q_nil_f rfl rfl) ?_
 first | refine G.q rfl rfl rfl rfl (q_field0 rfl rfl fo_112_0_F7) ?_ | refine G.q rfl rfl rfl rfl (q_field rfl rfl fo_112_0_F7) ?_
 refine G.ld ag_109_F7 ?_
 refine G.call (xs := [_, _]) rfl rfl (rbits_spec rb r 14 hr oM) bd_77_F7 rfl rfl rfl rfl tK (fun _ _ _ _ _ _ => trivial) ?_
 rintro _ _ ⟨rfl, rfl⟩
 try dsimp only [List.cons_append, List.nil_append]
 refine G.mv ?_
 refine G.q rfl rfl rfl rfl (q_extract rfl rfl rfl) ?_
 refine G.q rfl rfl rfl rfl (q_extract rfl rfl rfl) ?_
 refine G.as ?_
 refine G.as ?_
 refine G.nil ?_
 refine EN.ts ?_
 refine CG.sr ?_
 refine G.mv ?_
 refine G.q rfl rfl rfl rfl (q_not rfl rfl) ?_
 refine G.nil ?_
 refine EN.sub (sC 0 (sC 2 (sC 3 (sC 4 (sC 5 (sC 37 Sub.nil)))))) ?_
 refine EN.then ?_
 refine CG.condB rfl (fun h37 => ?_) (fun h37 => ?_)
 ·
  rw [if_pos (by simpa using h37)] at hE
  refine CG.sr ?_
  refine G.as ?_
  refine G.as ?_
  refine G.as ?_
  refine G.nil ?_
  refine EN.then ?_
  refine CG.ret ?_
  refine EN.then_ret ?_
  refine EN.closeS (StP b rb out most) _ tK ?_
  rw [← hE]
  try dsimp only
  exact fin_ret3 rfl rfl rfl rfl tK sF (.inl ⟨by decide, rfl, rfl⟩) _ (.inl rfl)
 ·
  rw [if_neg (by simpa using h37)] at hE
  obtain ⟨nl, hnl⟩ : ∃ n, (r.bits 14).2.1 % 32 + 257 = n := ⟨_, rfl⟩
  obtain ⟨nd, hnd⟩ : ∃ n, (r.bits 14).2.1 / 32 % 32 + 1 = n := ⟨_, rfl⟩
  obtain ⟨nc, hnc⟩ : ∃ n, (r.bits 14).2.1 / 1024 + 4 = n := ⟨_, rfl⟩
  rw [hnl, hnd, hnc] at hE
  have e7 : (((r.bits 14).2.1 : Nat) : Int) % 32 + 257 = nl := by omega
  have e8 : (((r.bits 14).2.1 : Nat) : Int) / 32 % 32 + 1 = nd := by omega
  have e9 : (((r.bits 14).2.1 : Nat) : Int) / 1024 + 4 = nc := by omega
  refine CG.skip ?_
  refine EN.tsr ?_
  refine G.mv ?_
  first | refine G.q rfl rfl rfl rfl (q_andm (j := 5) (d := 32) rfl rfl rfl lOm lOm (by decide) (by decide) (by decide)) ?_ | refine G.q rfl rfl rfl rfl (q_and rfl rfl rfl) ?_
  first | refine G.q rfl rfl rfl rfl (q_conv_in rfl rfl is_32_F7 ik_3_F7 (wrap64_in oM)) ?_ | refine G.q rfl rfl rfl rfl (q_conv rfl rfl is_32_F7 ik_3_F7) ?_
  first | refine G.q rfl rfl rfl rfl (q_add_i rfl rfl rfl oM) ?_ | refine G.q rfl rfl rfl rfl (q_add rfl rfl rfl) ?_
  refine G.mv ?_
  refine G.q rfl rfl rfl rfl (q_shrc (d := 32) rfl rfl rfl (by decide) (by decide)) ?_
  first | refine G.q rfl rfl rfl rfl (q_andm (j := 5) (d := 32) rfl rfl rfl lOm lOm (by decide) (by decide) (by decide)) ?_ | refine G.q rfl rfl rfl rfl (q_and rfl rfl rfl) ?_
  first | refine G.q rfl rfl rfl rfl (q_conv_in rfl rfl is_32_F7 ik_3_F7 (wrap64_in oM)) ?_ | refine G.q rfl rfl rfl rfl (q_conv rfl rfl is_32_F7 ik_3_F7) ?_
  first | refine G.q rfl rfl rfl rfl (q_add_i rfl rfl rfl oM) ?_ | refine G.q rfl rfl rfl rfl (q_add rfl rfl rfl) ?_
  refine G.mv ?_
  refine G.q rfl rfl rfl rfl (q_shrc (d := 1024) rfl rfl rfl (by decide) (by decide)) ?_
  first | refine G.q rfl rfl rfl rfl (q_conv_in rfl rfl is_32_F7 ik_3_F7 (wrap64_in oM)) ?_ | refine G.q rfl rfl rfl rfl (q_conv rfl rfl is_32_F7 ik_3_F7) ?_
  first | refine G.q rfl rfl rfl rfl (q_add_i rfl rfl rfl oM) ?_ | refine G.q rfl rfl rfl rfl (q_add rfl rfl rfl) ?_
  refine G.as ?_
  refine G.as ?_
  refine G.as ?_
  refine G.nil ?_
  refine EN.sub (sC 0 (sC 2 (sC 3 (sC 4 (sC 7 (sC 8 (sC 9 Sub.nil))))))) ?_
  refine EN.ts ?_
  refine CG.seq ?_
  rw [e7, e8, e9]
  refine CG.reg ?_
  refine G.mv ?_
  refine G.q rfl rfl rfl rfl (q_gtr rfl rfl rfl) ?_
  refine G.mv ?_
  refine G.split (t := 53) rfl (fun g53 => ?_) (fun g53 => ?_)
  ·
   rw [if_pos oM] at hE
   refine G.skip rfl rfl rfl ?_
   refine G.skip rfl rfl rfl ?_
   refine G.q rfl rfl rfl rfl (q_pick_t rfl rfl rfl) ?_
   refine G.nil ?_
   refine EN.then ?_
   refine CG.cond_t rfl ?_
   refine CG.sr ?_
   refine G.as ?_
   refine G.as ?_
   refine G.as ?_
   refine G.nil ?_
   refine EN.then ?_
   refine CG.ret ?_
   refine EN.then_ret ?_
   refine EN.closeS (StP b rb out most) _ tK ?_
   rw [← hE]
   try dsimp only
   exact fin_ret3 rfl rfl rfl rfl tK sF (.inl ⟨by decide, rfl, rfl⟩) _ (.inl rfl)
  ·
   refine G.mv ?_
   refine G.q rfl rfl rfl rfl (q_gtr rfl rfl rfl) ?_
   refine G.q rfl rfl rfl rfl (q_pick_f rfl rfl rfl) ?_
   refine G.nil ?_
   refine EN.then ?_
   refine CG.cond rfl (fun h56 => ?_) (fun h56 => ?_)
   ·
    rw [if_pos oM] at hE
    refine CG.sr ?_
    refine G.as ?_
    refine G.as ?_
    refine G.as ?_
    refine G.nil ?_
    refine EN.then ?_
    refine CG.ret ?_
    refine EN.then_ret ?_
    refine EN.closeS (StP b rb out most) _ tK ?_
    rw [← hE]
    try dsimp only
    exact fin_ret3 rfl rfl rfl rfl tK sF (.inl ⟨by decide, rfl, rfl⟩) _ (.inl rfl)
   ·
    rw [if_neg oM] at hE
    refine CG.skip ?_
    refine EN.tsr ?_
    refine G.e rfl rfl rfl rfl (e_makeSlice (n := 19) rfl rfl rfl se_52_F7 nf_3_F7 oM) (fun _ _ _ _ _ _ => trivial) ?_
    rintro _ _ ⟨b57, rfl, rfl⟩
    refine G.as ?_
    refine G.nil ?_
    refine EN.ts ?_
    refine CG.sr ?_
    refine G.mv ?_
    refine G.mv ?_
    refine G.nil ?_
    refine EN.then ?_
    refine CG.block ?_
    refine CG.loopI (fun m L H => ∃ k : Nat, ∃ (f : List Nat), ∃ (q : RD), k ≤ nc ∧ (q.Ok ∧ f.length = 19 ∧ (∀ x ∈ f, x ≤ 15) ∧ Infl.clGo ((Infl.order.take nc).drop k) q f = Infl.clGo (Infl.order.take nc) (r.bits 14).1 (List.replicate 19 0)) ∧ m = (nc) - k ∧ L = [(0, .pointer (some ⟨b, 0, none⟩)), (7, .int .i64 nl), (8, .int .i64 nd), (10, .slice (some ⟨b57, 0, none⟩) f.length 19), (58, .int .i64 nc), (59, .int .i64 k)] ∧ H = [cel b57 3 (f.map iv), cel b 112 [.pointer (some ⟨rb, 0, none⟩), v, .int .i64 most], own 5 1 v out.length (out.map u8v), RdAt rb q] ++ F) ((nc) - 0) (hl := [_, _, _, _]) (⟨0, List.replicate 19 0, (r.bits 14).1, Nat.zero_le _, ⟨hx1, rfl, by intro x hx; have := List.eq_of_mem_replicate hx; omega, rfl⟩, rfl, rfl, rfl⟩) sB rfl tK sF ?_
    rintro m L H ⟨k, f, q, hk, ⟨hq, hfl, hf15, hgo⟩, rfl, rfl, rfl⟩
    try dsimp only [List.cons_append, List.nil_append]
    refine CG.sr ?_
    refine G.q rfl rfl rfl rfl (q_lss rfl rfl rfl) ?_
    refine G.nil ?_
    refine EN.ts ?_
    refine CG.cond rfl (fun h60 => ?_) (fun h60 => ?_)
    ·
     obtain ⟨o, ho⟩ := get_some (l := Infl.order) (k := k) (by have : Infl.order.length = 19 := rfl; omega)
     have ho18 : o ≤ 18 := (by decide : ∀ x ∈ Infl.order, x ≤ 18) o (List.mem_of_getElem? ho)
     rw [drop_cons (o := o) (by rw [List.getElem?_take, if_pos oM]; exact ho), Infl.clGo] at hgo
     have hb3 := RD.bits_lt q 3
     have hq2 := RD.bits_ok hq (n := 3) oM
     have hfs : f.length = (f.set o (q.bits 3).2.1).length := by simp
     have hfl2 : (f.set o (q.bits 3).2.1).length = 19 := by simpa using hfl
     have hf2 : ∀ x ∈ f.set o (q.bits 3).2.1, x ≤ 15 := by
       intro x hx
       rcases List.mem_or_eq_of_mem_set hx with h1 | h1
       · exact hf15 x h1
       · omega
     refine CG.skip ?_
     refine EN.ts ?_
     refine CG.block ?_
     refine CG.sr ?_
     refine G.mv ?_
     refine G.as ?_
     refine G.nil ?_
     refine EN.tsr ?_
     refine G.mv ?_
     first | refine G.np ?_ | refine G.q rfl rfl rfl rfl (q_nil_f rfl rfl) ?_
     first | refine G.q rfl rfl rfl rfl (q_field0 rfl rfl fo_112_0_F7) ?_ | refine G.q rfl rfl rfl rfl (q_field rfl rfl fo_112_0_F7) ?_
     refine G.ld ag_109_F7 ?_
     refine G.call (xs := [_, _]) rfl rfl (rbits_spec rb q 3 hq oM) bd_77_F7 rfl rfl rfl rfl tK (fun _ _ _ _ _ _ => trivial) ?_
     rintro _ _ ⟨rfl, rfl⟩
     try dsimp only [List.cons_append, List.nil_append]
     refine G.mv ?_
     refine G.q rfl rfl rfl rfl (q_extract rfl rfl rfl) ?_
     refine G.q rfl rfl rfl rfl (q_extract rfl rfl rfl) ?_
     refine G.as ?_
     refine G.as ?_
     refine G.nil ?_
     refine EN.sub (sC 0 (sC 7 (sC 8 (sC 10 (sC 11 (sC 12 (sC 13 (sC 58 (sC 59 Sub.nil))))))))) ?_
     refine EN.ts ?_
     refine CG.sr ?_
     refine G.mv ?_
     refine G.q rfl rfl rfl rfl (q_not rfl rfl) ?_
     refine G.nil ?_
     refine EN.then ?_
     refine CG.condB rfl (fun h71 => ?_) (fun h71 => ?_)
     ·
      rw [if_pos (by simpa using h71)] at hgo
      rw [← hgo] at hE
      dsimp only at hE
      rw [if_pos rfl] at hE
      refine CG.sr ?_
      refine G.as ?_
      refine G.as ?_
      refine G.as ?_
      refine G.nil ?_
      refine EN.then ?_
      refine CG.ret ?_
      refine EN.then_ret ?_
      refine EN.in_ret ?_
      refine EN.then_ret ?_
      refine EN.then_ret ?_
      refine EN.in_ret ?_
      refine EN.then_ret ?_
      refine EN.closeS (StP b rb out most) _ tK ?_
      rw [← hE]
      try dsimp only
      exact fin_ret3 rfl rfl rfl rfl tK sF (.inl ⟨by decide, rfl, rfl⟩) _ (.inl rfl)
     ·
      rw [if_neg (by simpa using h71)] at hgo
      refine CG.skip ?_
      refine EN.tr ?_
      refine G.mv ?_
      refine G.call (xs := []) rfl rfl (order_spec) bd_90_F7 rfl rfl rfl rfl tK (fun _ _ _ _ _ _ => trivial) ?_
      rintro _ _ ⟨rfl, rfl⟩
      try dsimp only [List.cons_append, List.nil_append]
      refine G.mv ?_
      refine G.q rfl rfl rfl rfl (q_ixagg rfl rfl rfl ae_139_F7 sz_3_F7 ag_3_F7 oM (get_iv ho)) ?_
      refine G.mv ?_
      first | refine G.q rfl rfl rfl rfl (q_conv_in rfl rfl is_32_F7 ik_3_F7 (wrap64_in oM)) ?_ | refine G.q rfl rfl rfl rfl (q_conv rfl rfl is_32_F7 ik_3_F7) ?_
      first | refine G.q rfl rfl rfl rfl (q_ixaddr1 rfl rfl rfl se_52_F7 sz_3_F7 oM) ?_ | refine G.q rfl rfl rfl rfl (q_ixaddr rfl rfl rfl se_52_F7 sz_3_F7 oM) ?_
      first | refine G.e0 rfl rfl rfl (e_store rfl rfl rfl sz_3_F7 rfl (set_iv oM) .here) (fun _ _ _ _ _ _ => trivial) ?_ | refine G.e0 rfl rfl rfl (e_store rfl rfl rfl sz_3_F7 rfl (set_iv oM) (.there .here)) (fun _ _ _ _ _ _ => trivial) ?_ | refine G.e0 rfl rfl rfl (e_store rfl rfl rfl sz_3_F7 rfl (set_iv oM) (.there (.there .here))) (fun _ _ _ _ _ _ => trivial) ?_ | refine G.e0 rfl rfl rfl (e_store rfl rfl rfl sz_3_F7 rfl (set_iv oM) (.there (.there (.there .here)))) (fun _ _ _ _ _ _ => trivial) ?_ | refine G.e0 rfl rfl rfl (e_store rfl rfl rfl sz_3_F7 rfl (set_iv oM) (.there (.there (.there (.there .here))))) (fun _ _ _ _ _ _ => trivial) ?_
      rintro _ _ ⟨rfl, rfl⟩
      refine G.nil ?_
      refine EN.sub (sC 0 (sC 7 (sC 8 (sC 10 (sC 58 (sC 59 Sub.nil)))))) ?_
      refine EN.in_normal ?_
      refine EN.tr ?_
      first | refine G.q rfl rfl rfl rfl (q_add_i rfl rfl rfl oM) ?_ | refine G.q rfl rfl rfl rfl (q_add rfl rfl rfl) ?_
      refine G.mv ?_
      refine G.nil ?_
      rw [hfs]
      exact EN.round (hl := [_, _, _, _]) ((nc) - (k + 1)) oM (⟨k + 1, _, _, by omega, ⟨hq2, hfl2, hf2, hgo⟩, rfl, rfl, rfl⟩) sB rfl tK sF
    ·
     obtain rfl : k = nc := by omega
     rw [List.drop_eq_nil_of_le (by simp; omega), Infl.clGo] at hgo
     rw [← hgo] at hE
     dsimp only at hE
     rw [if_neg (by simp)] at hE
     rw [hfl]
     refine CG.exit ?_
     refine EN.then_exit ?_
     refine EN.then_exit ?_
     refine EN.in_here ?_
     refine EN.ts ?_
     cases hb1 : Huff.bad f
     ·
      rw [if_neg (by rw [hb1]; simp)] at hE
      refine CG.reg ?_
      refine G.mv ?_
      refine G.call (xs := [_]) rfl rfl (hnew_ok hfl hf15 oM (sliceL_all _ (by simpa using hfl)) hb1) bd_71_F7 rfl rfl rfl rfl tK (fun _ _ _ _ _ _ => trivial) ?_
      rintro _ _ ⟨bnhb1, rfl, rfl⟩
      try dsimp only [List.cons_append, List.nil_append]
      refine G.mv ?_
      refine G.q rfl rfl rfl rfl (q_extract rfl rfl rfl) ?_
      refine G.q rfl rfl rfl rfl (q_extract rfl rfl rfl) ?_
      refine G.as ?_
      refine G.as ?_
      refine G.nil ?_
      refine EN.sub (sC 0 (sC 7 (sC 8 (sC 14 (sC 15 Sub.nil))))) ?_
      refine EN.ts ?_
      refine CG.sr ?_
      refine G.mv ?_
      refine G.q rfl rfl rfl rfl (q_neq rfl rfl rfl) ?_
      refine G.nil ?_
      refine EN.then ?_
      refine CG.cond rfl (fun h86 => absurd h86 (by decide)) (fun h86 => ?_)
      refine CG.skip ?_
      refine EN.ts ?_
      obtain ⟨Z, hZ⟩ : ∃ Z, Infl.lensGo f (nl + nd) (nl + nd + 1) q [] = Z := ⟨_, rfl⟩
      rw [hZ] at hE
      refine CG.reg ?_
      refine G.as ?_
      refine G.nil ?_
      refine EN.ts ?_
      refine CG.block ?_
      have hqq := hq
      refine CG.ownNil 3 1 ?_
      refine CG.loopI (fun m L H => ∃ (q : RD) (l : List Nat) (u : Value), q.Ok ∧ (∀ x ∈ l, x ≤ 15) ∧ l.length ≤ nl + nd ∧ nl + nd < m + l.length ∧ Infl.lensGo f (nl + nd) m q l = Z ∧ L = [(0, .pointer (some ⟨b, 0, none⟩)), (7, .int .i64 nl), (8, .int .i64 nd), (14, .pointer (some ⟨bnhb1, 0, none⟩)), (16, u)] ∧ H = [TabAt bnhb1 f, own 3 1 u l.length (l.map iv), cel b 112 [.pointer (some ⟨rb, 0, none⟩), v, .int .i64 most], own 5 1 v out.length (out.map u8v), RdAt rb q] ++ F) (nl + nd + 1) (hl := [_, _, _, _, _]) (⟨_, [], .slice none 0 0, hqq, by simp, by simp, by simp, hZ, rfl, rfl⟩) sB rfl tK sF ?_
      rintro m L H ⟨q, l, u, hq, hl15, hll, hml, hgo, rfl, rfl⟩
      try dsimp only [List.cons_append, List.nil_append]
      refine CG.ownShape u tK1 (fun ad2 c4 h2 => ?_)
      subst h2
      obtain ⟨g, rfl⟩ : ∃ g, m = g + 1 := ⟨m - 1, by omega⟩
      rw [Infl.lensGo] at hgo
      refine CG.seq ?_
      refine CG.sr ?_
      refine G.mv ?_
      refine G.q rfl rfl rfl rfl (q_len_sl rfl rfl se_52_F7) ?_
      refine G.mv ?_
      refine G.mv ?_
      first | refine G.q rfl rfl rfl rfl (q_add_i rfl rfl rfl oM) ?_ | refine G.q rfl rfl rfl rfl (q_add rfl rfl rfl) ?_
      refine G.q rfl rfl rfl rfl (q_lss rfl rfl rfl) ?_
      refine G.nil ?_
      refine EN.then ?_
      refine CG.cond rfl (fun h92 => ?_) (fun h92 => ?_)
      ·
       rw [if_neg oM] at hgo
       have hs1 := (Huff.read_ok f hq).1
       obtain ⟨y, hy⟩ : ∃ y, Huff.read f q = y := ⟨_, rfl⟩
       rw [hy] at hgo hs1
       refine CG.skip ?_
       refine EN.then ?_
       refine CG.block ?_
       refine CG.sr ?_
       refine G.mv ?_
       refine G.mv ?_
       first | refine G.np ?_ | refine G.q rfl rfl rfl rfl (q_nil_f rfl rfl) ?_
       first | refine G.q rfl rfl rfl rfl (q_field0 rfl rfl fo_112_0_F7) ?_ | refine G.q rfl rfl rfl rfl (q_field rfl rfl fo_112_0_F7) ?_
       refine G.ld ag_109_F7 ?_
       refine G.call (xs := [_, _]) rfl rfl (hread_spec bnhb1 rb f q hq oM) bd_80_F7 rfl rfl rfl rfl tK (fun _ _ _ _ _ _ => trivial) ?_
       rintro _ _ ⟨rfl, rfl⟩
       try dsimp only [List.cons_append, List.nil_append]
       refine G.mv ?_
       refine G.q rfl rfl rfl rfl (q_extract rfl rfl rfl) ?_
       refine G.q rfl rfl rfl rfl (q_extract rfl rfl rfl) ?_
       refine G.as ?_
       refine G.as ?_
       refine G.nil ?_
       refine EN.sub (sC 0 (sC 7 (sC 8 (sC 14 (sC 16 (sC 17 (sC 18 Sub.nil))))))) ?_
       refine EN.ts ?_
       refine CG.seq ?_
       rw [hy]
       refine CG.reg ?_
       refine G.mv ?_
       refine G.q rfl rfl rfl rfl (q_neq rfl rfl rfl) ?_
       refine G.nil ?_
       refine EN.then ?_
       refine CG.cond rfl (fun h103 => ?_) (fun h103 => ?_)
       ·
        rw [if_pos oM] at hgo
        rw [← hgo] at hE
        dsimp only at hE
        rw [if_pos oM] at hE
        refine CG.sr ?_
        refine G.mv ?_
        refine G.as ?_
        refine G.as ?_
        refine G.as ?_
        refine G.nil ?_
        refine EN.then ?_
        refine CG.ret ?_
        refine EN.then_ret ?_
        refine EN.in_ret ?_
        refine EN.then_ret ?_
        refine EN.in_ret ?_
        refine EN.then_ret ?_
        refine EN.closeS (StP b rb out most) _ tK ?_
        rw [← hE]
        try dsimp only
        exact fin_ret3 rfl rfl rfl rfl tK sF (.inl ⟨by omega, rfl, rfl⟩) _ (.inl rfl)
       ·
        rw [if_neg oM] at hgo
        refine CG.skip ?_
        refine EN.ts ?_
        refine CG.sr ?_
        refine G.mv ?_
        refine G.q rfl rfl rfl rfl (q_lss rfl rfl rfl) ?_
        refine G.nil ?_
        refine EN.then ?_
        refine CG.cond rfl (fun h106 => ?_) (fun h106 => ?_)
        ·
         rw [if_pos oM] at hgo
         have hq2 := hs1
         have hl2 : ∀ x ∈ l ++ [y.2.1], x ≤ 15 := by
           intro x hx
           rcases List.mem_append.1 hx with h1 | h1
           · exact hl15 x h1
           · have := List.mem_singleton.1 h1; omega
         have hll2 : (l ++ [y.2.1]).length ≤ nl + nd := by simp; omega
         have hml2 : nl + nd < g + (l ++ [y.2.1]).length := by simp; omega
         refine CG.sr ?_
         refine G.mv ?_
         refine G.mv ?_
         refine G.e rfl rfl rfl rfl (e_bslice rfl rfl (bs_52_1_all_F7 _)) (fun _ _ _ _ _ _ => trivial) ?_
         rintro _ _ ⟨b109, rfl, rfl⟩
         refine G.e rfl rfl rfl rfl (e_append rfl rfl rfl se_52_F7 nf_3_F7 rfl tK1 mB (by rfl) (by simp [Value.oneCell', str]) oM) (fun _ _ _ _ _ _ => trivial) ?_
         rintro _ _ rfl
         rw [own_snocI]
         refine G.ownShape tK1 ?_
         rintro ad3 c5 rfl
         refine G.as ?_
         refine G.nil ?_
         refine EN.sub (sC 0 (sC 7 (sC 8 (sC 14 (sC 16 (sC 17 Sub.nil)))))) ?_
         refine EN.then ?_
         refine CG.exit ?_
         refine EN.then_exit ?_
         refine EN.in_here ?_
         exact EN.round (hl := [_, _, _, _, _]) (g) oM (⟨_, _, _, hq2, hl2, hll2, hml2, hgo, rfl, rfl⟩) sB rfl tK sF
        ·
         rw [if_neg oM] at hgo
         refine CG.skip ?_
         refine EN.tsr ?_
         refine G.as ?_
         refine G.as ?_
         refine G.as ?_
         refine G.nil ?_
         refine EN.then ?_
         refine CG.cut (fun L H => ∃ (u : Value) (bts least what : Nat), bts ≤ 32 ∧ bts ≤ 7 ∧ 3 ≤ least ∧ least ≤ 11 ∧ what ≤ 15 ∧ Infl.repK (nl + nd) (Infl.lensGo f (nl + nd) g) y.1 l bts least what = Z ∧ L = [(0, .pointer (some ⟨b, 0, none⟩)), (7, .int .i64 nl), (8, .int .i64 nd), (14, .pointer (some ⟨bnhb1, 0, none⟩)), (16, u), (19, .int .i64 bts), (20, .int .i64 least), (21, .int .i64 what)] ∧ H = [TabAt bnhb1 f, own 3 1 u l.length (l.map iv), cel b 112 [.pointer (some ⟨rb, 0, none⟩), v, .int .i64 most], own 5 1 v out.length (out.map u8v), RdAt rb y.1] ++ F) ?_ ?_
         ·
          refine CG.sr ?_
          refine G.mv ?_
          refine G.nil ?_
          refine EN.then ?_
          refine CG.block ?_
          refine CG.sr ?_
          refine G.q rfl rfl rfl rfl (q_eql rfl rfl rfl) ?_
          refine G.as ?_
          refine G.nil ?_
          refine EN.then ?_
          refine CG.cond rfl (fun h112 => ?_) (fun h112 => ?_)
          ·
           rw [if_pos oM] at hgo
           refine CG.seq ?_
           refine CG.sr ?_
           refine G.mv ?_
           refine G.q rfl rfl rfl rfl (q_len_sl rfl rfl se_52_F7) ?_
           refine G.q rfl rfl rfl rfl (q_eql rfl rfl rfl) ?_
           refine G.nil ?_
           refine EN.sub (sC 0 (sC 7 (sC 8 (sC 14 (sC 16 (sC 19 (sC 20 (sC 21 (sC 116 Sub.nil))))))))) ?_
           refine EN.then ?_
           refine CG.cond rfl (fun h116 => ?_) (fun h116 => ?_)
           ·
            rw [if_pos oM] at hgo
            rw [← hgo] at hE
            dsimp only at hE
            rw [if_pos (by decide)] at hE
            refine CG.sr ?_
            refine G.as ?_
            refine G.as ?_
            refine G.as ?_
            refine G.nil ?_
            refine EN.then ?_
            refine CG.ret ?_
            refine EN.then_ret ?_
            refine EN.in_ret ?_
            refine EN.then_ret ?_
            refine EN.in_ret ?_
            refine EN.then_ret ?_
            refine EN.in_ret ?_
            refine EN.then_ret ?_
            refine EN.closeS (StP b rb out most) _ tK ?_
            rw [← hE]
            try dsimp only
            exact fin_ret3 rfl rfl rfl rfl tK sF (.inl ⟨by decide, rfl, rfl⟩) _ (.inl rfl)
           ·
            rw [if_neg oM] at hgo
            have hwl : l.getD (l.length - 1) 0 ≤ 15 := hl15 _ (List.mem_of_getElem? (getD_iv oM))
            have e120 : (l.length : Int) - 1 = (l.length - 1 : Nat) := by omega
            refine CG.openOwn (v := .slice ad2 l.length c4) tK1 oM (fun gv cv xv hv hcv hmv hlv htv => ?_)
            cases hv
            have hp1 : 2 ≤ 32 := by omega
            have hp2 : 2 ≤ 7 := by omega
            have hp3 : 3 ≤ 3 := by omega
            have hp4 : 3 ≤ 11 := by omega
            have hp5 : l.getD (l.length - 1) 0 ≤ 15 := by first | omega | exact hwl
            refine CG.skip ?_
            refine EN.tr ?_
            refine G.mv ?_
            refine G.mv ?_
            refine G.q rfl rfl rfl rfl (q_len_sl rfl rfl se_52_F7) ?_
            first | refine G.q rfl rfl rfl rfl (q_sub_i rfl rfl rfl oM) ?_ | refine G.q rfl rfl rfl rfl (q_sub rfl rfl rfl) ?_
            rw [e120]
            first | refine G.q rfl rfl rfl rfl (q_ixaddr1 rfl rfl rfl se_52_F7 sz_3_F7 oM) ?_ | refine G.q rfl rfl rfl rfl (q_ixaddr rfl rfl rfl se_52_F7 sz_3_F7 oM) ?_
            first | refine G.r rfl rfl rfl rfl (r_load rfl rfl ag_3_F7 .here (nth_take htv (get_iv (getD_iv oM)))) ?_ | refine G.r rfl rfl rfl rfl (r_load rfl rfl ag_3_F7 (.there .here) (nth_take htv (get_iv (getD_iv oM)))) ?_ | refine G.r rfl rfl rfl rfl (r_load rfl rfl ag_3_F7 (.there (.there .here)) (nth_take htv (get_iv (getD_iv oM)))) ?_ | refine G.r rfl rfl rfl rfl (r_load rfl rfl ag_3_F7 (.there (.there (.there .here))) (nth_take htv (get_iv (getD_iv oM)))) ?_ | refine G.r rfl rfl rfl rfl (r_load rfl rfl ag_3_F7 (.there (.there (.there (.there .here)))) (nth_take htv (get_iv (getD_iv oM)))) ?_
            refine G.as ?_
            refine G.nil ?_
            refine EN.in_normal ?_
            first | refine EN.closeOwn (g := gv) tK1 hcv hmv hlv htv ?_ | skip
            exact EN.cut (hl := [_, _, _, _, _]) (⟨_, _, _, _, hp1, hp2, hp3, hp4, hp5, hgo, rfl, rfl⟩) sB rfl tK sF
          ·
           rw [if_neg oM] at hgo
           refine CG.sr ?_
           refine G.q rfl rfl rfl rfl (q_eql rfl rfl rfl) ?_
           refine G.as ?_
           refine G.nil ?_
           refine EN.sub (sC 0 (sC 7 (sC 8 (sC 14 (sC 16 (sC 19 (sC 20 (sC 21 (sC 123 Sub.nil))))))))) ?_
           refine EN.then ?_
           refine CG.cond rfl (fun h123 => ?_) (fun h123 => ?_)
           ·
            rw [if_pos oM] at hgo
            have hp1 : 3 ≤ 32 := by omega
            have hp2 : 3 ≤ 7 := by omega
            have hp3 : 3 ≤ 3 := by omega
            have hp4 : 3 ≤ 11 := by omega
            have hp5 : 0 ≤ 15 := by first | omega | exact hwl
            refine CG.reg ?_
            refine G.as ?_
            refine G.nil ?_
            refine EN.in_normal ?_
            first | refine EN.closeOwn (g := gv) tK1 hcv hmv hlv htv ?_ | skip
            exact EN.cut (hl := [_, _, _, _, _]) (⟨_, _, _, _, hp1, hp2, hp3, hp4, hp5, hgo, rfl, rfl⟩) sB rfl tK sF
           ·
            rw [if_neg oM] at hgo
            have hp1 : 7 ≤ 32 := by omega
            have hp2 : 7 ≤ 7 := by omega
            have hp3 : 3 ≤ 11 := by omega
            have hp4 : 11 ≤ 11 := by omega
            have hp5 : 0 ≤ 15 := by first | omega | exact hwl
            refine CG.reg ?_
            refine G.as ?_
            refine G.as ?_
            refine G.nil ?_
            refine EN.in_normal ?_
            first | refine EN.closeOwn (g := gv) tK1 hcv hmv hlv htv ?_ | skip
            exact EN.cut (hl := [_, _, _, _, _]) (⟨_, _, _, _, hp1, hp2, hp3, hp4, hp5, hgo, rfl, rfl⟩) sB rfl tK sF
         ·
          rintro L H ⟨u, bts, least, what, hbts, hbts7, hle3, hle11, hw15, hgo, rfl, rfl⟩
          try dsimp only [List.cons_append, List.nil_append]
          refine CG.ownShape u tK1 (fun ad3 c5 h2 => ?_)
          subst h2
          unfold Infl.repK at hgo
          have hz1 := RD.bits_lt y.1 bts
          have hz2 := Infl.two_pow_le hbts7
          have hz3 := RD.bits_ok hs1 hbts
          refine CG.sr ?_
          refine G.mv ?_
          first | refine G.np ?_ | refine G.q rfl rfl rfl rfl (q_nil_f rfl rfl) ?_
          first | refine G.q rfl rfl rfl rfl (q_field0 rfl rfl fo_112_0_F7) ?_ | refine G.q rfl rfl rfl rfl (q_field rfl rfl fo_112_0_F7) ?_
          refine G.ld ag_109_F7 ?_
          refine G.mv ?_
          refine G.call (xs := [_, _]) rfl rfl (rbits_spec rb y.1 bts hs1 hbts) bd_77_F7 rfl rfl rfl rfl tK (fun _ _ _ _ _ _ => trivial) ?_
          rintro _ _ ⟨rfl, rfl⟩
          try dsimp only [List.cons_append, List.nil_append]
          refine G.mv ?_
          refine G.q rfl rfl rfl rfl (q_extract rfl rfl rfl) ?_
          refine G.q rfl rfl rfl rfl (q_extract rfl rfl rfl) ?_
          refine G.as ?_
          refine G.as ?_
          refine G.nil ?_
          refine EN.sub (sC 0 (sC 7 (sC 8 (sC 14 (sC 16 (sC 20 (sC 21 (sC 22 (sC 23 Sub.nil))))))))) ?_
          refine EN.ts ?_
          refine CG.sr ?_
          refine G.mv ?_
          refine G.q rfl rfl rfl rfl (q_not rfl rfl) ?_
          refine G.nil ?_
          refine EN.then ?_
          refine CG.condB rfl (fun h135 => ?_) (fun h135 => ?_)
          ·
           rw [if_pos (by simpa using h135)] at hgo
           rw [← hgo] at hE
           dsimp only at hE
           rw [if_pos (by decide)] at hE
           refine CG.sr ?_
           refine G.as ?_
           refine G.as ?_
           refine G.as ?_
           refine G.nil ?_
           refine EN.then ?_
           refine CG.ret ?_
           refine EN.then_ret ?_
           refine EN.in_ret ?_
           refine EN.then_ret ?_
           refine EN.in_ret ?_
           refine EN.then_ret ?_
           refine EN.closeS (StP b rb out most) _ tK ?_
           rw [← hE]
           try dsimp only
           exact fin_ret3 rfl rfl rfl rfl tK sF (.inl ⟨by decide, rfl, rfl⟩) _ (.inl rfl)
          ·
           rw [if_neg (by simpa using h135)] at hgo
           refine CG.skip ?_
           refine EN.ts ?_
           refine CG.sr ?_
           refine G.mv ?_
           refine G.q rfl rfl rfl rfl (q_len_sl rfl rfl se_52_F7) ?_
           refine G.mv ?_
           first | refine G.q rfl rfl rfl rfl (q_add_i rfl rfl rfl oM) ?_ | refine G.q rfl rfl rfl rfl (q_add rfl rfl rfl) ?_
           refine G.mv ?_
           first | refine G.q rfl rfl rfl rfl (q_conv_in rfl rfl is_32_F7 ik_3_F7 (wrap64_in oM)) ?_ | refine G.q rfl rfl rfl rfl (q_conv rfl rfl is_32_F7 ik_3_F7) ?_
           first | refine G.q rfl rfl rfl rfl (q_add_i rfl rfl rfl oM) ?_ | refine G.q rfl rfl rfl rfl (q_add rfl rfl rfl) ?_
           refine G.mv ?_
           refine G.mv ?_
           first | refine G.q rfl rfl rfl rfl (q_add_i rfl rfl rfl oM) ?_ | refine G.q rfl rfl rfl rfl (q_add rfl rfl rfl) ?_
           refine G.q rfl rfl rfl rfl (q_gtr rfl rfl rfl) ?_
           refine G.nil ?_
           refine EN.sub (sC 0 (sC 7 (sC 8 (sC 14 (sC 16 (sC 20 (sC 21 (sC 22 (sC 146 Sub.nil))))))))) ?_
           refine EN.then ?_
           refine CG.cond rfl (fun h146 => ?_) (fun h146 => ?_)
           ·
            rw [if_pos oM] at hgo
            rw [← hgo] at hE
            dsimp only at hE
            rw [if_pos (by decide)] at hE
            refine CG.sr ?_
            refine G.as ?_
            refine G.as ?_
            refine G.as ?_
            refine G.nil ?_
            refine EN.then ?_
            refine CG.ret ?_
            refine EN.then_ret ?_
            refine EN.in_ret ?_
            refine EN.then_ret ?_
            refine EN.in_ret ?_
            refine EN.then_ret ?_
            refine EN.closeS (StP b rb out most) _ tK ?_
            rw [← hE]
            try dsimp only
            exact fin_ret3 rfl rfl rfl rfl tK sF (.inl ⟨by decide, rfl, rfl⟩) _ (.inl rfl)
           ·
            rw [if_neg oM] at hgo
            have e150 : (least : Int) + ((y.1.bits bts).2.1 : Nat) = (least + (y.1.bits bts).2.1 : Nat) := by omega
            refine CG.skip ?_
            refine EN.tsr ?_
            refine G.mv ?_
            refine G.mv ?_
            first | refine G.q rfl rfl rfl rfl (q_conv_in rfl rfl is_32_F7 ik_3_F7 (wrap64_in oM)) ?_ | refine G.q rfl rfl rfl rfl (q_conv rfl rfl is_32_F7 ik_3_F7) ?_
            first | refine G.q rfl rfl rfl rfl (q_add_i rfl rfl rfl oM) ?_ | refine G.q rfl rfl rfl rfl (q_add rfl rfl rfl) ?_
            refine G.mv ?_
            refine G.nil ?_
            refine EN.then ?_
            refine CG.block ?_
            rw [e150, ← List.append_nil l]
            refine CG.loopI (fun m L H => ∃ (j : Nat) (u : Value), j ≤ least + (y.1.bits bts).2.1 ∧ m = least + (y.1.bits bts).2.1 - j ∧ L = [(0, .pointer (some ⟨b, 0, none⟩)), (7, .int .i64 nl), (8, .int .i64 nd), (14, .pointer (some ⟨bnhb1, 0, none⟩)), (16, u), (21, .int .i64 what), (150, .int .i64 (least + (y.1.bits bts).2.1 : Nat)), (151, .int .i64 j)] ∧ H = [TabAt bnhb1 f, own 3 1 u (l ++ List.replicate j what).length ((l ++ List.replicate j what).map iv), cel b 112 [.pointer (some ⟨rb, 0, none⟩), v, .int .i64 most], own 5 1 v out.length (out.map u8v), RdAt rb (y.1.bits bts).1] ++ F) (least + (y.1.bits bts).2.1) (hl := [_, _, _, _, _]) (⟨0, _, Nat.zero_le _, rfl, rfl, rfl⟩) sB rfl tK sF ?_
            rintro m L H ⟨j, u, hj, rfl, rfl, rfl⟩
            try dsimp only [List.cons_append, List.nil_append]
            refine CG.sr ?_
            refine G.q rfl rfl rfl rfl (q_lss rfl rfl rfl) ?_
            refine G.nil ?_
            refine EN.ts ?_
            refine CG.cond rfl (fun h152 => ?_) (fun h152 => ?_)
            ·
             have hj2 : j < least + (y.1.bits bts).2.1 := by omega
             refine CG.skip ?_
             refine EN.ts ?_
             refine CG.block ?_
             refine CG.reg ?_
             refine G.mv ?_
             refine G.mv ?_
             refine G.e rfl rfl rfl rfl (e_bslice rfl rfl (bs_52_1_all_F7 _)) (fun _ _ _ _ _ _ => trivial) ?_
             rintro _ _ ⟨b155, rfl, rfl⟩
             refine G.e rfl rfl rfl rfl (e_append rfl rfl rfl se_52_F7 nf_3_F7 rfl tK1 mB (by rfl) (by simp [Value.oneCell', str]) (by simp; omega)) (fun _ _ _ _ _ _ => trivial) ?_
             rintro _ _ rfl
             rw [own_rep]
             refine G.ownShape tK1 ?_
             rintro ad6 c6 rfl
             refine G.as ?_
             refine G.nil ?_
             refine EN.in_normal ?_
             refine EN.tr ?_
             first | refine G.q rfl rfl rfl rfl (q_add_i rfl rfl rfl oM) ?_ | refine G.q rfl rfl rfl rfl (q_add rfl rfl rfl) ?_
             refine G.mv ?_
             refine G.nil ?_
             exact EN.round (hl := [_, _, _, _, _]) (least + (y.1.bits bts).2.1 - (j + 1)) oM (⟨j + 1, _, by omega, rfl, rfl, rfl⟩) sB rfl tK sF
            ·
             obtain rfl : j = least + (y.1.bits bts).2.1 := by omega
             have hq2 := hz3
             have hl2 : ∀ x ∈ l ++ List.replicate (least + (y.1.bits bts).2.1) what, x ≤ 15 := by
               intro x hx
               rcases List.mem_append.1 hx with h1 | h1
               · exact hl15 x h1
               · have := List.eq_of_mem_replicate h1; omega
             have hll2 : (l ++ List.replicate (least + (y.1.bits bts).2.1) what).length ≤ nl + nd := by simp; omega
             have hml2 : nl + nd < g + (l ++ List.replicate (least + (y.1.bits bts).2.1) what).length := by simp; omega
             refine CG.exit ?_
             refine EN.then_exit ?_
             refine EN.then_exit ?_
             refine EN.in_here ?_
             refine EN.in_normal ?_
             exact EN.round (hl := [_, _, _, _, _]) (g) oM (⟨_, _, _, hq2, hl2, hll2, hml2, hgo, rfl, rfl⟩) sB rfl tK sF
      ·
       rw [if_pos oM] at hgo
       have hlt : l.length = nl + nd := by omega
       rw [← hgo] at hE
       dsimp only at hE
       rw [if_neg (by simp)] at hE
       refine CG.openOwn (v := .slice ad2 l.length c4) tK1 oM (fun gv cv xv hv hcv hmv hlv htv => ?_)
       cases hv
       have h256 : 256 < l.length := by omega
       obtain ⟨x256, hv256⟩ : ∃ x, l.getD 256 0 = x := ⟨_, rfl⟩
       rw [hv256] at hE
       have hx256 : l[256]? = some x256 := by rw [← hv256]; exact getD_iv h256
       have hla : ∀ x ∈ l.take nl, x ≤ 15 := fun x hx => hl15 x (List.mem_of_mem_take hx)
       have hlb : ∀ x ∈ l.drop nl, x ≤ 15 := fun x hx => hl15 x (List.mem_of_mem_drop hx)
       have hna : (l.take nl).length = nl := by simp; omega
       have hnb : (l.drop nl).length = l.length - nl := by simp
       refine CG.exit ?_
       refine EN.then_exit ?_
       refine EN.then_exit ?_
       refine EN.in_here ?_
       refine EN.ts ?_
       cases hb2 : Huff.bad (l.take nl)
       ·
        refine CG.reg ?_
        refine G.mv ?_
        refine G.mv ?_
        refine G.q rfl rfl rfl rfl (q_slsl_hi rfl rfl rfl se_52_F7 sz_3_F7 oM) ?_
        refine G.call (xs := [_]) rfl rfl (hnew_ok hna hla oM (sliceL_take htv oM) hb2) bd_71_F7 rfl rfl rfl rfl tK (fun _ _ _ _ _ _ => trivial) ?_
        rintro _ _ ⟨bnhb2, rfl, rfl⟩
        try dsimp only [List.cons_append, List.nil_append]
        refine G.mv ?_
        refine G.q rfl rfl rfl rfl (q_extract rfl rfl rfl) ?_
        refine G.q rfl rfl rfl rfl (q_extract rfl rfl rfl) ?_
        refine G.as ?_
        refine G.as ?_
        refine G.nil ?_
        refine EN.sub (sC 7 (sC 16 (sC 24 (sC 25 Sub.nil)))) ?_
        refine EN.ts ?_
        cases hb3 : Huff.bad (l.drop nl)
        ·
         refine CG.reg ?_
         refine G.mv ?_
         refine G.mv ?_
         refine G.q rfl rfl rfl rfl (q_slsl_lo rfl rfl rfl se_52_F7 sz_3_F7 oM) ?_
         refine G.call (xs := [_]) rfl rfl (hnew_ok hnb hlb oM (sliceL_drop htv) hb3) bd_71_F7 rfl rfl rfl rfl tK (fun _ _ _ _ _ _ => trivial) ?_
         rintro _ _ ⟨bnhb3, rfl, rfl⟩
         try dsimp only [List.cons_append, List.nil_append]
         refine G.mv ?_
         refine G.q rfl rfl rfl rfl (q_extract rfl rfl rfl) ?_
         refine G.q rfl rfl rfl rfl (q_extract rfl rfl rfl) ?_
         refine G.as ?_
         refine G.as ?_
         refine G.nil ?_
         refine EN.ts ?_
         refine CG.sr ?_
         refine G.mv ?_
         first | refine G.q rfl rfl rfl rfl (q_ixaddr1 rfl rfl rfl se_52_F7 sz_3_F7 (h256)) ?_ | refine G.q rfl rfl rfl rfl (q_ixaddr rfl rfl rfl se_52_F7 sz_3_F7 (h256)) ?_
         first | refine G.r rfl rfl rfl rfl (r_load rfl rfl ag_3_F7 .here (nth_take htv (get_iv hx256))) ?_ | refine G.r rfl rfl rfl rfl (r_load rfl rfl ag_3_F7 (.there .here) (nth_take htv (get_iv hx256))) ?_ | refine G.r rfl rfl rfl rfl (r_load rfl rfl ag_3_F7 (.there (.there .here)) (nth_take htv (get_iv hx256))) ?_ | refine G.r rfl rfl rfl rfl (r_load rfl rfl ag_3_F7 (.there (.there (.there .here))) (nth_take htv (get_iv hx256))) ?_ | refine G.r rfl rfl rfl rfl (r_load rfl rfl ag_3_F7 (.there (.there (.there (.there .here)))) (nth_take htv (get_iv hx256))) ?_
         refine G.q rfl rfl rfl rfl (q_eql rfl rfl rfl) ?_
         refine G.mv ?_
         refine G.split (t := 176) rfl (fun g176 => ?_) (fun g176 => ?_)
         ·
          refine G.skip rfl rfl rfl ?_
          refine G.skip rfl rfl rfl ?_
          refine G.q rfl rfl rfl rfl (q_pick_t rfl rfl rfl) ?_
          refine G.mv ?_
          refine G.skip rfl rfl rfl ?_
          refine G.skip rfl rfl rfl ?_
          refine G.q rfl rfl rfl rfl (q_pick_t rfl rfl rfl) ?_
          refine G.nil ?_
          refine EN.sub (sC 24 (sC 26 (sC 183 Sub.nil))) ?_
          refine EN.then ?_
          refine CG.cond_t rfl ?_
          refine CG.seq ?_
          first | rw [if_pos (.inl oM)] at hE | rw [if_pos (.inr (.inr hb3))] at hE | skip
          refine CG.reg ?_
          refine G.as ?_
          refine G.as ?_
          refine G.as ?_
          refine G.nil ?_
          refine EN.then ?_
          refine CG.ret ?_
          refine EN.then_ret ?_
          refine EN.closeS (StP b rb out most) _ tK ?_
          rw [← hE]
          try dsimp only
          exact fin_ret3 rfl rfl rfl rfl tK sF (.inl ⟨by decide, rfl, rfl⟩) _ (.inl rfl)
         ·
          refine G.mv ?_
          refine G.q rfl rfl rfl rfl (q_neq rfl rfl rfl) ?_
          refine G.q rfl rfl rfl rfl (q_pick_f rfl rfl rfl) ?_
          refine G.mv ?_
          refine G.split (t := 180) rfl (fun g180 => absurd g180 (by decide)) (fun g180 => ?_)
          refine G.mv ?_
          refine G.q rfl rfl rfl rfl (q_neq rfl rfl rfl) ?_
          refine G.q rfl rfl rfl rfl (q_pick_f rfl rfl rfl) ?_
          refine G.nil ?_
          refine EN.sub (sC 24 (sC 26 (sC 183 Sub.nil))) ?_
          refine EN.then ?_
          refine CG.cond rfl (fun h183 => absurd h183 (by decide)) (fun h183 => ?_)
          refine CG.skip ?_
          refine EN.ts ?_
          rw [if_neg (by rintro (h | h | h) <;> first | omega | (rw [hb2] at h; cases h) | (rw [hb3] at h; cases h))] at hE
          refine CG.reg ?_
          refine G.mv ?_
          refine G.mv ?_
          refine G.as ?_
          refine G.as ?_
          refine G.as ?_
          refine G.nil ?_
          refine EN.then ?_
          refine CG.ret ?_
          refine EN.closeS (StP b rb out most) _ tK ?_
          rw [← hE]
          try dsimp only
          exact fin_ret3 rfl rfl rfl rfl tK sF (.inr ⟨rfl, bnhb2, bnhb3, rfl, rfl⟩) _ (.inl rfl)
        ·
         refine CG.reg ?_
         refine G.mv ?_
         refine G.mv ?_
         refine G.q rfl rfl rfl rfl (q_slsl_lo rfl rfl rfl se_52_F7 sz_3_F7 oM) ?_
         refine G.call (xs := [_]) rfl rfl (hnew_bad hnb hlb oM (sliceL_drop htv) hb3) bd_71_F7 rfl rfl rfl rfl tK (fun _ _ _ _ _ _ => trivial) ?_
         rintro _ _ ⟨rfl, rfl⟩
         try dsimp only [List.cons_append, List.nil_append]
         refine G.mv ?_
         refine G.q rfl rfl rfl rfl (q_extract rfl rfl rfl) ?_
         refine G.q rfl rfl rfl rfl (q_extract rfl rfl rfl) ?_
         refine G.as ?_
         refine G.as ?_
         refine G.nil ?_
         refine EN.ts ?_
         refine CG.sr ?_
         refine G.mv ?_
         first | refine G.q rfl rfl rfl rfl (q_ixaddr1 rfl rfl rfl se_52_F7 sz_3_F7 (h256)) ?_ | refine G.q rfl rfl rfl rfl (q_ixaddr rfl rfl rfl se_52_F7 sz_3_F7 (h256)) ?_
         first | refine G.r rfl rfl rfl rfl (r_load rfl rfl ag_3_F7 .here (nth_take htv (get_iv hx256))) ?_ | refine G.r rfl rfl rfl rfl (r_load rfl rfl ag_3_F7 (.there .here) (nth_take htv (get_iv hx256))) ?_ | refine G.r rfl rfl rfl rfl (r_load rfl rfl ag_3_F7 (.there (.there .here)) (nth_take htv (get_iv hx256))) ?_ | refine G.r rfl rfl rfl rfl (r_load rfl rfl ag_3_F7 (.there (.there (.there .here))) (nth_take htv (get_iv hx256))) ?_ | refine G.r rfl rfl rfl rfl (r_load rfl rfl ag_3_F7 (.there (.there (.there (.there .here)))) (nth_take htv (get_iv hx256))) ?_
         refine G.q rfl rfl rfl rfl (q_eql rfl rfl rfl) ?_
         refine G.mv ?_
         refine G.split (t := 176) rfl (fun g176 => ?_) (fun g176 => ?_)
         ·
          refine G.skip rfl rfl rfl ?_
          refine G.skip rfl rfl rfl ?_
          refine G.q rfl rfl rfl rfl (q_pick_t rfl rfl rfl) ?_
          refine G.mv ?_
          refine G.skip rfl rfl rfl ?_
          refine G.skip rfl rfl rfl ?_
          refine G.q rfl rfl rfl rfl (q_pick_t rfl rfl rfl) ?_
          refine G.nil ?_
          refine EN.sub (sC 24 (sC 26 (sC 183 Sub.nil))) ?_
          refine EN.then ?_
          refine CG.cond_t rfl ?_
          refine CG.seq ?_
          first | rw [if_pos (.inl oM)] at hE | rw [if_pos (.inr (.inr hb3))] at hE | skip
          refine CG.reg ?_
          refine G.as ?_
          refine G.as ?_
          refine G.as ?_
          refine G.nil ?_
          refine EN.then ?_
          refine CG.ret ?_
          refine EN.then_ret ?_
          refine EN.closeS (StP b rb out most) _ tK ?_
          rw [← hE]
          try dsimp only
          exact fin_ret3 rfl rfl rfl rfl tK sF (.inl ⟨by decide, rfl, rfl⟩) _ (.inl rfl)
         ·
          refine G.mv ?_
          refine G.q rfl rfl rfl rfl (q_neq rfl rfl rfl) ?_
          refine G.q rfl rfl rfl rfl (q_pick_f rfl rfl rfl) ?_
          refine G.mv ?_
          refine G.split (t := 180) rfl (fun g180 => absurd g180 (by decide)) (fun g180 => ?_)
          refine G.mv ?_
          refine G.q rfl rfl rfl rfl (q_neq rfl rfl rfl) ?_
          refine G.q rfl rfl rfl rfl (q_pick_f rfl rfl rfl) ?_
          refine G.nil ?_
          refine EN.sub (sC 24 (sC 26 (sC 183 Sub.nil))) ?_
          refine EN.then ?_
          refine CG.cond rfl (fun h183 => ?_) (fun h183 => absurd (by decide) h183)
          refine CG.seq ?_
          first | rw [if_pos (.inl oM)] at hE | rw [if_pos (.inr (.inr hb3))] at hE | skip
          refine CG.reg ?_
          refine G.as ?_
          refine G.as ?_
          refine G.as ?_
          refine G.nil ?_
          refine EN.then ?_
          refine CG.ret ?_
          refine EN.then_ret ?_
          refine EN.closeS (StP b rb out most) _ tK ?_
          rw [← hE]
          try dsimp only
          exact fin_ret3 rfl rfl rfl rfl tK sF (.inl ⟨by decide, rfl, rfl⟩) _ (.inl rfl)
       ·
        rw [if_pos (.inr (.inl hb2))] at hE
        refine CG.reg ?_
        refine G.mv ?_
        refine G.mv ?_
        refine G.q rfl rfl rfl rfl (q_slsl_hi rfl rfl rfl se_52_F7 sz_3_F7 oM) ?_
        refine G.call (xs := [_]) rfl rfl (hnew_bad hna hla oM (sliceL_take htv oM) hb2) bd_71_F7 rfl rfl rfl rfl tK (fun _ _ _ _ _ _ => trivial) ?_
        rintro _ _ ⟨rfl, rfl⟩
        try dsimp only [List.cons_append, List.nil_append]
        refine G.mv ?_
        refine G.q rfl rfl rfl rfl (q_extract rfl rfl rfl) ?_
        refine G.q rfl rfl rfl rfl (q_extract rfl rfl rfl) ?_
        refine G.as ?_
        refine G.as ?_
        refine G.nil ?_
        refine EN.sub (sC 7 (sC 16 (sC 24 (sC 25 Sub.nil)))) ?_
        refine EN.ts ?_
        cases hb3 : Huff.bad (l.drop nl)
        ·
         refine CG.reg ?_
         refine G.mv ?_
         refine G.mv ?_
         refine G.q rfl rfl rfl rfl (q_slsl_lo rfl rfl rfl se_52_F7 sz_3_F7 oM) ?_
         refine G.call (xs := [_]) rfl rfl (hnew_ok hnb hlb oM (sliceL_drop htv) hb3) bd_71_F7 rfl rfl rfl rfl tK (fun _ _ _ _ _ _ => trivial) ?_
         rintro _ _ ⟨bnhb3, rfl, rfl⟩
         try dsimp only [List.cons_append, List.nil_append]
         refine G.mv ?_
         refine G.q rfl rfl rfl rfl (q_extract rfl rfl rfl) ?_
         refine G.q rfl rfl rfl rfl (q_extract rfl rfl rfl) ?_
         refine G.as ?_
         refine G.as ?_
         refine G.nil ?_
         refine EN.ts ?_
         refine CG.sr ?_
         refine G.mv ?_
         first | refine G.q rfl rfl rfl rfl (q_ixaddr1 rfl rfl rfl se_52_F7 sz_3_F7 (h256)) ?_ | refine G.q rfl rfl rfl rfl (q_ixaddr rfl rfl rfl se_52_F7 sz_3_F7 (h256)) ?_
         first | refine G.r rfl rfl rfl rfl (r_load rfl rfl ag_3_F7 .here (nth_take htv (get_iv hx256))) ?_ | refine G.r rfl rfl rfl rfl (r_load rfl rfl ag_3_F7 (.there .here) (nth_take htv (get_iv hx256))) ?_ | refine G.r rfl rfl rfl rfl (r_load rfl rfl ag_3_F7 (.there (.there .here)) (nth_take htv (get_iv hx256))) ?_ | refine G.r rfl rfl rfl rfl (r_load rfl rfl ag_3_F7 (.there (.there (.there .here))) (nth_take htv (get_iv hx256))) ?_ | refine G.r rfl rfl rfl rfl (r_load rfl rfl ag_3_F7 (.there (.there (.there (.there .here)))) (nth_take htv (get_iv hx256))) ?_
         refine G.q rfl rfl rfl rfl (q_eql rfl rfl rfl) ?_
         refine G.mv ?_
         refine G.split (t := 176) rfl (fun g176 => ?_) (fun g176 => ?_)
         ·
          refine G.skip rfl rfl rfl ?_
          refine G.skip rfl rfl rfl ?_
          refine G.q rfl rfl rfl rfl (q_pick_t rfl rfl rfl) ?_
          refine G.mv ?_
          refine G.skip rfl rfl rfl ?_
          refine G.skip rfl rfl rfl ?_
          refine G.q rfl rfl rfl rfl (q_pick_t rfl rfl rfl) ?_
          refine G.nil ?_
          refine EN.sub (sC 24 (sC 26 (sC 183 Sub.nil))) ?_
          refine EN.then ?_
          refine CG.cond_t rfl ?_
          refine CG.seq ?_
          first | rw [if_pos (.inl oM)] at hE | rw [if_pos (.inr (.inr hb3))] at hE | skip
          refine CG.reg ?_
          refine G.as ?_
          refine G.as ?_
          refine G.as ?_
          refine G.nil ?_
          refine EN.then ?_
          refine CG.ret ?_
          refine EN.then_ret ?_
          refine EN.closeS (StP b rb out most) _ tK ?_
          rw [← hE]
          try dsimp only
          exact fin_ret3 rfl rfl rfl rfl tK sF (.inl ⟨by decide, rfl, rfl⟩) _ (.inl rfl)
         ·
          refine G.mv ?_
          refine G.q rfl rfl rfl rfl (q_neq rfl rfl rfl) ?_
          refine G.q rfl rfl rfl rfl (q_pick_f rfl rfl rfl) ?_
          refine G.mv ?_
          refine G.split (t := 180) rfl (fun g180 => ?_) (fun g180 => absurd (by decide) g180)
          refine G.skip rfl rfl rfl ?_
          refine G.skip rfl rfl rfl ?_
          refine G.q rfl rfl rfl rfl (q_pick_t rfl rfl rfl) ?_
          refine G.nil ?_
          refine EN.sub (sC 24 (sC 26 (sC 183 Sub.nil))) ?_
          refine EN.then ?_
          refine CG.cond_t rfl ?_
          refine CG.seq ?_
          first | rw [if_pos (.inl oM)] at hE | rw [if_pos (.inr (.inr hb3))] at hE | skip
          refine CG.reg ?_
          refine G.as ?_
          refine G.as ?_
          refine G.as ?_
          refine G.nil ?_
          refine EN.then ?_
          refine CG.ret ?_
          refine EN.then_ret ?_
          refine EN.closeS (StP b rb out most) _ tK ?_
          rw [← hE]
          try dsimp only
          exact fin_ret3 rfl rfl rfl rfl tK sF (.inl ⟨by decide, rfl, rfl⟩) _ (.inl rfl)
        ·
         refine CG.reg ?_
         refine G.mv ?_
         refine G.mv ?_
         refine G.q rfl rfl rfl rfl (q_slsl_lo rfl rfl rfl se_52_F7 sz_3_F7 oM) ?_
         refine G.call (xs := [_]) rfl rfl (hnew_bad hnb hlb oM (sliceL_drop htv) hb3) bd_71_F7 rfl rfl rfl rfl tK (fun _ _ _ _ _ _ => trivial) ?_
         rintro _ _ ⟨rfl, rfl⟩
         try dsimp only [List.cons_append, List.nil_append]
         refine G.mv ?_
         refine G.q rfl rfl rfl rfl (q_extract rfl rfl rfl) ?_
         refine G.q rfl rfl rfl rfl (q_extract rfl rfl rfl) ?_
         refine G.as ?_
         refine G.as ?_
         refine G.nil ?_
         refine EN.ts ?_
         refine CG.sr ?_
         refine G.mv ?_
         first | refine G.q rfl rfl rfl rfl (q_ixaddr1 rfl rfl rfl se_52_F7 sz_3_F7 (h256)) ?_ | refine G.q rfl rfl rfl rfl (q_ixaddr rfl rfl rfl se_52_F7 sz_3_F7 (h256)) ?_
         first | refine G.r rfl rfl rfl rfl (r_load rfl rfl ag_3_F7 .here (nth_take htv (get_iv hx256))) ?_ | refine G.r rfl rfl rfl rfl (r_load rfl rfl ag_3_F7 (.there .here) (nth_take htv (get_iv hx256))) ?_ | refine G.r rfl rfl rfl rfl (r_load rfl rfl ag_3_F7 (.there (.there .here)) (nth_take htv (get_iv hx256))) ?_ | refine G.r rfl rfl rfl rfl (r_load rfl rfl ag_3_F7 (.there (.there (.there .here))) (nth_take htv (get_iv hx256))) ?_ | refine G.r rfl rfl rfl rfl (r_load rfl rfl ag_3_F7 (.there (.there (.there (.there .here)))) (nth_take htv (get_iv hx256))) ?_
         refine G.q rfl rfl rfl rfl (q_eql rfl rfl rfl) ?_
         refine G.mv ?_
         refine G.split (t := 176) rfl (fun g176 => ?_) (fun g176 => ?_)
         ·
          refine G.skip rfl rfl rfl ?_
          refine G.skip rfl rfl rfl ?_
          refine G.q rfl rfl rfl rfl (q_pick_t rfl rfl rfl) ?_
          refine G.mv ?_
          refine G.skip rfl rfl rfl ?_
          refine G.skip rfl rfl rfl ?_
          refine G.q rfl rfl rfl rfl (q_pick_t rfl rfl rfl) ?_
          refine G.nil ?_
          refine EN.sub (sC 24 (sC 26 (sC 183 Sub.nil))) ?_
          refine EN.then ?_
          refine CG.cond_t rfl ?_
          refine CG.seq ?_
          first | rw [if_pos (.inl oM)] at hE | rw [if_pos (.inr (.inr hb3))] at hE | skip
          refine CG.reg ?_
          refine G.as ?_
          refine G.as ?_
          refine G.as ?_
          refine G.nil ?_
          refine EN.then ?_
          refine CG.ret ?_
          refine EN.then_ret ?_
          refine EN.closeS (StP b rb out most) _ tK ?_
          rw [← hE]
          try dsimp only
          exact fin_ret3 rfl rfl rfl rfl tK sF (.inl ⟨by decide, rfl, rfl⟩) _ (.inl rfl)
         ·
          refine G.mv ?_
          refine G.q rfl rfl rfl rfl (q_neq rfl rfl rfl) ?_
          refine G.q rfl rfl rfl rfl (q_pick_f rfl rfl rfl) ?_
          refine G.mv ?_
          refine G.split (t := 180) rfl (fun g180 => ?_) (fun g180 => absurd (by decide) g180)
          refine G.skip rfl rfl rfl ?_
          refine G.skip rfl rfl rfl ?_
          refine G.q rfl rfl rfl rfl (q_pick_t rfl rfl rfl) ?_
          refine G.nil ?_
          refine EN.sub (sC 24 (sC 26 (sC 183 Sub.nil))) ?_
          refine EN.then ?_
          refine CG.cond_t rfl ?_
          refine CG.seq ?_
          first | rw [if_pos (.inl oM)] at hE | rw [if_pos (.inr (.inr hb3))] at hE | skip
          refine CG.reg ?_
          refine G.as ?_
          refine G.as ?_
          refine G.as ?_
          refine G.nil ?_
          refine EN.then ?_
          refine CG.ret ?_
          refine EN.then_ret ?_
          refine EN.closeS (StP b rb out most) _ tK ?_
          rw [← hE]
          try dsimp only
          exact fin_ret3 rfl rfl rfl rfl tK sF (.inl ⟨by decide, rfl, rfl⟩) _ (.inl rfl)
     ·
      rw [if_pos hb1] at hE
      refine CG.reg ?_
      refine G.mv ?_
      refine G.call (xs := [_]) rfl rfl (hnew_bad hfl hf15 oM (sliceL_all _ (by simpa using hfl)) hb1) bd_71_F7 rfl rfl rfl rfl tK (fun _ _ _ _ _ _ => trivial) ?_
      rintro _ _ ⟨rfl, rfl⟩
      try dsimp only [List.cons_append, List.nil_append]
      refine G.mv ?_
      refine G.q rfl rfl rfl rfl (q_extract rfl rfl rfl) ?_
      refine G.q rfl rfl rfl rfl (q_extract rfl rfl rfl) ?_
      refine G.as ?_
      refine G.as ?_
      refine G.nil ?_
      refine EN.sub (sC 0 (sC 7 (sC 8 (sC 14 (sC 15 Sub.nil))))) ?_
      refine EN.ts ?_
      refine CG.sr ?_
      refine G.mv ?_
      refine G.q rfl rfl rfl rfl (q_neq rfl rfl rfl) ?_
      refine G.nil ?_
      refine EN.then ?_
      refine CG.cond rfl (fun h86 => ?_) (fun h86 => absurd (by decide) h86)
      refine CG.sr ?_
      refine G.as ?_
      refine G.as ?_
      refine G.as ?_
      refine G.nil ?_
      refine EN.then ?_
      refine CG.ret ?_
      refine EN.then_ret ?_
      refine EN.closeS (StP b rb out most) _ tK ?_
      rw [← hE]
      try dsimp only
      exact fin_ret3 rfl rfl rfl rfl tK sF (.inl ⟨by decide, rfl, rfl⟩) _ (.inl rfl)

end Go.Eng
/-
  RFC 1951 read (inflate): the run, and Inflate.
-/
set_option linter.unusedVariables false
set_option linter.unusedSimpArgs false
namespace Go.Eng
open Go.Proofs
theorem ag_109_F8 : aggB Tryd.prog 109 = some false := by kernel_rfl
theorem ag_39_F8 : aggB Tryd.prog 39 = some false := by kernel_rfl
theorem bT_39_9_F8 : bytesT Tryd.prog 39 9 = some 5 := by kernel_rfl
theorem bd_52_F8 : bodied Tryd.prog 52 = true := by kernel_rfl
theorem bd_66_F8 : bodied Tryd.prog 66 = true := by kernel_rfl
theorem bd_67_F8 : bodied Tryd.prog 67 = true := by kernel_rfl
theorem bd_68_F8 : bodied Tryd.prog 68 = true := by kernel_rfl
theorem bd_77_F8 : bodied Tryd.prog 77 = true := by kernel_rfl
theorem bd_78_F8 : bodied Tryd.prog 78 = true := by kernel_rfl
theorem bd_79_F8 : bodied Tryd.prog 79 = true := by kernel_rfl
theorem bd_80_F8 : bodied Tryd.prog 80 = true := by kernel_rfl
theorem bd_81_F8 : bodied Tryd.prog 81 = true := by kernel_rfl
theorem bd_82_F8 : bodied Tryd.prog 82 = true := by kernel_rfl
theorem bu_112_0_2_F8 : ∀ (x0 : Option Addr) (x2 : Int) (w : World), (Instr.build 112 [(0, .pointer x0), (2, .int .i64 x2)].toArray).run Tryd.prog w = .ok (.agg [.pointer x0, .slice none 0 0, .int .i64 x2].toArray) w := fun _ _ _ => by kernel_rfl
theorem fo_112_0_F8 : fieldOff Tryd.prog 112 0 = some 0 := by kernel_rfl
theorem fo_112_1_F8 : fieldOff Tryd.prog 112 1 = some 1 := by kernel_rfl
theorem ik_5_F8 : intK Tryd.prog 5 = some .u8 := by kernel_rfl
theorem is_3_F8 : (Tryd.prog.underlying 3).isSome = true := by kernel_rfl
theorem us_9_F8 : Tryd.prog.underlying 9 = some .string := by kernel_rfl

theorem tables_good {b rb : Nat} {r : RD} {out : List UInt8} {most : Nat} (hr : r.Ok) (h : (Infl.tables r).err = 0) :
    Spec Tryd.prog 79 #[.pointer (some ⟨b, 0, none⟩)] [StAt b rb out most, RdAt rb r] (Ret fun v hl => ∃ bl bd, v = .tuple #[.pointer (some ⟨bl, 0, none⟩), .pointer (some ⟨bd, 0, none⟩), .int .i64 0] ∧ hl = [TabAt bl (Infl.tables r).lit, TabAt bd (Infl.tables r).dist, StAt b rb out most, RdAt rb (Infl.tables r).r]) := by
  refine Spec.mono (tables_spec b rb r out most hr) ?_
  rintro v hl (⟨h2, _⟩ | ⟨_, h2⟩)
  · exact absurd h h2
  · exact h2
theorem tables_fail {b rb : Nat} {r : RD} {out : List UInt8} {most : Nat} (hr : r.Ok) (h : (Infl.tables r).err ≠ 0) :
    Spec Tryd.prog 79 #[.pointer (some ⟨b, 0, none⟩)] [StAt b rb out most, RdAt rb r] (Ret fun v hl => v = .tuple #[.pointer none, .pointer none, .int .i64 (Infl.tables r).err] ∧ hl = [StAt b rb out most, RdAt rb (Infl.tables r).r]) := by
  refine Spec.mono (tables_spec b rb r out most hr) ?_
  rintro v hl (⟨_, h2⟩ | ⟨h2, _⟩)
  · exact h2
  · exact absurd h2 h
attribute [local irreducible] cel own exS Huff.sorted Huff.cntC Huff.read RD.bits Infl.lensGo Infl.clGo Infl.repK Infl.tables Infl.stored Infl.again Infl.symbols Infl.run Infl.fixedLit Infl.fixedDist

set_option maxRecDepth 100000 in
set_option maxHeartbeats 1000000 in
theorem run_spec (b rb : Nat) (q : RD) (o : List UInt8) (most : Nat) (hq : q.Ok) (hm : most ≤ 1000000) (ho : o.length ≤ most) : Spec Tryd.prog 67 #[.pointer (some ⟨b, 0, none⟩)] [StAt b rb o most, RdAt rb q] (Ret fun v hl => v = .int .i64 (Infl.run most (q.left + 1) q o).2.2 ∧ hl = [StAt b rb (Infl.run most (q.left + 1) q o).2.1 most, RdAt rb (Infl.run most (q.left + 1) q o).1]) := by
 obtain ⟨X, hX⟩ : ∃ X, Infl.run most (q.left + 1) q o = X := ⟨_, rfl⟩
 rw [hX]
 obtain ⟨g, hgo, hg⟩ : ∃ g, Infl.run most g q o = X ∧ q.left < g := ⟨_, hX, by omega⟩
 refine Spec.enter Tryd.func67 rfl rfl rfl (fun F w0 => ?_)
 dsimp only [argL, List.cons_append, List.nil_append]
 refine CG.sr ?_
 refine G.as ?_
 refine G.nil ?_
 refine EN.then ?_
 refine CG.scope (fun l n L H => ∃ (q : RD) (o : List UInt8), q.Ok ∧ o.length ≤ most ∧ ((l = 0 ∧ (∃ g, Infl.run most g q o = X ∧ q.left < g) ∧ n = 3 * q.left + 1 ∧ L = [(0, .pointer (some ⟨b, 0, none⟩))] ∧ H = [StAt b rb o most, RdAt rb q] ++ F) ∨ (l = 1 ∧ (∃ h g : Nat, h < 8 ∧ (if h % 2 = 0 then Infl.run most g q o else (q, o, 0)) = X ∧ q.left < g ∧ n = 3 * q.left + 2 ∧ L = [(0, .pointer (some ⟨b, 0, none⟩)), (3, .int .u32 h)] ∧ H = [StAt b rb o most, RdAt rb q] ++ F)) ∨ (l = 2 ∧ (∃ (h g f : Nat) (ls ds : List Nat) (bl bd : Nat), h < 8 ∧ Infl.cont most h g (Infl.symbols ls ds most f q o) = X ∧ q.left < f ∧ q.left < g ∧ ls.length ≤ 320 ∧ ds.length ≤ 320 ∧ n = 3 * q.left ∧ L = [(0, .pointer (some ⟨b, 0, none⟩)), (3, .int .u32 h), (7, .pointer (some ⟨bl, 0, none⟩)), (8, .pointer (some ⟨bd, 0, none⟩))] ∧ H = [TabAt bl ls, TabAt bd ds, StAt b rb o most, RdAt rb q] ++ F)))) (3 * q.left + 1) ?_ ?_
 ·
  refine CG.sr ?_
  refine G.as ?_
  refine G.nil ?_
  refine EN.tsr ?_
  refine G.as ?_
  refine G.nil ?_
  refine EN.tsr ?_
  refine G.as ?_
  refine G.nil ?_
  refine EN.tsr ?_
  refine G.as ?_
  refine G.nil ?_
  refine EN.tsr ?_
  refine G.as ?_
  refine G.as ?_
  refine G.nil ?_
  refine EN.ts ?_
  refine CG.label ?_
  refine EN.ts ?_
  refine CG.seq ?_
  have hxok := RD.bits_ok hq (n := 3) oM
  have hx8 := RD.bits_lt q 3
  obtain ⟨g, rfl⟩ : ∃ g', g = g' + 1 := ⟨g - 1, by omega⟩
  rw [Infl.run_succ] at hgo
  refine CG.openS (StP b rb o most) tK1 (fun v => ?_)
  unfold StP
  dsimp only [List.cons_append, List.nil_append]
  refine CG.reg ?_
  refine G.mv ?_
  first | refine G.np ?_ | refine G.q rfl rfl rfl rfl (q_nil_f rfl rfl) ?_
  first | refine G.q rfl rfl rfl rfl (q_field0 rfl rfl fo_112_0_F8) ?_ | refine G.q rfl rfl rfl rfl (q_field rfl rfl fo_112_0_F8) ?_
  refine G.ld ag_109_F8 ?_
  refine G.closeS (StP b rb o most) _ tK ?_
  refine G.call (xs := [_, _]) rfl rfl (rbits_spec rb q 3 hq oM) bd_77_F8 rfl rfl rfl rfl tK (fun _ _ _ _ _ _ => trivial) ?_
  rintro _ _ ⟨rfl, rfl⟩
  try dsimp only [List.cons_append, List.nil_append]
  refine G.mv ?_
  refine G.q rfl rfl rfl rfl (q_extract rfl rfl rfl) ?_
  refine G.q rfl rfl rfl rfl (q_extract rfl rfl rfl) ?_
  refine G.as ?_
  refine G.as ?_
  refine G.nil ?_
  refine EN.tsr ?_
  refine G.mv ?_
  refine G.q rfl rfl rfl rfl (q_not rfl rfl) ?_
  refine G.nil ?_
  refine EN.sub (sC 0 (sC 2 (sC 3 (sC 5 (sC 6 (sC 7 (sC 8 (sC 18 Sub.nil)))))))) ?_
  refine EN.then ?_
  refine CG.condB rfl (fun h18 => ?_) (fun h18 => ?_)
  ·
   rw [if_pos (by simpa using h18)] at hgo
   refine CG.sr ?_
   refine G.as ?_
   refine G.nil ?_
   refine EN.then ?_
   refine CG.ret ?_
   refine EN.then_ret ?_
   refine EN.jr ?_
   rw [← hgo]
   try dsimp only
   exact fin_ret1 rfl rfl tK sF (⟨rfl, rfl⟩) _ (.inl rfl)
  ·
   rw [if_neg (by simpa using h18)] at hgo
   have hxl := RD.bits_left hq (n := 3) oM (by simpa using h18)
   unfold Infl.block at hgo
   refine CG.skip ?_
   refine EN.ts ?_
   refine CG.sr ?_
   refine G.mv ?_
   refine G.q rfl rfl rfl rfl (q_shrc (d := 2) rfl rfl rfl (by decide) (by decide)) ?_
   refine G.nil ?_
   refine EN.then ?_
   refine CG.block ?_
   refine CG.sr ?_
   refine G.q rfl rfl rfl rfl (q_eql rfl rfl rfl) ?_
   refine G.as ?_
   refine G.nil ?_
   refine EN.then ?_
   refine CG.cond rfl (fun h21 => ?_) (fun h21 => ?_)
   ·
    rw [if_pos oM] at hgo
    obtain ⟨hsok, hsl, hsm⟩ := Infl.stored_ok hxok ho
    refine CG.seq ?_
    refine CG.sr ?_
    refine G.mv ?_
    refine G.call (xs := [_]) rfl rfl (stored_spec b rb (q.bits 3).1 o most hxok hm ho) bd_78_F8 rfl rfl rfl rfl tK (fun _ _ _ _ _ _ => trivial) ?_
    rintro _ _ ⟨rfl, rfl⟩
    try dsimp only [List.cons_append, List.nil_append]
    refine G.as ?_
    refine G.nil ?_
    refine EN.tsr ?_
    refine G.mv ?_
    refine G.q rfl rfl rfl rfl (q_neq rfl rfl rfl) ?_
    refine G.nil ?_
    refine EN.then ?_
    refine CG.cond rfl (fun h26 => ?_) (fun h26 => ?_)
    ·
     rw [Infl.cont, if_pos oM] at hgo
     refine CG.sr ?_
     refine G.mv ?_
     refine G.as ?_
     refine G.nil ?_
     refine EN.sub (sC 0 (sC 2 (sC 3 (sC 5 (sC 6 (sC 7 (sC 8 Sub.nil))))))) ?_
     refine EN.then ?_
     refine CG.ret ?_
     refine EN.then_ret ?_
     refine EN.in_ret ?_
     refine EN.then_ret ?_
     refine EN.jr ?_
     rw [← hgo]
     try dsimp only
     exact fin_ret1 rfl rfl tK sF (⟨rfl, rfl⟩) _ (.inl rfl)
    ·
     rw [Infl.cont, if_neg oM] at hgo
     have hg2 : (Infl.stored (q.bits 3).1 o most).1.left < g := by omega
     refine CG.skip ?_
     refine EN.then ?_
     refine CG.goto ?_
     refine EN.in_goto ?_
     refine EN.then_goto ?_
     exact EN.goto (hl := [_, _]) (3 * (Infl.stored (q.bits 3).1 o most).1.left + 2) oM (⟨_, _, hsok, hsm, .inr (.inl ⟨rfl, _, _, hx8, hgo, hg2, rfl, rfl, rfl⟩)⟩) sB rfl tK sF
   ·
    rw [if_neg oM] at hgo
    refine CG.sr ?_
    refine G.q rfl rfl rfl rfl (q_eql rfl rfl rfl) ?_
    refine G.as ?_
    refine G.nil ?_
    refine EN.then ?_
    refine CG.cond rfl (fun h28 => ?_) (fun h28 => ?_)
    ·
     rw [if_pos oM] at hgo
     have hll : Infl.fixedLit.length ≤ 320 := by rw [Infl.lit_len]; omega
     have hdl : Infl.fixedDist.length ≤ 320 := by rw [Infl.dist_len]; omega
     have hf2 : (q.bits 3).1.left < (q.bits 3).1.left + 1 := by omega
     refine CG.sr ?_
     refine G.call (xs := []) rfl rfl (fixed_spec) bd_52_F8 rfl rfl rfl rfl tK (fun _ _ _ _ _ _ => trivial) ?_
     rintro _ _ ⟨bl, bd, rfl, rfl⟩
     try dsimp only [List.cons_append, List.nil_append]
     refine G.mv ?_
     refine G.q rfl rfl rfl rfl (q_extract rfl rfl rfl) ?_
     refine G.q rfl rfl rfl rfl (q_extract rfl rfl rfl) ?_
     refine G.as ?_
     refine G.as ?_
     refine G.nil ?_
     refine EN.sub (sC 0 (sC 2 (sC 3 (sC 5 (sC 6 (sC 7 (sC 8 Sub.nil))))))) ?_
     refine EN.then ?_
     refine CG.goto ?_
     refine EN.in_goto ?_
     refine EN.then_goto ?_
     have hg3 : (q.bits 3).1.left < g := by omega
     exact EN.goto (hl := [_, _, _, _]) (3 * (q.bits 3).1.left) oM (⟨_, _, hxok, ho, .inr (.inr ⟨rfl, _, _, _, _, _, _, _, hx8, hgo, hf2, hg3, hll, hdl, rfl, rfl, rfl⟩)⟩) sB rfl tK sF
    ·
     rw [if_neg oM] at hgo
     refine CG.sr ?_
     refine G.q rfl rfl rfl rfl (q_eql rfl rfl rfl) ?_
     refine G.as ?_
     refine G.nil ?_
     refine EN.then ?_
     refine CG.cond rfl (fun h34 => ?_) (fun h34 => ?_)
     ·
      rw [if_pos oM] at hgo
      obtain ⟨htok, htl, hll, hdl⟩ := Infl.tables_ok hxok
      refine CG.seq ?_
      refine CG.seq ?_
      by_cases ht0 : (Infl.tables (q.bits 3).1).err = 0
      ·
       rw [if_neg (by rw [ht0]; simp)] at hgo
       have hf2 : (Infl.tables (q.bits 3).1).r.left < (Infl.tables (q.bits 3).1).r.left + 1 := by omega
       refine CG.reg ?_
       refine G.mv ?_
       refine G.call (xs := [_]) rfl rfl (tables_good hxok ht0) bd_79_F8 rfl rfl rfl rfl tK (fun _ _ _ _ _ _ => trivial) ?_
       rintro _ _ ⟨bl, bd, rfl, rfl⟩
       try dsimp only [List.cons_append, List.nil_append]
       refine G.mv ?_
       refine G.q rfl rfl rfl rfl (q_extract rfl rfl rfl) ?_
       refine G.q rfl rfl rfl rfl (q_extract rfl rfl rfl) ?_
       refine G.q rfl rfl rfl rfl (q_extract rfl rfl rfl) ?_
       refine G.as ?_
       refine G.as ?_
       refine G.as ?_
       refine G.nil ?_
       refine EN.sub (sC 0 (sC 2 (sC 3 (sC 5 (sC 6 (sC 7 (sC 8 Sub.nil))))))) ?_
       refine EN.tsr ?_
       refine G.mv ?_
       refine G.q rfl rfl rfl rfl (q_neq rfl rfl rfl) ?_
       refine G.nil ?_
       refine EN.then ?_
       refine CG.cond rfl (fun h43 => absurd h43 (by decide)) (fun h43 => ?_)
       refine CG.skip ?_
       refine EN.then ?_
       refine CG.goto ?_
       refine EN.in_goto ?_
       refine EN.then_goto ?_
       have hg3 : (Infl.tables (q.bits 3).1).r.left < g := by omega
       exact EN.goto (hl := [_, _, _, _]) (3 * (Infl.tables (q.bits 3).1).r.left) oM (⟨_, _, htok, ho, .inr (.inr ⟨rfl, _, _, _, _, _, _, _, hx8, hgo, hf2, hg3, hll, hdl, rfl, rfl, rfl⟩)⟩) sB rfl tK sF
      ·
       rw [if_pos ht0, Infl.cont, if_pos ht0] at hgo
       refine CG.reg ?_
       refine G.mv ?_
       refine G.call (xs := [_]) rfl rfl (tables_fail hxok ht0) bd_79_F8 rfl rfl rfl rfl tK (fun _ _ _ _ _ _ => trivial) ?_
       rintro _ _ ⟨rfl, rfl⟩
       try dsimp only [List.cons_append, List.nil_append]
       refine G.mv ?_
       refine G.q rfl rfl rfl rfl (q_extract rfl rfl rfl) ?_
       refine G.q rfl rfl rfl rfl (q_extract rfl rfl rfl) ?_
       refine G.q rfl rfl rfl rfl (q_extract rfl rfl rfl) ?_
       refine G.as ?_
       refine G.as ?_
       refine G.as ?_
       refine G.nil ?_
       refine EN.sub (sC 0 (sC 2 (sC 3 (sC 5 (sC 6 (sC 7 (sC 8 Sub.nil))))))) ?_
       refine EN.tsr ?_
       refine G.mv ?_
       refine G.q rfl rfl rfl rfl (q_neq rfl rfl rfl) ?_
       refine G.nil ?_
       refine EN.then ?_
       refine CG.cond rfl (fun h43 => ?_) (fun h43 => absurd oM h43)
       refine CG.sr ?_
       refine G.mv ?_
       refine G.as ?_
       refine G.nil ?_
       refine EN.then ?_
       refine CG.ret ?_
       refine EN.then_ret ?_
       refine EN.in_ret ?_
       refine EN.then_ret ?_
       refine EN.jr ?_
       rw [← hgo]
       try dsimp only
       exact fin_ret1 rfl rfl tK sF (⟨rfl, rfl⟩) _ (.inl rfl)
     ·
      rw [if_neg oM, Infl.cont, if_pos (by simp)] at hgo
      refine CG.skip ?_
      refine EN.in_normal ?_
      refine EN.ts ?_
      refine CG.sr ?_
      refine G.as ?_
      refine G.nil ?_
      refine EN.sub (sC 0 (sC 2 (sC 3 (sC 5 (sC 6 (sC 7 (sC 8 Sub.nil))))))) ?_
      refine EN.then ?_
      refine CG.ret ?_
      refine EN.then_ret ?_
      refine EN.jr ?_
      rw [← hgo]
      try dsimp only
      exact fin_ret1 rfl rfl tK sF (⟨rfl, rfl⟩) _ (.inl rfl)
 ·
  rintro l n L H ⟨q, o, hq, ho, (⟨rfl, ⟨g, hgo, hg⟩, rfl, rfl, rfl⟩ | ⟨rfl, ⟨h, g, hh8, hgo, hg, rfl, rfl, rfl⟩⟩ | ⟨rfl, ⟨h, g, f, ls, ds, bl, bd, hh8, hgo, hf, hg, hll, hdl, rfl, rfl, rfl⟩⟩)⟩
  ·
   try dsimp only [List.cons_append, List.nil_append]
   refine ⟨_, rfl, ?_⟩
   refine CG.seq ?_
   refine CG.skip ?_
   refine EN.ts ?_
   refine CG.seq ?_
   have hxok := RD.bits_ok hq (n := 3) oM
   have hx8 := RD.bits_lt q 3
   obtain ⟨g, rfl⟩ : ∃ g', g = g' + 1 := ⟨g - 1, by omega⟩
   rw [Infl.run_succ] at hgo
   refine CG.openS (StP b rb o most) tK1 (fun v => ?_)
   unfold StP
   dsimp only [List.cons_append, List.nil_append]
   refine CG.reg ?_
   refine G.mv ?_
   first | refine G.np ?_ | refine G.q rfl rfl rfl rfl (q_nil_f rfl rfl) ?_
   first | refine G.q rfl rfl rfl rfl (q_field0 rfl rfl fo_112_0_F8) ?_ | refine G.q rfl rfl rfl rfl (q_field rfl rfl fo_112_0_F8) ?_
   refine G.ld ag_109_F8 ?_
   refine G.closeS (StP b rb o most) _ tK ?_
   refine G.call (xs := [_, _]) rfl rfl (rbits_spec rb q 3 hq oM) bd_77_F8 rfl rfl rfl rfl tK (fun _ _ _ _ _ _ => trivial) ?_
   rintro _ _ ⟨rfl, rfl⟩
   try dsimp only [List.cons_append, List.nil_append]
   refine G.mv ?_
   refine G.q rfl rfl rfl rfl (q_extract rfl rfl rfl) ?_
   refine G.q rfl rfl rfl rfl (q_extract rfl rfl rfl) ?_
   refine G.as ?_
   refine G.as ?_
   refine G.nil ?_
   refine EN.tsr ?_
   refine G.mv ?_
   refine G.q rfl rfl rfl rfl (q_not rfl rfl) ?_
   refine G.nil ?_
   refine EN.sub (sC 0 (sC 3 (sC 18 Sub.nil))) ?_
   refine EN.then ?_
   refine CG.condB rfl (fun h18 => ?_) (fun h18 => ?_)
   ·
    rw [if_pos (by simpa using h18)] at hgo
    refine CG.sr ?_
    refine G.as ?_
    refine G.nil ?_
    refine EN.then ?_
    refine CG.ret ?_
    refine EN.then_ret ?_
    refine EN.jr ?_
    rw [← hgo]
    try dsimp only
    exact fin_ret1 rfl rfl tK sF (⟨rfl, rfl⟩) _ (.inl rfl)
   ·
    rw [if_neg (by simpa using h18)] at hgo
    have hxl := RD.bits_left hq (n := 3) oM (by simpa using h18)
    unfold Infl.block at hgo
    refine CG.skip ?_
    refine EN.ts ?_
    refine CG.sr ?_
    refine G.mv ?_
    refine G.q rfl rfl rfl rfl (q_shrc (d := 2) rfl rfl rfl (by decide) (by decide)) ?_
    refine G.nil ?_
    refine EN.then ?_
    refine CG.block ?_
    refine CG.sr ?_
    refine G.q rfl rfl rfl rfl (q_eql rfl rfl rfl) ?_
    refine G.as ?_
    refine G.nil ?_
    refine EN.then ?_
    refine CG.cond rfl (fun h21 => ?_) (fun h21 => ?_)
    ·
     rw [if_pos oM] at hgo
     obtain ⟨hsok, hsl, hsm⟩ := Infl.stored_ok hxok ho
     refine CG.seq ?_
     refine CG.sr ?_
     refine G.mv ?_
     refine G.call (xs := [_]) rfl rfl (stored_spec b rb (q.bits 3).1 o most hxok hm ho) bd_78_F8 rfl rfl rfl rfl tK (fun _ _ _ _ _ _ => trivial) ?_
     rintro _ _ ⟨rfl, rfl⟩
     try dsimp only [List.cons_append, List.nil_append]
     refine G.as ?_
     refine G.nil ?_
     refine EN.tsr ?_
     refine G.mv ?_
     refine G.q rfl rfl rfl rfl (q_neq rfl rfl rfl) ?_
     refine G.nil ?_
     refine EN.then ?_
     refine CG.cond rfl (fun h26 => ?_) (fun h26 => ?_)
     ·
      rw [Infl.cont, if_pos oM] at hgo
      refine CG.sr ?_
      refine G.mv ?_
      refine G.as ?_
      refine G.nil ?_
      refine EN.sub (sC 0 (sC 2 (sC 3 (sC 5 Sub.nil)))) ?_
      refine EN.then ?_
      refine CG.ret ?_
      refine EN.then_ret ?_
      refine EN.in_ret ?_
      refine EN.then_ret ?_
      refine EN.jr ?_
      rw [← hgo]
      try dsimp only
      exact fin_ret1 rfl rfl tK sF (⟨rfl, rfl⟩) _ (.inl rfl)
     ·
      rw [Infl.cont, if_neg oM] at hgo
      have hg2 : (Infl.stored (q.bits 3).1 o most).1.left < g := by omega
      refine CG.skip ?_
      refine EN.then ?_
      refine CG.goto ?_
      refine EN.in_goto ?_
      refine EN.then_goto ?_
      exact EN.goto (hl := [_, _]) (3 * (Infl.stored (q.bits 3).1 o most).1.left + 2) oM (⟨_, _, hsok, hsm, .inr (.inl ⟨rfl, _, _, hx8, hgo, hg2, rfl, rfl, rfl⟩)⟩) sB rfl tK sF
    ·
     rw [if_neg oM] at hgo
     refine CG.sr ?_
     refine G.q rfl rfl rfl rfl (q_eql rfl rfl rfl) ?_
     refine G.as ?_
     refine G.nil ?_
     refine EN.then ?_
     refine CG.cond rfl (fun h28 => ?_) (fun h28 => ?_)
     ·
      rw [if_pos oM] at hgo
      have hll : Infl.fixedLit.length ≤ 320 := by rw [Infl.lit_len]; omega
      have hdl : Infl.fixedDist.length ≤ 320 := by rw [Infl.dist_len]; omega
      have hf2 : (q.bits 3).1.left < (q.bits 3).1.left + 1 := by omega
      refine CG.sr ?_
      refine G.call (xs := []) rfl rfl (fixed_spec) bd_52_F8 rfl rfl rfl rfl tK (fun _ _ _ _ _ _ => trivial) ?_
      rintro _ _ ⟨bl, bd, rfl, rfl⟩
      try dsimp only [List.cons_append, List.nil_append]
      refine G.mv ?_
      refine G.q rfl rfl rfl rfl (q_extract rfl rfl rfl) ?_
      refine G.q rfl rfl rfl rfl (q_extract rfl rfl rfl) ?_
      refine G.as ?_
      refine G.as ?_
      refine G.nil ?_
      refine EN.sub (sC 0 (sC 3 (sC 7 (sC 8 Sub.nil)))) ?_
      refine EN.then ?_
      refine CG.goto ?_
      refine EN.in_goto ?_
      refine EN.then_goto ?_
      have hg3 : (q.bits 3).1.left < g := by omega
      exact EN.goto (hl := [_, _, _, _]) (3 * (q.bits 3).1.left) oM (⟨_, _, hxok, ho, .inr (.inr ⟨rfl, _, _, _, _, _, _, _, hx8, hgo, hf2, hg3, hll, hdl, rfl, rfl, rfl⟩)⟩) sB rfl tK sF
     ·
      rw [if_neg oM] at hgo
      refine CG.sr ?_
      refine G.q rfl rfl rfl rfl (q_eql rfl rfl rfl) ?_
      refine G.as ?_
      refine G.nil ?_
      refine EN.then ?_
      refine CG.cond rfl (fun h34 => ?_) (fun h34 => ?_)
      ·
       rw [if_pos oM] at hgo
       obtain ⟨htok, htl, hll, hdl⟩ := Infl.tables_ok hxok
       refine CG.seq ?_
       refine CG.seq ?_
       by_cases ht0 : (Infl.tables (q.bits 3).1).err = 0
       ·
        rw [if_neg (by rw [ht0]; simp)] at hgo
        have hf2 : (Infl.tables (q.bits 3).1).r.left < (Infl.tables (q.bits 3).1).r.left + 1 := by omega
        refine CG.reg ?_
        refine G.mv ?_
        refine G.call (xs := [_]) rfl rfl (tables_good hxok ht0) bd_79_F8 rfl rfl rfl rfl tK (fun _ _ _ _ _ _ => trivial) ?_
        rintro _ _ ⟨bl, bd, rfl, rfl⟩
        try dsimp only [List.cons_append, List.nil_append]
        refine G.mv ?_
        refine G.q rfl rfl rfl rfl (q_extract rfl rfl rfl) ?_
        refine G.q rfl rfl rfl rfl (q_extract rfl rfl rfl) ?_
        refine G.q rfl rfl rfl rfl (q_extract rfl rfl rfl) ?_
        refine G.as ?_
        refine G.as ?_
        refine G.as ?_
        refine G.nil ?_
        refine EN.sub (sC 0 (sC 3 (sC 5 (sC 7 (sC 8 Sub.nil))))) ?_
        refine EN.tsr ?_
        refine G.mv ?_
        refine G.q rfl rfl rfl rfl (q_neq rfl rfl rfl) ?_
        refine G.nil ?_
        refine EN.then ?_
        refine CG.cond rfl (fun h43 => absurd h43 (by decide)) (fun h43 => ?_)
        refine CG.skip ?_
        refine EN.then ?_
        refine CG.goto ?_
        refine EN.in_goto ?_
        refine EN.then_goto ?_
        have hg3 : (Infl.tables (q.bits 3).1).r.left < g := by omega
        exact EN.goto (hl := [_, _, _, _]) (3 * (Infl.tables (q.bits 3).1).r.left) oM (⟨_, _, htok, ho, .inr (.inr ⟨rfl, _, _, _, _, _, _, _, hx8, hgo, hf2, hg3, hll, hdl, rfl, rfl, rfl⟩)⟩) sB rfl tK sF
       ·
        rw [if_pos ht0, Infl.cont, if_pos ht0] at hgo
        refine CG.reg ?_
        refine G.mv ?_
        refine G.call (xs := [_]) rfl rfl (tables_fail hxok ht0) bd_79_F8 rfl rfl rfl rfl tK (fun _ _ _ _ _ _ => trivial) ?_
        rintro _ _ ⟨rfl, rfl⟩
        try dsimp only [List.cons_append, List.nil_append]
        refine G.mv ?_
        refine G.q rfl rfl rfl rfl (q_extract rfl rfl rfl) ?_
        refine G.q rfl rfl rfl rfl (q_extract rfl rfl rfl) ?_
        refine G.q rfl rfl rfl rfl (q_extract rfl rfl rfl) ?_
        refine G.as ?_
        refine G.as ?_
        refine G.as ?_
        refine G.nil ?_
        refine EN.sub (sC 0 (sC 3 (sC 5 (sC 7 (sC 8 Sub.nil))))) ?_
        refine EN.tsr ?_
        refine G.mv ?_
        refine G.q rfl rfl rfl rfl (q_neq rfl rfl rfl) ?_
        refine G.nil ?_
        refine EN.then ?_
        refine CG.cond rfl (fun h43 => ?_) (fun h43 => absurd oM h43)
        refine CG.sr ?_
        refine G.mv ?_
        refine G.as ?_
        refine G.nil ?_
        refine EN.then ?_
        refine CG.ret ?_
        refine EN.then_ret ?_
        refine EN.in_ret ?_
        refine EN.then_ret ?_
        refine EN.jr ?_
        rw [← hgo]
        try dsimp only
        exact fin_ret1 rfl rfl tK sF (⟨rfl, rfl⟩) _ (.inl rfl)
      ·
       rw [if_neg oM, Infl.cont, if_pos (by simp)] at hgo
       refine CG.skip ?_
       refine EN.in_normal ?_
       refine EN.ts ?_
       refine CG.sr ?_
       refine G.as ?_
       refine G.nil ?_
       refine EN.sub (sC 0 (sC 2 (sC 3 Sub.nil))) ?_
       refine EN.then ?_
       refine CG.ret ?_
       refine EN.then_ret ?_
       refine EN.jr ?_
       rw [← hgo]
       try dsimp only
       exact fin_ret1 rfl rfl tK sF (⟨rfl, rfl⟩) _ (.inl rfl)
  ·
   try dsimp only [List.cons_append, List.nil_append]
   refine ⟨_, rfl, ?_⟩
   refine CG.seq ?_
   refine CG.skip ?_
   refine EN.ts ?_
   refine CG.sr ?_
   refine G.mv ?_
   first | refine G.q rfl rfl rfl rfl (q_andm (j := 1) (d := 2) rfl rfl rfl lOm lOm (by decide) (by decide) (by decide)) ?_ | refine G.q rfl rfl rfl rfl (q_and rfl rfl rfl) ?_
   refine G.q rfl rfl rfl rfl (q_eql rfl rfl rfl) ?_
   refine G.nil ?_
   refine EN.then ?_
   refine CG.cond rfl (fun h74 => ?_) (fun h74 => ?_)
   ·
    rw [if_pos oM] at hgo
    refine CG.goto ?_
    refine EN.then_goto ?_
    exact EN.goto (hl := [_, _]) (3 * q.left + 1) oM (⟨_, _, hq, ho, .inl ⟨rfl, ⟨_, hgo, hg⟩, rfl, rfl, rfl⟩⟩) sB rfl tK sF
   ·
    rw [if_neg oM] at hgo
    refine CG.skip ?_
    refine EN.tsr ?_
    refine G.as ?_
    refine G.nil ?_
    refine EN.then ?_
    refine CG.ret ?_
    refine EN.jr ?_
    rw [← hgo]
    try dsimp only
    exact fin_ret1 rfl rfl tK sF (⟨rfl, rfl⟩) _ (.inl rfl)
  ·
   try dsimp only [List.cons_append, List.nil_append]
   refine ⟨_, rfl, ?_⟩
   refine CG.seq ?_
   refine CG.skip ?_
   refine EN.ts ?_
   refine CG.seq ?_
   obtain ⟨f, rfl⟩ : ∃ f', f = f' + 1 := ⟨f - 1, by omega⟩
   rw [Infl.symbols] at hgo
   dsimp only at hgo
   obtain ⟨hyok, hyl, hyl2⟩ := Huff.read_ok ls hq
   obtain ⟨y, hy⟩ : ∃ y, Huff.read ls q = y := ⟨_, rfl⟩
   rw [hy] at hgo hyok hyl hyl2
   refine CG.openS (StP b rb o most) tK1 (fun v => ?_)
   unfold StP
   dsimp only [List.cons_append, List.nil_append]
   refine CG.reg ?_
   refine G.mv ?_
   refine G.mv ?_
   first | refine G.np ?_ | refine G.q rfl rfl rfl rfl (q_nil_f rfl rfl) ?_
   first | refine G.q rfl rfl rfl rfl (q_field0 rfl rfl fo_112_0_F8) ?_ | refine G.q rfl rfl rfl rfl (q_field rfl rfl fo_112_0_F8) ?_
   refine G.ld ag_109_F8 ?_
   refine G.closeS (StP b rb o most) _ tK ?_
   refine G.call (xs := [_, _]) rfl rfl (hread_spec bl rb ls q hq hll) bd_80_F8 rfl rfl rfl rfl tK (fun _ _ _ _ _ _ => trivial) ?_
   rintro _ _ ⟨rfl, rfl⟩
   try dsimp only [List.cons_append, List.nil_append]
   refine G.mv ?_
   refine G.q rfl rfl rfl rfl (q_extract rfl rfl rfl) ?_
   refine G.q rfl rfl rfl rfl (q_extract rfl rfl rfl) ?_
   refine G.as ?_
   refine G.as ?_
   refine G.nil ?_
   refine EN.sub (sC 0 (sC 3 (sC 5 (sC 6 (sC 7 (sC 8 Sub.nil)))))) ?_
   refine EN.ts ?_
   rw [hy]
   refine CG.reg ?_
   refine G.mv ?_
   refine G.q rfl rfl rfl rfl (q_neq rfl rfl rfl) ?_
   refine G.nil ?_
   refine EN.then ?_
   refine CG.cond rfl (fun h55 => ?_) (fun h55 => ?_)
   ·
    rw [if_pos oM, Infl.cont, if_pos (show y.2.2 ≠ 0 by omega)] at hgo
    refine CG.sr ?_
    refine G.mv ?_
    refine G.as ?_
    refine G.nil ?_
    refine EN.then ?_
    refine CG.ret ?_
    refine EN.then_ret ?_
    refine EN.jr ?_
    rw [← hgo]
    try dsimp only
    exact fin_ret1 rfl rfl tK sF (⟨rfl, rfl⟩) _ (.inl rfl)
   ·
    rw [if_neg oM] at hgo
    have hyl3 := hyl2 oM
    have hg2 : y.1.left < g := by omega
    have hf2 : y.1.left < f := by omega
    refine CG.skip ?_
    refine EN.ts ?_
    refine CG.sr ?_
    refine G.mv ?_
    refine G.q rfl rfl rfl rfl (q_eql rfl rfl rfl) ?_
    refine G.nil ?_
    refine EN.then ?_
    refine CG.cond rfl (fun h58 => ?_) (fun h58 => ?_)
    ·
     rw [if_pos oM, Infl.cont, if_neg (by simp)] at hgo
     refine CG.goto ?_
     refine EN.then_goto ?_
     exact EN.goto (hl := [_, _]) (3 * y.1.left + 2) oM (⟨_, _, hyok, ho, .inr (.inl ⟨rfl, _, _, hh8, hgo, hg2, rfl, rfl, rfl⟩)⟩) sB rfl tK sF
    ·
     rw [if_neg oM] at hgo
     refine CG.skip ?_
     refine EN.ts ?_
     refine CG.sr ?_
     refine G.mv ?_
     refine G.q rfl rfl rfl rfl (q_lss rfl rfl rfl) ?_
     refine G.nil ?_
     refine EN.then ?_
     refine CG.cond rfl (fun h60 => ?_) (fun h60 => ?_)
     ·
      rw [if_pos oM] at hgo
      by_cases hom : o.length = most
      ·
       rw [if_pos hom, Infl.cont, if_pos (by simp)] at hgo
       refine CG.reg ?_
       refine G.mv ?_
       refine G.mv ?_
       refine G.q rfl rfl rfl rfl (q_conv_u8 rfl rfl is_3_F8 ik_5_F8) ?_
       refine G.call (xs := [_, _]) rfl rfl (put_spec b rb o most (u8i (y.2.1 : Int)) oM oM) bd_81_F8 rfl rfl rfl rfl tK (fun _ _ _ _ _ _ => trivial) ?_
       rintro _ _ ⟨rfl, rfl⟩
       try dsimp only [List.cons_append, List.nil_append]
       refine G.as ?_
       refine G.nil ?_
       refine EN.sub (sC 0 (sC 3 (sC 5 (sC 7 (sC 8 Sub.nil))))) ?_
       refine EN.ts ?_
       refine CG.seq ?_
       rw [if_pos hom, if_pos hom]
       refine CG.reg ?_
       refine G.mv ?_
       refine G.q rfl rfl rfl rfl (q_eql rfl rfl rfl) ?_
       refine G.nil ?_
       refine EN.then ?_
       refine CG.cond rfl (fun h70 => absurd h70 (by decide)) (fun h70 => ?_)
       refine CG.skip ?_
       refine EN.ts ?_
       refine CG.sr ?_
       refine G.mv ?_
       refine G.as ?_
       refine G.nil ?_
       refine EN.then ?_
       refine CG.ret ?_
       refine EN.then_ret ?_
       refine EN.jr ?_
       rw [← hgo]
       try dsimp only
       exact fin_ret1 rfl rfl tK sF (⟨rfl, rfl⟩) _ (.inl rfl)
      ·
       rw [if_neg hom] at hgo
       have hok2 := hyok
       have hlen2 : (o ++ [u8i (y.2.1 : Int)]).length ≤ most := by simp; omega
       refine CG.reg ?_
       refine G.mv ?_
       refine G.mv ?_
       refine G.q rfl rfl rfl rfl (q_conv_u8 rfl rfl is_3_F8 ik_5_F8) ?_
       refine G.call (xs := [_, _]) rfl rfl (put_spec b rb o most (u8i (y.2.1 : Int)) oM oM) bd_81_F8 rfl rfl rfl rfl tK (fun _ _ _ _ _ _ => trivial) ?_
       rintro _ _ ⟨rfl, rfl⟩
       try dsimp only [List.cons_append, List.nil_append]
       refine G.as ?_
       refine G.nil ?_
       refine EN.sub (sC 0 (sC 3 (sC 5 (sC 7 (sC 8 Sub.nil))))) ?_
       refine EN.ts ?_
       refine CG.seq ?_
       rw [if_neg hom, if_neg hom]
       refine CG.reg ?_
       refine G.mv ?_
       refine G.q rfl rfl rfl rfl (q_eql rfl rfl rfl) ?_
       refine G.nil ?_
       refine EN.then ?_
       refine CG.cond rfl (fun h70 => ?_) (fun h70 => absurd (by decide) h70)
       refine CG.goto ?_
       refine EN.then_goto ?_
       exact EN.goto (hl := [_, _, _, _]) (_) oM (⟨_, _, hok2, hlen2, .inr (.inr ⟨rfl, _, _, _, _, _, _, _, hh8, hgo, hf2, hg2, hll, hdl, rfl, rfl, rfl⟩)⟩) sB rfl tK sF
     ·
      rw [if_neg oM] at hgo
      obtain ⟨haok, hal, ham⟩ := Infl.again_ok (ds := ds) hyok (most := most) (s := y.2.1) ho oM
      have hok2 := haok
      have hlen2 := ham
      have hg2 : (Infl.again ds most y.1 o y.2.1).1.left < g := by omega
      have hf2 : (Infl.again ds most y.1 o y.2.1).1.left < f := by omega
      refine CG.reg ?_
      refine G.mv ?_
      refine G.mv ?_
      refine G.mv ?_
      refine G.call (xs := [_, _, _]) rfl rfl (again_spec b rb bd ds y.1 o most y.2.1 hyok hdl hm ho oM) bd_82_F8 rfl rfl rfl rfl tK (fun _ _ _ _ _ _ => trivial) ?_
      rintro _ _ ⟨rfl, rfl⟩
      try dsimp only [List.cons_append, List.nil_append]
      refine G.as ?_
      refine G.nil ?_
      refine EN.sub (sC 0 (sC 3 (sC 5 (sC 7 (sC 8 Sub.nil))))) ?_
      refine EN.ts ?_
      refine CG.sr ?_
      refine G.mv ?_
      refine G.q rfl rfl rfl rfl (q_eql rfl rfl rfl) ?_
      refine G.nil ?_
      refine EN.then ?_
      refine CG.cond rfl (fun h70 => ?_) (fun h70 => ?_)
      ·
       rw [if_neg oM] at hgo
       refine CG.goto ?_
       refine EN.then_goto ?_
       exact EN.goto (hl := [_, _, _, _]) (_) oM (⟨_, _, hok2, hlen2, .inr (.inr ⟨rfl, _, _, _, _, _, _, _, hh8, hgo, hf2, hg2, hll, hdl, rfl, rfl, rfl⟩)⟩) sB rfl tK sF
      ·
       rw [if_pos oM, Infl.cont, if_pos oM] at hgo
       refine CG.skip ?_
       refine EN.ts ?_
       refine CG.sr ?_
       refine G.mv ?_
       refine G.as ?_
       refine G.nil ?_
       refine EN.then ?_
       refine CG.ret ?_
       refine EN.then_ret ?_
       refine EN.jr ?_
       rw [← hgo]
       try dsimp only
       exact fin_ret1 rfl rfl tK sF (⟨rfl, rfl⟩) _ (.inl rfl)

def inflV (p : List UInt8 × Nat × Nat) : Value := .tuple #[str p.1, .int .i64 p.2.1, .int .i64 p.2.2]


set_option maxRecDepth 100000 in
set_option maxHeartbeats 1000000 in
theorem inflate_spec (s : List UInt8) (at_ most : Nat) (hs : s.length ≤ 140737488351232) (ha : at_ ≤ s.length) (hm : most ≤ 65536) : Spec Tryd.prog 44 #[str s, .int .i64 at_, .int .i64 most] [] (Ret fun v hl => v = inflV (Infl.inflate s at_ most) ∧ hl = []) := by
 have hro : (Infl.run most ((RD.new s at_).left + 1) (RD.new s at_) []).1.Ok := (Infl.run_okk most _ _ _ (RD.new_ok hs at_) (by simp)).1
 refine Spec.enter Tryd.func44 rfl rfl rfl (fun F w0 => ?_)
 dsimp only [argL, List.cons_append, List.nil_append]
 refine CG.sr ?_
 refine G.as ?_
 refine G.as ?_
 refine G.as ?_
 refine G.nil ?_
 refine EN.ts ?_
 refine CG.sr ?_
 refine G.mv ?_
 refine G.q rfl rfl rfl rfl (q_lss rfl rfl rfl) ?_
 refine G.mv ?_
 refine G.split (t := 13) rfl (fun g13 => absurd g13 oM) (fun g13 => ?_)
 refine G.mv ?_
 refine G.mv ?_
 refine G.q rfl rfl rfl rfl (q_len_str rfl rfl us_9_F8) ?_
 refine G.q rfl rfl rfl rfl (q_gtr rfl rfl rfl) ?_
 refine G.q rfl rfl rfl rfl (q_pick_f rfl rfl rfl) ?_
 refine G.mv ?_
 refine G.split (t := 19) rfl (fun g19 => absurd g19 oM) (fun g19 => ?_)
 refine G.mv ?_
 refine G.q rfl rfl rfl rfl (q_lss rfl rfl rfl) ?_
 refine G.q rfl rfl rfl rfl (q_pick_f rfl rfl rfl) ?_
 refine G.mv ?_
 refine G.split (t := 23) rfl (fun g23 => absurd g23 oM) (fun g23 => ?_)
 refine G.mv ?_
 refine G.q rfl rfl rfl rfl (q_gtr rfl rfl rfl) ?_
 refine G.q rfl rfl rfl rfl (q_pick_f rfl rfl rfl) ?_
 refine G.nil ?_
 refine EN.sub (sC 0 (sC 1 (sC 2 (sC 6 (sC 7 (sC 8 (sC 26 Sub.nil))))))) ?_
 refine EN.then ?_
 refine CG.cond rfl (fun h26 => absurd h26 oM) (fun h26 => ?_)
 refine CG.skip ?_
 refine EN.tsr ?_
 refine G.mv ?_
 refine G.mv ?_
 refine G.call (xs := [_, _]) rfl rfl (rnew_spec s at_ hs) bd_66_F8 rfl rfl rfl rfl tK (fun _ _ _ _ _ _ => trivial) ?_
 rintro _ _ ⟨rb, rfl, rfl⟩
 try dsimp only [List.cons_append, List.nil_append]
 refine G.mv ?_
 refine G.q rfl rfl rfl rfl (q_build rfl rfl (bu_112_0_2_F8 _ _)) ?_
 refine G.e rfl rfl rfl rfl (e_box rfl rfl) (fun _ _ _ _ _ _ => trivial) ?_
 rintro _ _ ⟨b32, rfl, rfl⟩
 refine G.as ?_
 refine G.nil ?_
 refine EN.sub (sC 6 (sC 7 (sC 8 (sC 9 Sub.nil)))) ?_
 refine EN.ts ?_
 refine CG.seq ?_
 refine CG.ownNil 5 1 ?_
 refine CG.closeS (StP b32 rb [] most) (.slice none 0 0) tK ?_
 refine CG.reg ?_
 refine G.mv ?_
 refine G.call (xs := [_]) rfl rfl (run_spec b32 rb (RD.new s at_) [] most (RD.new_ok hs at_) oM (by simp)) bd_67_F8 rfl rfl rfl rfl tK (fun _ _ _ _ _ _ => trivial) ?_
 rintro _ _ ⟨rfl, rfl⟩
 try dsimp only [List.cons_append, List.nil_append]
 refine G.as ?_
 refine G.nil ?_
 refine EN.tsr ?_
 refine G.mv ?_
 refine G.q rfl rfl rfl rfl (q_neq rfl rfl rfl) ?_
 refine G.nil ?_
 refine EN.then ?_
 refine CG.cond rfl (fun h36 => ?_) (fun h36 => ?_)
 ·
  have hE : Infl.inflate s at_ most = ([], 0, (Infl.run most ((RD.new s at_).left + 1) (RD.new s at_) []).2.2) := by unfold Infl.inflate; dsimp only; rw [if_pos oM]
  refine CG.sr ?_
  refine G.mv ?_
  refine G.as ?_
  refine G.as ?_
  refine G.as ?_
  refine G.nil ?_
  refine EN.then ?_
  refine CG.ret ?_
  refine EN.then_ret ?_
  rw [hE]
  unfold inflV
  try dsimp only
  exact fin_ret3 rfl rfl rfl rfl tK sF (⟨rfl, rfl⟩) _ (.inl rfl)
 ·
  have hE : Infl.inflate s at_ most = ((Infl.run most ((RD.new s at_).left + 1) (RD.new s at_) []).2.1, (Infl.run most ((RD.new s at_).left + 1) (RD.new s at_) []).1.used, 0) := by unfold Infl.inflate; dsimp only; rw [if_neg oM]
  refine CG.skip ?_
  refine EN.ts ?_
  refine CG.openS (StP b32 rb (Infl.run most ((RD.new s at_).left + 1) (RD.new s at_) []).2.1 most) tK1 (fun v => ?_)
  unfold StP
  dsimp only [List.cons_append, List.nil_append]
  refine CG.regC [41, 42, 46] (fun w => CellIs b32 0 (.pointer (some ⟨rb, 0, none⟩)) w ∧ CellIs b32 1 v w ∧ w.ownsRow 0 5 1 v (Infl.run most ((RD.new s at_).left + 1) (RD.new s at_) []).2.1.length ((Infl.run most ((RD.new s at_).left + 1) (RD.new s at_) []).2.1.map u8v)) mixed (by kernel_rfl) (fun w hw => ⟨CellIs.of hw mB rfl, CellIs.of hw mB rfl, WS.own hw mB⟩) ?_
  refine G.mv ?_
  first | refine G.np ?_ | refine G.q rfl rfl rfl rfl (q_nil_f rfl rfl) ?_
  first | refine G.q rfl rfl rfl rfl (q_field0 rfl rfl fo_112_1_F8) ?_ | refine G.q rfl rfl rfl rfl (q_field rfl rfl fo_112_1_F8) ?_
  refine G.loadC rfl rfl rfl rfl rfl rfl rfl ag_39_F8 (fun w h => h.2.1) ?_
  refine G.b2sC rfl rfl rfl rfl rfl rfl rfl bT_39_9_F8 (fun w h => h.2.2) ?_
  refine G.mv ?_
  first | refine G.np ?_ | refine G.q rfl rfl rfl rfl (q_nil_f rfl rfl) ?_
  first | refine G.q rfl rfl rfl rfl (q_field0 rfl rfl fo_112_0_F8) ?_ | refine G.q rfl rfl rfl rfl (q_field rfl rfl fo_112_0_F8) ?_
  refine G.loadC rfl rfl rfl rfl rfl rfl rfl ag_109_F8 (fun w h => h.1) ?_
  refine G.call (xs := [_]) rfl rfl (used_spec rb (Infl.run most ((RD.new s at_).left + 1) (RD.new s at_) []).1 hro) bd_68_F8 rfl rfl rfl rfl tK (fun _ _ _ w hR hw => by obtain ⟨_, rfl⟩ := hR; exact ⟨CellIs.of hw mB rfl, CellIs.of hw mB rfl, WS.own hw mB⟩) ?_
  rintro _ _ ⟨rfl, rfl⟩
  try dsimp only [List.cons_append, List.nil_append]
  refine G.as ?_
  refine G.as ?_
  refine G.as ?_
  refine G.nil ?_
  refine EN.sub (sC 6 (sC 7 (sC 8 Sub.nil))) ?_
  refine EN.then ?_
  refine CG.ret ?_
  rw [hE]
  unfold inflV
  try dsimp only
  exact fin_ret3 rfl rfl rfl rfl tK sF (⟨rfl, rfl⟩) _ (.inl rfl)

end Go.Eng
/-
  RFC 1950 (zlib): Head, Read, frame.
-/
set_option linter.unusedVariables false
set_option linter.unusedSimpArgs false
namespace Go.Eng
open Go.Proofs
theorem bd_14_F9 : bodied Tryd.prog 14 = true := by kernel_rfl
theorem bd_31_F9 : bodied Tryd.prog 31 = true := by kernel_rfl
theorem bd_43_F9 : bodied Tryd.prog 43 = true := by kernel_rfl
theorem bd_44_F9 : bodied Tryd.prog 44 = true := by kernel_rfl
theorem bd_45_F9 : bodied Tryd.prog 45 = true := by kernel_rfl
theorem ik_32_F9 : intK Tryd.prog 32 = some .u32 := by kernel_rfl
theorem ik_3_F9 : intK Tryd.prog 3 = some .i64 := by kernel_rfl
theorem ik_51_F9 : intK Tryd.prog 51 = some .u64 := by kernel_rfl
theorem is_32_F9 : (Tryd.prog.underlying 32).isSome = true := by kernel_rfl
theorem is_51_F9 : (Tryd.prog.underlying 51).isSome = true := by kernel_rfl
theorem is_5_F9 : (Tryd.prog.underlying 5).isSome = true := by kernel_rfl
theorem us_9_F9 : Tryd.prog.underlying 9 = some .string := by kernel_rfl

def zhead (c f : UInt8) : Bool := decide ((c.toNat : Int) % 16 = 8) && decide ((c.toNat : Int) / 16 ≤ 7) && decide (((c.toNat : Int) * 256 + f.toNat) % 31 = 0) && decide (bits .and .u8 (f.toNat : Int) 32 = 0)
theorem zhead_f {c f : UInt8} (h : ¬ ((c.toNat : Int) % 16 = 8 ∧ (c.toNat : Int) / 16 ≤ 7 ∧ ((c.toNat : Int) * 256 + f.toNat) % 31 = 0)) : false = zhead c f := by
  unfold zhead
  by_cases h1 : (c.toNat : Int) % 16 = 8
  · by_cases h2 : (c.toNat : Int) / 16 ≤ 7
    · rw [decide_eq_false (p := ((c.toNat : Int) * 256 + f.toNat) % 31 = 0) (fun h3 => h ⟨h1, h2, h3⟩)]; simp
    · rw [decide_eq_false h2]; simp
  · rw [decide_eq_false h1]; simp
theorem zhead_t {c f : UInt8} (h1 : (c.toNat : Int) % 16 = 8) (h2 : (c.toNat : Int) / 16 ≤ 7) (h3 : ((c.toNat : Int) * 256 + f.toNat) % 31 = 0) : decide (bits .and .u8 (f.toNat : Int) 32 = 0) = zhead c f := by
  unfold zhead; rw [decide_eq_true h1, decide_eq_true h2, decide_eq_true h3]; rfl
def zread (s : List UInt8) (at_ most : Nat) : List UInt8 × Nat × Nat :=
  if s.length < at_ + 2 then ([], 0, 6) else
  if zhead (s.getD at_ 0) (s.getD (at_ + 1) 0) = false then ([], 0, 3) else
  if (Infl.inflate s (at_ + 2) most).2.2 ≠ 0 then ([], 0, (Infl.inflate s (at_ + 2) most).2.2) else
  if s.length < at_ + 2 + (Infl.inflate s (at_ + 2) most).2.1 + 4 then ([], 0, 6) else
  if Sums.fromBig ((s.take (at_ + 2 + (Infl.inflate s (at_ + 2) most).2.1 + 4)).drop (at_ + 2 + (Infl.inflate s (at_ + 2) most).2.1)) ≠ Sums.adler (Infl.inflate s (at_ + 2) most).1 then ([], 0, 5) else
  ((Infl.inflate s (at_ + 2) most).1, (Infl.inflate s (at_ + 2) most).2.1 + 6, 0)
theorem infl_used (s : List UInt8) (hs : s.length ≤ 140737488351232) (at_ most : Nat) : (Infl.inflate s at_ most).2.1 ≤ 140737488351232 := by
  have := (Infl.run_okk most ((RD.new s at_).left + 1) (RD.new s at_) [] (RD.new_ok hs at_) (by simp)).1
  have h1 := this.pos
  have h2 := this.len
  unfold Infl.inflate
  dsimp only
  split
  · simp
  · simp only [RD.used]; omega
theorem zread_len (s : List UInt8) (hs : s.length ≤ 140737488351232) (at_ most : Nat) : (zread s at_ most).1.length ≤ most := by
  have := Infl.inflate_len s hs (at_ + 2) most
  unfold zread
  split
  · simp
  · split
    · simp
    · split
      · simp
      · split
        · simp
        · split
          · simp
          · exact this
attribute [local irreducible] Infl.inflate Sums.adler Sums.fromBig

set_option maxRecDepth 100000 in
set_option maxHeartbeats 1000000 in
theorem zhead_spec (c f : UInt8) : Spec Tryd.prog 43 #[.int .u8 c.toNat, .int .u8 f.toNat] [] (Ret fun v hl => v = .bool (zhead c f) ∧ hl = []) := by
 have hc := u8_lt c
 have hf := u8_lt f
 refine Spec.enter Tryd.func43 rfl rfl rfl (fun F w0 => ?_)
 dsimp only [argL, List.cons_append, List.nil_append]
 refine CG.sr ?_
 refine G.as ?_
 refine G.nil ?_
 refine EN.tsr ?_
 refine G.mv ?_
 first | refine G.q rfl rfl rfl rfl (q_andm (j := 4) (d := 16) rfl rfl rfl lOm lOm (by decide) (by decide) (by decide)) ?_ | refine G.q rfl rfl rfl rfl (q_and rfl rfl rfl) ?_
 refine G.q rfl rfl rfl rfl (q_eql rfl rfl rfl) ?_
 refine G.mv ?_
 refine G.split (t := 8) rfl (fun g8 => ?_) (fun g8 => ?_)
 ·
  refine G.mv ?_
  refine G.q rfl rfl rfl rfl (q_shrc (d := 16) rfl rfl rfl (by decide) (by decide)) ?_
  refine G.q rfl rfl rfl rfl (q_leq rfl rfl rfl) ?_
  refine G.q rfl rfl rfl rfl (q_pick_t rfl rfl rfl) ?_
  refine G.mv ?_
  refine G.split (t := 13) rfl (fun g13 => ?_) (fun g13 => ?_)
  ·
   refine G.mv ?_
   first | refine G.q rfl rfl rfl rfl (q_conv_in rfl rfl is_5_F9 ik_3_F9 (wrap64_in oM)) ?_ | refine G.q rfl rfl rfl rfl (q_conv rfl rfl is_5_F9 ik_3_F9) ?_
   first | refine G.q rfl rfl rfl rfl (q_shlcw (d := 256) rfl rfl rfl (by decide) (by decide) lOm lOm) ?_ | refine G.q rfl rfl rfl rfl (q_shlc (d := 256) rfl rfl rfl (by decide) (by decide)) ?_
   refine G.mv ?_
   first | refine G.q rfl rfl rfl rfl (q_conv_in rfl rfl is_5_F9 ik_3_F9 (wrap64_in oM)) ?_ | refine G.q rfl rfl rfl rfl (q_conv rfl rfl is_5_F9 ik_3_F9) ?_
   first | refine G.q rfl rfl rfl rfl (q_ord (j := 8) (d := 256) rfl rfl rfl (by decide) lOm lOm lOm (by decide)) ?_ | refine G.q rfl rfl rfl rfl (q_or rfl rfl rfl) ?_
   first | refine G.q rfl rfl rfl rfl (q_rem_n rfl rfl rfl oM) ?_ | refine G.q rfl rfl rfl rfl (q_rem rfl rfl rfl oM) ?_
   refine G.q rfl rfl rfl rfl (q_eql rfl rfl rfl) ?_
   refine G.q rfl rfl rfl rfl (q_pick_t rfl rfl rfl) ?_
   refine G.mv ?_
   refine G.split (t := 23) rfl (fun g23 => ?_) (fun g23 => ?_)
   ·
    refine G.mv ?_
    refine G.q rfl rfl rfl rfl (q_and rfl rfl rfl) ?_
    refine G.q rfl rfl rfl rfl (q_eql rfl rfl rfl) ?_
    refine G.q rfl rfl rfl rfl (q_pick_t rfl rfl rfl) ?_
    refine G.as ?_
    refine G.nil ?_
    refine EN.sub (sC 4 Sub.nil) ?_
    refine EN.then ?_
    refine CG.ret ?_
    first | have e := zhead_f (c := c) (f := f) oM | have e := zhead_t g8 g13 g23
    exact fin_ret1 rfl rfl tK sF (⟨congrArg Value.bool e, rfl⟩) _ (.inl rfl)
   ·
    refine G.skip rfl rfl rfl ?_
    refine G.skip rfl rfl rfl ?_
    refine G.skip rfl rfl rfl ?_
    refine G.q rfl rfl rfl rfl (q_pick_f rfl rfl rfl) ?_
    refine G.as ?_
    refine G.nil ?_
    refine EN.sub (sC 4 Sub.nil) ?_
    refine EN.then ?_
    refine CG.ret ?_
    first | have e := zhead_f (c := c) (f := f) oM | have e := zhead_t g8 g13 g23
    exact fin_ret1 rfl rfl tK sF (⟨congrArg Value.bool e, rfl⟩) _ (.inl rfl)
  ·
   refine G.skip rfl rfl rfl ?_
   refine G.skip rfl rfl rfl ?_
   refine G.skip rfl rfl rfl ?_
   refine G.skip rfl rfl rfl ?_
   refine G.skip rfl rfl rfl ?_
   refine G.skip rfl rfl rfl ?_
   refine G.skip rfl rfl rfl ?_
   refine G.skip rfl rfl rfl ?_
   refine G.q rfl rfl rfl rfl (q_pick_f rfl rfl rfl) ?_
   refine G.mv ?_
   refine G.skip rfl rfl rfl ?_
   refine G.skip rfl rfl rfl ?_
   refine G.skip rfl rfl rfl ?_
   refine G.q rfl rfl rfl rfl (q_pick_f rfl rfl rfl) ?_
   refine G.as ?_
   refine G.nil ?_
   refine EN.sub (sC 4 Sub.nil) ?_
   refine EN.then ?_
   refine CG.ret ?_
   first | have e := zhead_f (c := c) (f := f) oM | have e := zhead_t g8 g13 g23
   exact fin_ret1 rfl rfl tK sF (⟨congrArg Value.bool e, rfl⟩) _ (.inl rfl)
 ·
  refine G.skip rfl rfl rfl ?_
  refine G.skip rfl rfl rfl ?_
  refine G.skip rfl rfl rfl ?_
  refine G.q rfl rfl rfl rfl (q_pick_f rfl rfl rfl) ?_
  refine G.mv ?_
  refine G.skip rfl rfl rfl ?_
  refine G.skip rfl rfl rfl ?_
  refine G.skip rfl rfl rfl ?_
  refine G.skip rfl rfl rfl ?_
  refine G.skip rfl rfl rfl ?_
  refine G.skip rfl rfl rfl ?_
  refine G.skip rfl rfl rfl ?_
  refine G.skip rfl rfl rfl ?_
  refine G.q rfl rfl rfl rfl (q_pick_f rfl rfl rfl) ?_
  refine G.mv ?_
  refine G.skip rfl rfl rfl ?_
  refine G.skip rfl rfl rfl ?_
  refine G.skip rfl rfl rfl ?_
  refine G.q rfl rfl rfl rfl (q_pick_f rfl rfl rfl) ?_
  refine G.as ?_
  refine G.nil ?_
  refine EN.sub (sC 4 Sub.nil) ?_
  refine EN.then ?_
  refine CG.ret ?_
  first | have e := zhead_f (c := c) (f := f) oM | have e := zhead_t g8 g13 g23
  exact fin_ret1 rfl rfl tK sF (⟨congrArg Value.bool e, rfl⟩) _ (.inl rfl)

set_option maxRecDepth 100000 in
set_option maxHeartbeats 1000000 in
theorem zread_spec (s : List UInt8) (at_ most : Nat) (hs : s.length ≤ 140737488351232) (ha : at_ ≤ s.length) (hm : most ≤ 65536) : Spec Tryd.prog 27 #[str s, .int .i64 at_, .int .i64 most] [] (Ret fun v hl => v = inflV (zread s at_ most) ∧ hl = []) := by
 obtain ⟨Z, hZ⟩ : ∃ Z, zread s at_ most = Z := ⟨_, rfl⟩
 have hE := hZ
 rw [hZ]
 unfold zread at hE
 refine Spec.enter Tryd.func27 rfl rfl rfl (fun F w0 => ?_)
 dsimp only [argL, List.cons_append, List.nil_append]
 refine CG.sr ?_
 refine G.as ?_
 refine G.as ?_
 refine G.as ?_
 refine G.nil ?_
 refine EN.ts ?_
 refine CG.sr ?_
 refine G.mv ?_
 refine G.q rfl rfl rfl rfl (q_lss rfl rfl rfl) ?_
 refine G.mv ?_
 refine G.split (t := 15) rfl (fun g15 => absurd g15 oM) (fun g15 => ?_)
 refine G.mv ?_
 refine G.mv ?_
 refine G.q rfl rfl rfl rfl (q_len_str rfl rfl us_9_F9) ?_
 refine G.q rfl rfl rfl rfl (q_gtr rfl rfl rfl) ?_
 refine G.q rfl rfl rfl rfl (q_pick_f rfl rfl rfl) ?_
 refine G.mv ?_
 refine G.split (t := 21) rfl (fun g21 => absurd g21 oM) (fun g21 => ?_)
 refine G.mv ?_
 refine G.q rfl rfl rfl rfl (q_lss rfl rfl rfl) ?_
 refine G.q rfl rfl rfl rfl (q_pick_f rfl rfl rfl) ?_
 refine G.mv ?_
 refine G.split (t := 25) rfl (fun g25 => absurd g25 oM) (fun g25 => ?_)
 refine G.mv ?_
 refine G.q rfl rfl rfl rfl (q_gtr rfl rfl rfl) ?_
 refine G.q rfl rfl rfl rfl (q_pick_f rfl rfl rfl) ?_
 refine G.nil ?_
 refine EN.sub (sC 0 (sC 1 (sC 2 (sC 6 (sC 7 (sC 8 (sC 28 Sub.nil))))))) ?_
 refine EN.then ?_
 refine CG.cond rfl (fun h28 => absurd h28 oM) (fun h28 => ?_)
 refine CG.skip ?_
 refine EN.ts ?_
 refine CG.sr ?_
 refine G.mv ?_
 refine G.q rfl rfl rfl rfl (q_len_str rfl rfl us_9_F9) ?_
 refine G.mv ?_
 first | refine G.q rfl rfl rfl rfl (q_sub_i rfl rfl rfl oM) ?_ | refine G.q rfl rfl rfl rfl (q_sub rfl rfl rfl) ?_
 refine G.q rfl rfl rfl rfl (q_lss rfl rfl rfl) ?_
 refine G.nil ?_
 refine EN.then ?_
 refine CG.cond rfl (fun h33 => ?_) (fun h33 => ?_)
 ·
  rw [if_pos oM] at hE
  refine CG.sr ?_
  refine G.as ?_
  refine G.as ?_
  refine G.as ?_
  refine G.nil ?_
  refine EN.then ?_
  refine CG.ret ?_
  refine EN.then_ret ?_
  rw [← hE]
  try unfold inflV
  try dsimp only
  exact fin_ret3 rfl rfl rfl rfl tK sF (⟨rfl, rfl⟩) _ (.inl rfl)
 ·
  rw [if_neg oM] at hE
  have h0 := getD_u8 (S := s) (i := at_) oM
  have h1 := getD_u8 (S := s) (i := at_ + 1) oM
  have e1 : ((at_ : Int) + 1) = ((at_ + 1 : Nat) : Int) := by omega
  have e2 : ((at_ : Int) + 2) = ((at_ + 2 : Nat) : Int) := by omega
  have hu := infl_used s hs (at_ + 2) most
  obtain ⟨x, hx⟩ : ∃ x, Infl.inflate s (at_ + 2) most = x := ⟨_, rfl⟩
  have hxl := Infl.inflate_len s hs (at_ + 2) most
  rw [hx] at hE hu hxl
  refine CG.skip ?_
  refine EN.ts ?_
  refine CG.seq ?_
  refine CG.regT [] mixed (by kernel_rfl) ?_
  refine G.mv ?_
  refine G.mv ?_
  refine G.q rfl rfl rfl rfl (q_index rfl rfl rfl us_9_F9 (h0)) ?_
  refine G.mv ?_
  refine G.mv ?_
  first | refine G.q rfl rfl rfl rfl (q_add_i rfl rfl rfl oM) ?_ | refine G.q rfl rfl rfl rfl (q_add rfl rfl rfl) ?_
  rw [e1]
  refine G.q rfl rfl rfl rfl (q_index rfl rfl rfl us_9_F9 (h1)) ?_
  refine G.call (xs := [_, _]) rfl rfl (zhead_spec (s.getD at_ 0) (s.getD (at_ + 1) 0)) bd_43_F9 rfl rfl rfl rfl tK (fun _ _ _ _ _ _ => trivial) ?_
  rintro _ _ ⟨rfl, rfl⟩
  try dsimp only [List.cons_append, List.nil_append]
  refine G.q rfl rfl rfl rfl (q_not rfl rfl) ?_
  refine G.nil ?_
  refine EN.sub (sC 0 (sC 1 (sC 2 (sC 6 (sC 7 (sC 8 (sC 42 Sub.nil))))))) ?_
  refine EN.then ?_
  refine CG.condB rfl (fun h42 => ?_) (fun h42 => ?_)
  ·
   rw [if_pos (by simpa using h42)] at hE
   refine CG.sr ?_
   refine G.as ?_
   refine G.as ?_
   refine G.as ?_
   refine G.nil ?_
   refine EN.then ?_
   refine CG.ret ?_
   refine EN.then_ret ?_
   rw [← hE]
   try unfold inflV
   try dsimp only
   exact fin_ret3 rfl rfl rfl rfl tK sF (⟨rfl, rfl⟩) _ (.inl rfl)
  ·
   rw [if_neg (by simpa using h42)] at hE
   refine CG.skip ?_
   refine EN.tsr ?_
   refine G.mv ?_
   refine G.mv ?_
   first | refine G.q rfl rfl rfl rfl (q_add_i rfl rfl rfl oM) ?_ | refine G.q rfl rfl rfl rfl (q_add rfl rfl rfl) ?_
   refine G.mv ?_
   rw [e2]
   refine G.call (xs := [_, _, _]) rfl rfl (inflate_spec s (at_ + 2) most hs oM hm) bd_44_F9 rfl rfl rfl rfl tK (fun _ _ _ _ _ _ => trivial) ?_
   rintro _ _ ⟨rfl, rfl⟩
   rw [hx]
   unfold inflV
   try dsimp only [List.cons_append, List.nil_append]
   refine G.mv ?_
   refine G.q rfl rfl rfl rfl (q_extract rfl rfl rfl) ?_
   refine G.q rfl rfl rfl rfl (q_extract rfl rfl rfl) ?_
   refine G.q rfl rfl rfl rfl (q_extract rfl rfl rfl) ?_
   refine G.as ?_
   refine G.as ?_
   refine G.as ?_
   refine G.nil ?_
   refine EN.sub (sC 0 (sC 1 (sC 6 (sC 7 (sC 8 (sC 9 (sC 10 (sC 11 Sub.nil)))))))) ?_
   refine EN.ts ?_
   refine CG.sr ?_
   refine G.mv ?_
   refine G.q rfl rfl rfl rfl (q_neq rfl rfl rfl) ?_
   refine G.nil ?_
   refine EN.then ?_
   refine CG.cond rfl (fun h53 => ?_) (fun h53 => ?_)
   ·
    rw [if_pos oM] at hE
    refine CG.sr ?_
    refine G.mv ?_
    refine G.as ?_
    refine G.as ?_
    refine G.as ?_
    refine G.nil ?_
    refine EN.then ?_
    refine CG.ret ?_
    refine EN.then_ret ?_
    rw [← hE]
    try unfold inflV
    try dsimp only
    exact fin_ret3 rfl rfl rfl rfl tK sF (⟨rfl, rfl⟩) _ (.inl rfl)
   ·
    rw [if_neg oM] at hE
    refine CG.skip ?_
    refine EN.tsr ?_
    refine G.mv ?_
    first | refine G.q rfl rfl rfl rfl (q_add_i rfl rfl rfl oM) ?_ | refine G.q rfl rfl rfl rfl (q_add rfl rfl rfl) ?_
    refine G.mv ?_
    first | refine G.q rfl rfl rfl rfl (q_add_i rfl rfl rfl oM) ?_ | refine G.q rfl rfl rfl rfl (q_add rfl rfl rfl) ?_
    refine G.as ?_
    refine G.nil ?_
    refine EN.ts ?_
    refine CG.sr ?_
    refine G.mv ?_
    refine G.q rfl rfl rfl rfl (q_len_str rfl rfl us_9_F9) ?_
    refine G.mv ?_
    first | refine G.q rfl rfl rfl rfl (q_sub_i rfl rfl rfl oM) ?_ | refine G.q rfl rfl rfl rfl (q_sub rfl rfl rfl) ?_
    refine G.q rfl rfl rfl rfl (q_lss rfl rfl rfl) ?_
    refine G.nil ?_
    refine EN.sub (sC 0 (sC 6 (sC 7 (sC 8 (sC 9 (sC 10 (sC 12 (sC 63 Sub.nil)))))))) ?_
    refine EN.then ?_
    refine CG.cond rfl (fun h63 => ?_) (fun h63 => ?_)
    ·
     rw [if_pos oM] at hE
     refine CG.sr ?_
     refine G.as ?_
     refine G.as ?_
     refine G.as ?_
     refine G.nil ?_
     refine EN.then ?_
     refine CG.ret ?_
     refine EN.then_ret ?_
     rw [← hE]
     try unfold inflV
     try dsimp only
     exact fin_ret3 rfl rfl rfl rfl tK sF (⟨rfl, rfl⟩) _ (.inl rfl)
    ·
     rw [if_neg oM] at hE
     have e12 : ((at_ : Int) + 2 + x.2.1) = ((at_ + 2 + x.2.1 : Nat) : Int) := by omega
     have e67 : (((at_ + 2 + x.2.1 : Nat) : Int) + 4) = ((at_ + 2 + x.2.1 + 4 : Nat) : Int) := by omega
     have hb := Sums.fromBig_lt' (s := (s.take (at_ + 2 + x.2.1 + 4)).drop (at_ + 2 + x.2.1)) (j := 4) (by simp; omega)
     refine CG.skip ?_
     refine EN.ts ?_
     refine CG.sr ?_
     refine G.mv ?_
     refine G.mv ?_
     refine G.mv ?_
     first | refine G.q rfl rfl rfl rfl (q_add_i rfl rfl rfl oM) ?_ | refine G.q rfl rfl rfl rfl (q_add rfl rfl rfl) ?_
     rw [e12, e67]
     refine G.q rfl rfl rfl rfl (q_slice_lh rfl rfl rfl rfl us_9_F9 oM) ?_
     refine G.call (xs := [_]) rfl rfl (fromBig_spec _ (by simp; omega)) bd_31_F9 rfl rfl rfl rfl tK (fun _ _ _ _ _ _ => trivial) ?_
     rintro _ _ ⟨rfl, rfl⟩
     try dsimp only [List.cons_append, List.nil_append]
     first | refine G.q rfl rfl rfl rfl (q_conv_in rfl rfl is_51_F9 ik_32_F9 (wrapu_in (b := 32) rfl rfl oM)) ?_ | refine G.q rfl rfl rfl rfl (q_conv rfl rfl is_51_F9 ik_32_F9) ?_
     refine G.mv ?_
     refine G.call (xs := [_]) rfl rfl (adler_spec x.1 oM) bd_45_F9 rfl rfl rfl rfl tK (fun _ _ _ _ _ _ => trivial) ?_
     rintro _ _ ⟨rfl, rfl⟩
     try dsimp only [List.cons_append, List.nil_append]
     refine G.q rfl rfl rfl rfl (q_neq rfl rfl rfl) ?_
     refine G.nil ?_
     refine EN.sub (sC 6 (sC 7 (sC 8 (sC 9 (sC 10 (sC 73 Sub.nil)))))) ?_
     refine EN.then ?_
     refine CG.cond rfl (fun h73 => ?_) (fun h73 => ?_)
     ·
      rw [if_pos h73] at hE
      refine CG.sr ?_
      refine G.as ?_
      refine G.as ?_
      refine G.as ?_
      refine G.nil ?_
      refine EN.then ?_
      refine CG.ret ?_
      refine EN.then_ret ?_
      rw [← hE]
      try unfold inflV
      try dsimp only
      exact fin_ret3 rfl rfl rfl rfl tK sF (⟨rfl, rfl⟩) _ (.inl rfl)
     ·
      rw [if_neg h73] at hE
      refine CG.skip ?_
      refine EN.tsr ?_
      refine G.mv ?_
      refine G.mv ?_
      first | refine G.q rfl rfl rfl rfl (q_add_i rfl rfl rfl oM) ?_ | refine G.q rfl rfl rfl rfl (q_add rfl rfl rfl) ?_
      refine G.as ?_
      refine G.as ?_
      refine G.as ?_
      refine G.nil ?_
      refine EN.then ?_
      refine CG.ret ?_
      rw [← hE]
      try unfold inflV
      try dsimp only
      exact fin_ret3 rfl rfl rfl rfl tK sF (⟨rfl, rfl⟩) _ (.inl rfl)

set_option maxRecDepth 100000 in
set_option maxHeartbeats 1000000 in
theorem frame_spec (t s : List UInt8) (ht : t.length ≤ 1000000000) (hs : s.length ≤ 1000000000) : Spec Tryd.prog 33 #[str t, str s] [] (Ret fun v hl => v = str ([120, 1] ++ t ++ Sums.big (Sums.adler s) 4) ∧ hl = []) := by
 have ha := Sums.adler_lt s
 refine Spec.enter Tryd.func33 rfl rfl rfl (fun F w0 => ?_)
 dsimp only [argL, List.cons_append, List.nil_append]
 refine CG.sr ?_
 refine G.as ?_
 refine G.nil ?_
 refine EN.tsr ?_
 refine G.mv ?_
 refine G.q rfl rfl rfl rfl (q_add_s rfl rfl rfl (by simp; omega)) ?_
 refine G.mv ?_
 refine G.call (xs := [_]) rfl rfl (adler_spec s oM) bd_45_F9 rfl rfl rfl rfl tK (fun _ _ _ _ _ _ => trivial) ?_
 rintro _ _ ⟨rfl, rfl⟩
 try dsimp only [List.cons_append, List.nil_append]
 first | refine G.q rfl rfl rfl rfl (q_conv_in rfl rfl is_32_F9 ik_51_F9 (wrapu_in (b := 64) rfl rfl oM)) ?_ | refine G.q rfl rfl rfl rfl (q_conv rfl rfl is_32_F9 ik_51_F9) ?_
 refine G.call (xs := [_, _]) rfl rfl (big_spec (Sums.adler s) 4 oM oM) bd_14_F9 rfl rfl rfl rfl tK (fun _ _ _ _ _ _ => trivial) ?_
 rintro _ _ ⟨rfl, rfl⟩
 try dsimp only [List.cons_append, List.nil_append]
 refine G.q rfl rfl rfl rfl (q_add_s rfl rfl rfl (by simp [Sums.big]; omega)) ?_
 refine G.as ?_
 refine G.nil ?_
 refine EN.sub (sC 4 Sub.nil) ?_
 refine EN.then ?_
 refine CG.ret ?_
 exact fin_ret1 rfl rfl tK sF (⟨rfl, rfl⟩) _ (.inl rfl)

end Go.Eng
/-
  SHA-1: small functions, and the block.
-/
set_option linter.unusedVariables false
set_option linter.unusedSimpArgs false
namespace Go.Eng
open Go.Proofs
theorem ae_125_F10 : arrE Tryd.prog 125 = some (80, 32) := by kernel_rfl
theorem ag_125_F10 : aggB Tryd.prog 125 = some true := by kernel_rfl
theorem ag_32_F10 : aggB Tryd.prog 32 = some false := by kernel_rfl
theorem bd_75_F10 : bodied Tryd.prog 75 = true := by kernel_rfl
theorem bd_76_F10 : bodied Tryd.prog 76 = true := by kernel_rfl
theorem bs_77_5_all_F10 : ∀ (x0 : Int) (x1 : Int) (x2 : Int) (x3 : Int) (x4 : Int) (w : World), (Instr.buildSlice 77 5 [(0, .int .u32 x0), (1, .int .u32 x1), (2, .int .u32 x2), (3, .int .u32 x3), (4, .int .u32 x4)].toArray).run Tryd.prog w = .ok (.slice (some ⟨w.heap.size, 0, none⟩) 5 5) { w with heap := w.heap.push (.cells [.int .u32 x0, .int .u32 x1, .int .u32 x2, .int .u32 x3, .int .u32 x4].toArray 32) } := fun _ _ _ _ _ _ => by kernel_rfl
theorem ik_32_F10 : intK Tryd.prog 32 = some .u32 := by kernel_rfl
theorem ik_73_F10 : intK Tryd.prog 73 = some .u64 := by kernel_rfl
theorem is_3_F10 : (Tryd.prog.underlying 3).isSome = true := by kernel_rfl
theorem is_5_F10 : (Tryd.prog.underlying 5).isSome = true := by kernel_rfl
theorem se_77_F10 : sliceE Tryd.prog 77 = some 32 := by kernel_rfl
theorem sz_125_F10 : sizeB Tryd.prog 125 = some 80 := by kernel_rfl
theorem sz_32_F10 : sizeB Tryd.prog 32 = some 1 := by kernel_rfl
theorem us_9_F10 : Tryd.prog.underlying 9 = some .string := by kernel_rfl
theorem zl_125_F10 : zeroL Tryd.prog 125 = some [.int .u32 0, .int .u32 0, .int .u32 0, .int .u32 0, .int .u32 0, .int .u32 0, .int .u32 0, .int .u32 0, .int .u32 0, .int .u32 0, .int .u32 0, .int .u32 0, .int .u32 0, .int .u32 0, .int .u32 0, .int .u32 0, .int .u32 0, .int .u32 0, .int .u32 0, .int .u32 0, .int .u32 0, .int .u32 0, .int .u32 0, .int .u32 0, .int .u32 0, .int .u32 0, .int .u32 0, .int .u32 0, .int .u32 0, .int .u32 0, .int .u32 0, .int .u32 0, .int .u32 0, .int .u32 0, .int .u32 0, .int .u32 0, .int .u32 0, .int .u32 0, .int .u32 0, .int .u32 0, .int .u32 0, .int .u32 0, .int .u32 0, .int .u32 0, .int .u32 0, .int .u32 0, .int .u32 0, .int .u32 0, .int .u32 0, .int .u32 0, .int .u32 0, .int .u32 0, .int .u32 0, .int .u32 0, .int .u32 0, .int .u32 0, .int .u32 0, .int .u32 0, .int .u32 0, .int .u32 0, .int .u32 0, .int .u32 0, .int .u32 0, .int .u32 0, .int .u32 0, .int .u32 0, .int .u32 0, .int .u32 0, .int .u32 0, .int .u32 0, .int .u32 0, .int .u32 0, .int .u32 0, .int .u32 0, .int .u32 0, .int .u32 0, .int .u32 0, .int .u32 0, .int .u32 0, .int .u32 0] := by kernel_rfl

set_option maxRecDepth 100000 in
set_option maxHeartbeats 1000000 in
theorem rot_spec (x : Int) (n : Nat) (hn : 0 < n ∧ n < 32) : Spec Tryd.prog 76 #[.int .u32 x, .int .i64 n] [] (Ret fun v hl => v = .int .u32 (Sha.rot x n) ∧ hl = []) := by
 refine Spec.enter Tryd.func76 rfl rfl rfl (fun F w0 => ?_)
 dsimp only [argL, List.cons_append, List.nil_append]
 refine CG.sr ?_
 refine G.as ?_
 refine G.nil ?_
 refine EN.tsr ?_
 refine G.mv ?_
 first | refine G.q rfl rfl rfl rfl (q_conv_in rfl rfl is_3_F10 ik_73_F10 (wrapu_in (b := 64) rfl rfl oM)) ?_ | refine G.q rfl rfl rfl rfl (q_conv rfl rfl is_3_F10 ik_73_F10) ?_
 first | refine G.q rfl rfl rfl rfl (q_andm (j := 5) (d := 32) rfl rfl rfl lOm lOm (by decide) (by decide) (by decide)) ?_ | refine G.q rfl rfl rfl rfl (q_and rfl rfl rfl) ?_
 refine G.as ?_
 refine G.nil ?_
 refine EN.ts ?_
 rw [show ((n : Int) % 32) = n by omega]
 have e1 : min ((n : Int)).toNat IntKind.u32.bits = n := by simp only [IntKind.bits]; omega
 have e2 : min ((32 : Int) - n).toNat IntKind.u32.bits = 32 - n := by simp only [IntKind.bits]; omega
 refine CG.reg ?_
 refine G.mv ?_
 refine G.mv ?_
 refine G.q rfl rfl rfl rfl (q_shl rfl rfl rfl oM) ?_
 refine G.mv ?_
 refine G.mv ?_
 first | refine G.q rfl rfl rfl rfl (q_subw rfl rfl rfl lOm lOm) ?_ | refine G.q rfl rfl rfl rfl (q_sub rfl rfl rfl) ?_
 refine G.q rfl rfl rfl rfl (q_shr rfl rfl rfl oM) ?_
 first | refine G.q rfl rfl rfl rfl (q_ord (j := 8) (d := 256) rfl rfl rfl (by decide) lOm lOm lOm (by decide)) ?_ | refine G.q rfl rfl rfl rfl (q_or rfl rfl rfl) ?_
 refine G.as ?_
 refine G.nil ?_
 refine EN.sub (sC 4 Sub.nil) ?_
 refine EN.then ?_
 refine CG.ret ?_
 rw [e1, e2]
 exact fin_ret1 rfl rfl tK sF (⟨rfl, rfl⟩) _ (.inl rfl)

set_option maxRecDepth 100000 in
set_option maxHeartbeats 1000000 in
theorem word_spec (p : List UInt8) (k : Nat) (h : 4 * k + 4 ≤ p.length) : Spec Tryd.prog 75 #[str (p.drop (4 * k))] [] (Ret fun v hl => v = .int .u32 (Sha.word p k) ∧ hl = []) := by
 have g0 : (p.drop (4 * k))[0]? = some (p.getD (4 * k) 0) := by rw [List.getElem?_drop]; exact getD_u8 oM
 have g1 : (p.drop (4 * k))[1]? = some (p.getD (4 * k + 1) 0) := by rw [List.getElem?_drop]; exact getD_u8 oM
 have g2 : (p.drop (4 * k))[2]? = some (p.getD (4 * k + 2) 0) := by rw [List.getElem?_drop]; exact getD_u8 oM
 have g3 : (p.drop (4 * k))[3]? = some (p.getD (4 * k + 3) 0) := by rw [List.getElem?_drop]; exact getD_u8 oM
 have l0 := u8_lt (p.getD (4 * k) 0)
 have l1 := u8_lt (p.getD (4 * k + 1) 0)
 have l2 := u8_lt (p.getD (4 * k + 2) 0)
 have l3 := u8_lt (p.getD (4 * k + 3) 0)
 refine Spec.enter Tryd.func75 rfl rfl rfl (fun F w0 => ?_)
 dsimp only [argL, List.cons_append, List.nil_append]
 refine CG.sr ?_
 refine G.as ?_
 refine G.nil ?_
 refine EN.ts ?_
 refine CG.regT [5, 9, 14, 19] mixed (by kernel_rfl) ?_
 refine G.mv ?_
 refine G.q rfl rfl rfl rfl (q_index rfl rfl rfl us_9_F10 (g0)) ?_
 first | refine G.q rfl rfl rfl rfl (q_conv_in rfl rfl is_5_F10 ik_32_F10 (wrapu_in (b := 32) rfl rfl oM)) ?_ | refine G.q rfl rfl rfl rfl (q_conv rfl rfl is_5_F10 ik_32_F10) ?_
 first | refine G.q rfl rfl rfl rfl (q_shlcw (d := 16777216) rfl rfl rfl (by decide) (by decide) lOm lOm) ?_ | refine G.q rfl rfl rfl rfl (q_shlc (d := 16777216) rfl rfl rfl (by decide) (by decide)) ?_
 refine G.mv ?_
 refine G.q rfl rfl rfl rfl (q_index rfl rfl rfl us_9_F10 (g1)) ?_
 first | refine G.q rfl rfl rfl rfl (q_conv_in rfl rfl is_5_F10 ik_32_F10 (wrapu_in (b := 32) rfl rfl oM)) ?_ | refine G.q rfl rfl rfl rfl (q_conv rfl rfl is_5_F10 ik_32_F10) ?_
 first | refine G.q rfl rfl rfl rfl (q_shlcw (d := 65536) rfl rfl rfl (by decide) (by decide) lOm lOm) ?_ | refine G.q rfl rfl rfl rfl (q_shlc (d := 65536) rfl rfl rfl (by decide) (by decide)) ?_
 first | refine G.q rfl rfl rfl rfl (q_ord (j := 24) (d := 16777216) rfl rfl rfl (by decide) lOm lOm lOm (by decide)) ?_ | refine G.q rfl rfl rfl rfl (q_or rfl rfl rfl) ?_
 refine G.mv ?_
 refine G.q rfl rfl rfl rfl (q_index rfl rfl rfl us_9_F10 (g2)) ?_
 first | refine G.q rfl rfl rfl rfl (q_conv_in rfl rfl is_5_F10 ik_32_F10 (wrapu_in (b := 32) rfl rfl oM)) ?_ | refine G.q rfl rfl rfl rfl (q_conv rfl rfl is_5_F10 ik_32_F10) ?_
 first | refine G.q rfl rfl rfl rfl (q_shlcw (d := 256) rfl rfl rfl (by decide) (by decide) lOm lOm) ?_ | refine G.q rfl rfl rfl rfl (q_shlc (d := 256) rfl rfl rfl (by decide) (by decide)) ?_
 first | refine G.q rfl rfl rfl rfl (q_ord (j := 16) (d := 65536) rfl rfl rfl (by decide) lOm lOm lOm (by decide)) ?_ | refine G.q rfl rfl rfl rfl (q_or rfl rfl rfl) ?_
 refine G.mv ?_
 refine G.q rfl rfl rfl rfl (q_index rfl rfl rfl us_9_F10 (g3)) ?_
 first | refine G.q rfl rfl rfl rfl (q_conv_in rfl rfl is_5_F10 ik_32_F10 (wrapu_in (b := 32) rfl rfl oM)) ?_ | refine G.q rfl rfl rfl rfl (q_conv rfl rfl is_5_F10 ik_32_F10) ?_
 first | refine G.q rfl rfl rfl rfl (q_ord (j := 8) (d := 256) rfl rfl rfl (by decide) lOm lOm lOm (by decide)) ?_ | refine G.q rfl rfl rfl rfl (q_or rfl rfl rfl) ?_
 refine G.as ?_
 refine G.nil ?_
 refine EN.sub (sC 2 Sub.nil) ?_
 refine EN.then ?_
 refine CG.ret ?_
 exact fin_ret1 rfl rfl tK sF (⟨rfl, rfl⟩) _ (.inl rfl)

set_option maxRecDepth 100000 in
set_option maxHeartbeats 1000000 in
theorem start1_spec : Spec Tryd.prog 63 #[] [] (Ret fun v hl => ∃ b, v = .slice (some ⟨b, 0, none⟩) 5 5 ∧ hl = [cel b 32 (Sha.cells Sha.start1)]) := by
 refine Spec.enter Tryd.func63 rfl rfl rfl (fun F w0 => ?_)
 dsimp only [argL, List.cons_append, List.nil_append]
 refine CG.sr ?_
 refine G.as ?_
 refine G.nil ?_
 refine EN.tsr ?_
 refine G.e rfl rfl rfl rfl (e_bslice rfl rfl (bs_77_5_all_F10 _ _ _ _ _)) (fun _ _ _ _ _ _ => trivial) ?_
 rintro _ _ ⟨b1, rfl, rfl⟩
 refine G.as ?_
 refine G.nil ?_
 refine EN.then ?_
 refine CG.ret ?_
 exact fin_ret1 rfl rfl tK sF (⟨b1, rfl, rfl⟩) _ (.inl rfl)

set_option maxRecDepth 100000 in
set_option maxHeartbeats 1000000 in
theorem block1_spec (g cc U : Nat) (h : Sha.S5) (rest : List Value) (p : List UInt8) (hp : p.length = 64) : Spec Tryd.prog 64 #[.slice (some ⟨g, 0, none⟩) 5 cc, str p] [cel g U (Sha.cells h ++ rest)] (Ret fun v hl => v = .tuple #[] ∧ hl = [cel g U (Sha.cells (Sha.block h p) ++ rest)]) := by
 obtain ⟨a, b, c, d, e⟩ := h
 rw [show Sha.cells ⟨a, b, c, d, e⟩ ++ rest = .int .u32 a :: .int .u32 b :: .int .u32 c :: .int .u32 d :: .int .u32 e :: rest from rfl]
 refine Spec.enter Tryd.func64 rfl rfl rfl (fun F w0 => ?_)
 dsimp only [argL, List.cons_append, List.nil_append]
 refine CG.sr ?_
 refine G.e rfl rfl rfl rfl (e_alloc rfl zl_125_F10) (fun _ _ _ _ _ _ => trivial) ?_
 rintro _ _ ⟨b4, rfl, rfl⟩
 refine G.nil ?_
 refine EN.ts ?_
 refine CG.sr ?_
 refine G.mv ?_
 refine G.nil ?_
 refine EN.then ?_
 refine CG.block ?_
 refine CG.loopI (fun m L H => ∃ k : Nat, k ≤ 80 ∧ m = (80) - k ∧ L = [(0, .slice (some ⟨g, 0, none⟩) 5 cc), (1, str p), (4, .pointer (some ⟨b4, 0, none⟩)), (15, .int .i64 k)] ∧ H = [cel b4 125 (Sha.arrC p k), cel g U (.int .u32 a :: .int .u32 b :: .int .u32 c :: .int .u32 d :: .int .u32 e :: rest)] ++ F) ((80) - 0) (hl := [_, _]) (⟨0, Nat.zero_le _, rfl, rfl, rfl⟩) sB rfl tK sF ?_
 rintro m L H ⟨k, hk, rfl, rfl, rfl⟩
 try dsimp only [List.cons_append, List.nil_append]
 refine CG.sr ?_
 refine G.q rfl rfl rfl rfl (q_lss rfl rfl rfl) ?_
 refine G.nil ?_
 refine EN.ts ?_
 refine CG.cond rfl (fun h16 => ?_) (fun h16 => ?_)
 ·
  have hk2 : k < 80 := by omega
  have e4k : ((4 : Int) * k) = ((4 * k : Nat) : Int) := by omega
  refine CG.skip ?_
  refine EN.ts ?_
  refine CG.block ?_
  refine CG.sr ?_
  refine G.mv ?_
  refine G.as ?_
  refine G.nil ?_
  refine EN.tsr ?_
  refine G.mv ?_
  refine G.q rfl rfl rfl rfl (q_lss rfl rfl rfl) ?_
  refine G.nil ?_
  refine EN.then ?_
  refine CG.cond rfl (fun h19 => ?_) (fun h19 => ?_)
  ·
   refine CG.reg ?_
   refine G.mv ?_
   refine G.mv ?_
   refine G.mv ?_
   first | refine G.q rfl rfl rfl rfl (q_mul_i rfl rfl rfl oM) ?_ | refine G.q rfl rfl rfl rfl (q_mul rfl rfl rfl) ?_
   rw [e4k]
   refine G.q rfl rfl rfl rfl (q_slice_lo rfl rfl rfl us_9_F10 oM) ?_
   refine G.call (xs := [_]) rfl rfl (word_spec p k oM) bd_75_F10 rfl rfl rfl rfl tK (fun _ _ _ _ _ _ => trivial) ?_
   rintro _ _ ⟨rfl, rfl⟩
   try dsimp only [List.cons_append, List.nil_append]
   refine G.q rfl rfl rfl rfl (q_ixarr rfl rfl rfl ae_125_F10 sz_32_F10 oM) ?_
   first | refine G.e0 rfl rfl rfl (e_store rfl rfl rfl sz_32_F10 rfl (Sha.arr_set p hk2 (if_pos oM)) .here) (fun _ _ _ _ _ _ => trivial) ?_ | refine G.e0 rfl rfl rfl (e_store rfl rfl rfl sz_32_F10 rfl (Sha.arr_set p hk2 (if_pos oM)) (.there .here)) (fun _ _ _ _ _ _ => trivial) ?_ | refine G.e0 rfl rfl rfl (e_store rfl rfl rfl sz_32_F10 rfl (Sha.arr_set p hk2 (if_pos oM)) (.there (.there .here))) (fun _ _ _ _ _ _ => trivial) ?_ | refine G.e0 rfl rfl rfl (e_store rfl rfl rfl sz_32_F10 rfl (Sha.arr_set p hk2 (if_pos oM)) (.there (.there (.there .here)))) (fun _ _ _ _ _ _ => trivial) ?_ | refine G.e0 rfl rfl rfl (e_store rfl rfl rfl sz_32_F10 rfl (Sha.arr_set p hk2 (if_pos oM)) (.there (.there (.there (.there .here))))) (fun _ _ _ _ _ _ => trivial) ?_
   rintro _ _ ⟨rfl, rfl⟩
   refine G.nil ?_
   refine EN.sub (sC 0 (sC 1 (sC 4 (sC 15 Sub.nil)))) ?_
   refine EN.in_normal ?_
   refine EN.tr ?_
   first | refine G.q rfl rfl rfl rfl (q_add_i rfl rfl rfl oM) ?_ | refine G.q rfl rfl rfl rfl (q_add rfl rfl rfl) ?_
   refine G.mv ?_
   refine G.nil ?_
   exact EN.round (hl := [_, _]) ((80) - (k + 1)) oM (⟨k + 1, by omega, rfl, rfl, rfl⟩) sB rfl tK sF
  ·
   have e3 : ((k : Int) - 3) = ((k - 3 : Nat) : Int) := by omega
   have e8 : ((k : Int) - 8) = ((k - 8 : Nat) : Int) := by omega
   have e14 : ((k : Int) - 14) = ((k - 14 : Nat) : Int) := by omega
   have e16 : ((k : Int) - 16) = ((k - 16 : Nat) : Int) := by omega
   refine CG.regT [] mixed (by kernel_rfl) ?_
   refine G.mv ?_
   refine G.mv ?_
   first | refine G.q rfl rfl rfl rfl (q_sub_i rfl rfl rfl oM) ?_ | refine G.q rfl rfl rfl rfl (q_sub rfl rfl rfl) ?_
   rw [e3]
   refine G.q rfl rfl rfl rfl (q_ixarr rfl rfl rfl ae_125_F10 sz_32_F10 oM) ?_
   first | refine G.r rfl rfl rfl rfl (r_load rfl rfl ag_32_F10 .here (Sha.arr_nth p oM)) ?_ | refine G.r rfl rfl rfl rfl (r_load rfl rfl ag_32_F10 (.there .here) (Sha.arr_nth p oM)) ?_ | refine G.r rfl rfl rfl rfl (r_load rfl rfl ag_32_F10 (.there (.there .here)) (Sha.arr_nth p oM)) ?_ | refine G.r rfl rfl rfl rfl (r_load rfl rfl ag_32_F10 (.there (.there (.there .here))) (Sha.arr_nth p oM)) ?_ | refine G.r rfl rfl rfl rfl (r_load rfl rfl ag_32_F10 (.there (.there (.there (.there .here)))) (Sha.arr_nth p oM)) ?_
   refine G.mv ?_
   first | refine G.q rfl rfl rfl rfl (q_sub_i rfl rfl rfl oM) ?_ | refine G.q rfl rfl rfl rfl (q_sub rfl rfl rfl) ?_
   rw [e8]
   refine G.q rfl rfl rfl rfl (q_ixarr rfl rfl rfl ae_125_F10 sz_32_F10 oM) ?_
   first | refine G.r rfl rfl rfl rfl (r_load rfl rfl ag_32_F10 .here (Sha.arr_nth p oM)) ?_ | refine G.r rfl rfl rfl rfl (r_load rfl rfl ag_32_F10 (.there .here) (Sha.arr_nth p oM)) ?_ | refine G.r rfl rfl rfl rfl (r_load rfl rfl ag_32_F10 (.there (.there .here)) (Sha.arr_nth p oM)) ?_ | refine G.r rfl rfl rfl rfl (r_load rfl rfl ag_32_F10 (.there (.there (.there .here))) (Sha.arr_nth p oM)) ?_ | refine G.r rfl rfl rfl rfl (r_load rfl rfl ag_32_F10 (.there (.there (.there (.there .here)))) (Sha.arr_nth p oM)) ?_
   refine G.q rfl rfl rfl rfl (q_xor rfl rfl rfl) ?_
   refine G.mv ?_
   first | refine G.q rfl rfl rfl rfl (q_sub_i rfl rfl rfl oM) ?_ | refine G.q rfl rfl rfl rfl (q_sub rfl rfl rfl) ?_
   rw [e14]
   refine G.q rfl rfl rfl rfl (q_ixarr rfl rfl rfl ae_125_F10 sz_32_F10 oM) ?_
   first | refine G.r rfl rfl rfl rfl (r_load rfl rfl ag_32_F10 .here (Sha.arr_nth p oM)) ?_ | refine G.r rfl rfl rfl rfl (r_load rfl rfl ag_32_F10 (.there .here) (Sha.arr_nth p oM)) ?_ | refine G.r rfl rfl rfl rfl (r_load rfl rfl ag_32_F10 (.there (.there .here)) (Sha.arr_nth p oM)) ?_ | refine G.r rfl rfl rfl rfl (r_load rfl rfl ag_32_F10 (.there (.there (.there .here))) (Sha.arr_nth p oM)) ?_ | refine G.r rfl rfl rfl rfl (r_load rfl rfl ag_32_F10 (.there (.there (.there (.there .here)))) (Sha.arr_nth p oM)) ?_
   refine G.q rfl rfl rfl rfl (q_xor rfl rfl rfl) ?_
   refine G.mv ?_
   first | refine G.q rfl rfl rfl rfl (q_sub_i rfl rfl rfl oM) ?_ | refine G.q rfl rfl rfl rfl (q_sub rfl rfl rfl) ?_
   rw [e16]
   refine G.q rfl rfl rfl rfl (q_ixarr rfl rfl rfl ae_125_F10 sz_32_F10 oM) ?_
   first | refine G.r rfl rfl rfl rfl (r_load rfl rfl ag_32_F10 .here (Sha.arr_nth p oM)) ?_ | refine G.r rfl rfl rfl rfl (r_load rfl rfl ag_32_F10 (.there .here) (Sha.arr_nth p oM)) ?_ | refine G.r rfl rfl rfl rfl (r_load rfl rfl ag_32_F10 (.there (.there .here)) (Sha.arr_nth p oM)) ?_ | refine G.r rfl rfl rfl rfl (r_load rfl rfl ag_32_F10 (.there (.there (.there .here))) (Sha.arr_nth p oM)) ?_ | refine G.r rfl rfl rfl rfl (r_load rfl rfl ag_32_F10 (.there (.there (.there (.there .here)))) (Sha.arr_nth p oM)) ?_
   refine G.q rfl rfl rfl rfl (q_xor rfl rfl rfl) ?_
   refine G.call (xs := [_, _]) rfl rfl (rot_spec _ 1 oM) bd_76_F10 rfl rfl rfl rfl tK (fun _ _ _ _ _ _ => trivial) ?_
   rintro _ _ ⟨rfl, rfl⟩
   try dsimp only [List.cons_append, List.nil_append]
   refine G.q rfl rfl rfl rfl (q_ixarr rfl rfl rfl ae_125_F10 sz_32_F10 oM) ?_
   first | refine G.e0 rfl rfl rfl (e_store rfl rfl rfl sz_32_F10 rfl (Sha.arr_set p hk2 (if_neg oM)) .here) (fun _ _ _ _ _ _ => trivial) ?_ | refine G.e0 rfl rfl rfl (e_store rfl rfl rfl sz_32_F10 rfl (Sha.arr_set p hk2 (if_neg oM)) (.there .here)) (fun _ _ _ _ _ _ => trivial) ?_ | refine G.e0 rfl rfl rfl (e_store rfl rfl rfl sz_32_F10 rfl (Sha.arr_set p hk2 (if_neg oM)) (.there (.there .here))) (fun _ _ _ _ _ _ => trivial) ?_ | refine G.e0 rfl rfl rfl (e_store rfl rfl rfl sz_32_F10 rfl (Sha.arr_set p hk2 (if_neg oM)) (.there (.there (.there .here)))) (fun _ _ _ _ _ _ => trivial) ?_ | refine G.e0 rfl rfl rfl (e_store rfl rfl rfl sz_32_F10 rfl (Sha.arr_set p hk2 (if_neg oM)) (.there (.there (.there (.there .here))))) (fun _ _ _ _ _ _ => trivial) ?_
   rintro _ _ ⟨rfl, rfl⟩
   refine G.nil ?_
   refine EN.sub (sC 0 (sC 1 (sC 4 (sC 15 Sub.nil)))) ?_
   refine EN.in_normal ?_
   refine EN.tr ?_
   first | refine G.q rfl rfl rfl rfl (q_add_i rfl rfl rfl oM) ?_ | refine G.q rfl rfl rfl rfl (q_add rfl rfl rfl) ?_
   refine G.mv ?_
   refine G.nil ?_
   exact EN.round (hl := [_, _]) ((80) - (k + 1)) oM (⟨k + 1, by omega, rfl, rfl, rfl⟩) sB rfl tK sF
 ·
  obtain rfl : k = 80 := by omega
  refine CG.exit ?_
  refine EN.then_exit ?_
  refine EN.then_exit ?_
  refine EN.in_here ?_
  refine EN.ts ?_
  refine CG.regT [] mixed (by kernel_rfl) ?_
  refine G.mv ?_
  first | refine G.q rfl rfl rfl rfl (q_ixaddr1 rfl rfl rfl se_77_F10 sz_32_F10 (by decide)) ?_ | refine G.q rfl rfl rfl rfl (q_ixaddr rfl rfl rfl se_77_F10 sz_32_F10 (by decide)) ?_
  refine G.ld ag_32_F10 ?_
  refine G.mv ?_
  first | refine G.q rfl rfl rfl rfl (q_ixaddr1 rfl rfl rfl se_77_F10 sz_32_F10 (by decide)) ?_ | refine G.q rfl rfl rfl rfl (q_ixaddr rfl rfl rfl se_77_F10 sz_32_F10 (by decide)) ?_
  refine G.ld ag_32_F10 ?_
  refine G.mv ?_
  first | refine G.q rfl rfl rfl rfl (q_ixaddr1 rfl rfl rfl se_77_F10 sz_32_F10 (by decide)) ?_ | refine G.q rfl rfl rfl rfl (q_ixaddr rfl rfl rfl se_77_F10 sz_32_F10 (by decide)) ?_
  refine G.ld ag_32_F10 ?_
  refine G.mv ?_
  first | refine G.q rfl rfl rfl rfl (q_ixaddr1 rfl rfl rfl se_77_F10 sz_32_F10 (by decide)) ?_ | refine G.q rfl rfl rfl rfl (q_ixaddr rfl rfl rfl se_77_F10 sz_32_F10 (by decide)) ?_
  refine G.ld ag_32_F10 ?_
  refine G.mv ?_
  first | refine G.q rfl rfl rfl rfl (q_ixaddr1 rfl rfl rfl se_77_F10 sz_32_F10 (by decide)) ?_ | refine G.q rfl rfl rfl rfl (q_ixaddr rfl rfl rfl se_77_F10 sz_32_F10 (by decide)) ?_
  refine G.ld ag_32_F10 ?_
  refine G.as ?_
  refine G.as ?_
  refine G.as ?_
  refine G.as ?_
  refine G.as ?_
  refine G.nil ?_
  refine EN.sub (sC 0 (sC 4 (sC 6 (sC 7 (sC 8 (sC 9 (sC 10 Sub.nil))))))) ?_
  refine EN.ts ?_
  refine CG.sr ?_
  first | refine G.r rfl rfl rfl rfl (r_loadall rfl rfl ag_125_F10 .here (by rw [Sha.arr_len p oM]; exact sz_125_F10)) ?_ | refine G.r rfl rfl rfl rfl (r_loadall rfl rfl ag_125_F10 (.there .here) (by rw [Sha.arr_len p oM]; exact sz_125_F10)) ?_
  refine G.mv ?_
  refine G.nil ?_
  refine EN.then ?_
  refine CG.block ?_
  refine CG.loopI (fun m L H => ∃ k : Nat, k ≤ 80 ∧ m = (80) - k ∧ L = [(0, .slice (some ⟨g, 0, none⟩) 5 cc), (6, .int .u32 (Sha.comp (Sha.sched p 80) ⟨a, b, c, d, e⟩ k).a), (7, .int .u32 (Sha.comp (Sha.sched p 80) ⟨a, b, c, d, e⟩ k).b), (8, .int .u32 (Sha.comp (Sha.sched p 80) ⟨a, b, c, d, e⟩ k).c), (9, .int .u32 (Sha.comp (Sha.sched p 80) ⟨a, b, c, d, e⟩ k).d), (10, .int .u32 (Sha.comp (Sha.sched p 80) ⟨a, b, c, d, e⟩ k).e), (65, .agg (Sha.arrC p 80).toArray), (66, .int .i64 k)] ∧ H = [cel g U (.int .u32 a :: .int .u32 b :: .int .u32 c :: .int .u32 d :: .int .u32 e :: rest)] ++ F) ((80) - 0) (hl := [_]) (⟨0, Nat.zero_le _, rfl, rfl, rfl⟩) sB rfl tK sF ?_
  rintro m L H ⟨k, hk, rfl, rfl, rfl⟩
  try dsimp only [List.cons_append, List.nil_append]
  refine CG.sr ?_
  refine G.q rfl rfl rfl rfl (q_lss rfl rfl rfl) ?_
  refine G.nil ?_
  refine EN.ts ?_
  refine CG.cond rfl (fun h67 => ?_) (fun h67 => ?_)
  ·
   have hk2 : k < 80 := by omega
   refine CG.skip ?_
   refine EN.ts ?_
   refine CG.block ?_
   refine CG.sr ?_
   refine G.mv ?_
   refine G.q rfl rfl rfl rfl (q_ixagg rfl rfl rfl ae_125_F10 sz_32_F10 ag_32_F10 oM (Sha.arr_get p hk2)) ?_
   refine G.as ?_
   refine G.as ?_
   refine G.nil ?_
   refine EN.tsr ?_
   refine G.mv ?_
   refine G.mv ?_
   refine G.q rfl rfl rfl rfl (q_xor rfl rfl rfl) ?_
   refine G.mv ?_
   refine G.q rfl rfl rfl rfl (q_xor rfl rfl rfl) ?_
   refine G.as ?_
   refine G.as ?_
   refine G.nil ?_
   refine EN.then ?_
   refine CG.cut (fun L H => ∃ f kk : Int, Sha.fk k (Sha.comp (Sha.sched p 80) ⟨a, b, c, d, e⟩ k).b (Sha.comp (Sha.sched p 80) ⟨a, b, c, d, e⟩ k).c (Sha.comp (Sha.sched p 80) ⟨a, b, c, d, e⟩ k).d = (f, kk) ∧ L = [(0, .slice (some ⟨g, 0, none⟩) 5 cc), (6, .int .u32 (Sha.comp (Sha.sched p 80) ⟨a, b, c, d, e⟩ k).a), (7, .int .u32 (Sha.comp (Sha.sched p 80) ⟨a, b, c, d, e⟩ k).b), (8, .int .u32 (Sha.comp (Sha.sched p 80) ⟨a, b, c, d, e⟩ k).c), (9, .int .u32 (Sha.comp (Sha.sched p 80) ⟨a, b, c, d, e⟩ k).d), (10, .int .u32 (Sha.comp (Sha.sched p 80) ⟨a, b, c, d, e⟩ k).e), (65, .agg (Sha.arrC p 80).toArray), (66, .int .i64 k), (12, .int .u32 ((Sha.sched p 80).getD k 0)), (13, .int .u32 f), (14, .int .u32 kk)] ∧ H = [cel g U (.int .u32 a :: .int .u32 b :: .int .u32 c :: .int .u32 d :: .int .u32 e :: rest)] ++ F) ?_ ?_
   ·
    refine CG.sr ?_
    refine G.mv ?_
    first | refine G.q rfl rfl rfl rfl (q_quo_i rfl rfl rfl oM) ?_ | refine G.q rfl rfl rfl rfl (q_quo rfl rfl rfl oM) ?_
    refine G.nil ?_
    refine EN.sub (sC 0 (sC 6 (sC 7 (sC 8 (sC 9 (sC 10 (sC 12 (sC 13 (sC 14 (sC 65 (sC 66 (sC 76 Sub.nil)))))))))))) ?_
    refine EN.then ?_
    refine CG.block ?_
    refine CG.sr ?_
    refine G.q rfl rfl rfl rfl (q_eql rfl rfl rfl) ?_
    refine G.as ?_
    refine G.nil ?_
    refine EN.then ?_
    refine CG.cond rfl (fun h77 => ?_) (fun h77 => ?_)
    ·
     have hfk := Sha.fk0 (i := k) (b := (Sha.comp (Sha.sched p 80) ⟨a, b, c, d, e⟩ k).b) (c := (Sha.comp (Sha.sched p 80) ⟨a, b, c, d, e⟩ k).c) (d := (Sha.comp (Sha.sched p 80) ⟨a, b, c, d, e⟩ k).d) oM
     refine CG.reg ?_
     refine G.mv ?_
     refine G.mv ?_
     refine G.q rfl rfl rfl rfl (q_and rfl rfl rfl) ?_
     refine G.mv ?_
     refine G.q rfl rfl rfl rfl (q_com rfl rfl) ?_
     refine G.mv ?_
     refine G.q rfl rfl rfl rfl (q_and rfl rfl rfl) ?_
     first | refine G.q rfl rfl rfl rfl (q_ord (j := 8) (d := 256) rfl rfl rfl (by decide) lOm lOm lOm (by decide)) ?_ | refine G.q rfl rfl rfl rfl (q_or rfl rfl rfl) ?_
     refine G.as ?_
     refine G.as ?_
     refine G.nil ?_
     refine EN.sub (sC 0 (sC 6 (sC 7 (sC 8 (sC 9 (sC 10 (sC 12 (sC 13 (sC 14 (sC 65 (sC 66 Sub.nil))))))))))) ?_
     refine EN.in_normal ?_
     exact EN.cut (hl := [_]) (⟨_, _, hfk, rfl, rfl⟩) sB rfl tK sF
    ·
     refine CG.sr ?_
     refine G.q rfl rfl rfl rfl (q_eql rfl rfl rfl) ?_
     refine G.as ?_
     refine G.nil ?_
     refine EN.then ?_
     refine CG.cond rfl (fun h87 => ?_) (fun h87 => ?_)
     ·
      have hfk := Sha.fk1 (i := k) (b := (Sha.comp (Sha.sched p 80) ⟨a, b, c, d, e⟩ k).b) (c := (Sha.comp (Sha.sched p 80) ⟨a, b, c, d, e⟩ k).c) (d := (Sha.comp (Sha.sched p 80) ⟨a, b, c, d, e⟩ k).d) oM
      refine CG.reg ?_
      refine G.as ?_
      refine G.nil ?_
      refine EN.in_normal ?_
      exact EN.cut (hl := [_]) (⟨_, _, hfk, rfl, rfl⟩) sB rfl tK sF
     ·
      refine CG.sr ?_
      refine G.q rfl rfl rfl rfl (q_eql rfl rfl rfl) ?_
      refine G.as ?_
      refine G.nil ?_
      refine EN.then ?_
      refine CG.cond rfl (fun h89 => ?_) (fun h89 => ?_)
      ·
       have hfk := Sha.fk2 (i := k) (b := (Sha.comp (Sha.sched p 80) ⟨a, b, c, d, e⟩ k).b) (c := (Sha.comp (Sha.sched p 80) ⟨a, b, c, d, e⟩ k).c) (d := (Sha.comp (Sha.sched p 80) ⟨a, b, c, d, e⟩ k).d) oM
       refine CG.reg ?_
       refine G.mv ?_
       refine G.mv ?_
       refine G.q rfl rfl rfl rfl (q_and rfl rfl rfl) ?_
       refine G.mv ?_
       refine G.mv ?_
       refine G.q rfl rfl rfl rfl (q_and rfl rfl rfl) ?_
       first | refine G.q rfl rfl rfl rfl (q_ord (j := 8) (d := 256) rfl rfl rfl (by decide) lOm lOm lOm (by decide)) ?_ | refine G.q rfl rfl rfl rfl (q_or rfl rfl rfl) ?_
       refine G.mv ?_
       refine G.mv ?_
       refine G.q rfl rfl rfl rfl (q_and rfl rfl rfl) ?_
       first | refine G.q rfl rfl rfl rfl (q_ord (j := 8) (d := 256) rfl rfl rfl (by decide) lOm lOm lOm (by decide)) ?_ | refine G.q rfl rfl rfl rfl (q_or rfl rfl rfl) ?_
       refine G.as ?_
       refine G.as ?_
       refine G.nil ?_
       refine EN.sub (sC 0 (sC 6 (sC 7 (sC 8 (sC 9 (sC 10 (sC 12 (sC 13 (sC 14 (sC 65 (sC 66 Sub.nil))))))))))) ?_
       refine EN.in_normal ?_
       exact EN.cut (hl := [_]) (⟨_, _, hfk, rfl, rfl⟩) sB rfl tK sF
      ·
       have hfk := Sha.fk3 (i := k) (b := (Sha.comp (Sha.sched p 80) ⟨a, b, c, d, e⟩ k).b) (c := (Sha.comp (Sha.sched p 80) ⟨a, b, c, d, e⟩ k).c) (d := (Sha.comp (Sha.sched p 80) ⟨a, b, c, d, e⟩ k).d) oM
       refine CG.skip ?_
       refine EN.in_normal ?_
       exact EN.cut (hl := [_]) (⟨_, _, hfk, rfl, rfl⟩) sB rfl tK sF
   ·
    rintro L H ⟨f, kk, hfk, rfl, rfl⟩
    try dsimp only [List.cons_append, List.nil_append]
    have hA : IntKind.u32.wrap (IntKind.u32.wrap (IntKind.u32.wrap (IntKind.u32.wrap (Sha.rot (Sha.comp (Sha.sched p 80) ⟨a, b, c, d, e⟩ k).a 5 + f) + (Sha.comp (Sha.sched p 80) ⟨a, b, c, d, e⟩ k).e) + kk) + (Sha.sched p 80).getD k 0) = (Sha.comp (Sha.sched p 80) ⟨a, b, c, d, e⟩ (k + 1)).a := by
      rw [Sha.comp]; unfold Sha.step; rw [hfk]; rfl
    refine CG.reg ?_
    refine G.mv ?_
    refine G.call (xs := [_, _]) rfl rfl (rot_spec _ 5 oM) bd_76_F10 rfl rfl rfl rfl tK (fun _ _ _ _ _ _ => trivial) ?_
    rintro _ _ ⟨rfl, rfl⟩
    try dsimp only [List.cons_append, List.nil_append]
    refine G.mv ?_
    first | refine G.q rfl rfl rfl rfl (q_addw rfl rfl rfl lOm lOm) ?_ | refine G.q rfl rfl rfl rfl (q_add rfl rfl rfl) ?_
    refine G.mv ?_
    first | refine G.q rfl rfl rfl rfl (q_addw rfl rfl rfl lOm lOm) ?_ | refine G.q rfl rfl rfl rfl (q_add rfl rfl rfl) ?_
    refine G.mv ?_
    first | refine G.q rfl rfl rfl rfl (q_addw rfl rfl rfl lOm lOm) ?_ | refine G.q rfl rfl rfl rfl (q_add rfl rfl rfl) ?_
    refine G.mv ?_
    first | refine G.q rfl rfl rfl rfl (q_addw rfl rfl rfl lOm lOm) ?_ | refine G.q rfl rfl rfl rfl (q_add rfl rfl rfl) ?_
    refine G.mv ?_
    refine G.mv ?_
    refine G.call (xs := [_, _]) rfl rfl (rot_spec _ 30 oM) bd_76_F10 rfl rfl rfl rfl tK (fun _ _ _ _ _ _ => trivial) ?_
    rintro _ _ ⟨rfl, rfl⟩
    try dsimp only [List.cons_append, List.nil_append]
    refine G.mv ?_
    refine G.mv ?_
    refine G.as ?_
    refine G.as ?_
    refine G.as ?_
    refine G.as ?_
    refine G.as ?_
    refine G.nil ?_
    refine EN.sub (sC 0 (sC 6 (sC 7 (sC 8 (sC 9 (sC 10 (sC 65 (sC 66 Sub.nil)))))))) ?_
    refine EN.in_normal ?_
    refine EN.tr ?_
    first | refine G.q rfl rfl rfl rfl (q_add_i rfl rfl rfl oM) ?_ | refine G.q rfl rfl rfl rfl (q_add rfl rfl rfl) ?_
    refine G.mv ?_
    refine G.nil ?_
    rw [hA]
    exact EN.round (hl := [_]) ((80) - (k + 1)) oM (⟨k + 1, by omega, rfl, rfl, rfl⟩) sB rfl tK sF
  ·
   obtain rfl : k = 80 := by omega
   refine CG.exit ?_
   refine EN.then_exit ?_
   refine EN.then_exit ?_
   refine EN.in_here ?_
   refine EN.tsr ?_
   refine G.mv ?_
   first | refine G.q rfl rfl rfl rfl (q_ixaddr1 rfl rfl rfl se_77_F10 sz_32_F10 (by decide)) ?_ | refine G.q rfl rfl rfl rfl (q_ixaddr rfl rfl rfl se_77_F10 sz_32_F10 (by decide)) ?_
   refine G.ld ag_32_F10 ?_
   refine G.mv ?_
   first | refine G.q rfl rfl rfl rfl (q_addw rfl rfl rfl lOm lOm) ?_ | refine G.q rfl rfl rfl rfl (q_add rfl rfl rfl) ?_
   first | refine G.q rfl rfl rfl rfl (q_ixaddr1 rfl rfl rfl se_77_F10 sz_32_F10 (by decide)) ?_ | refine G.q rfl rfl rfl rfl (q_ixaddr rfl rfl rfl se_77_F10 sz_32_F10 (by decide)) ?_
   refine G.st0 sz_32_F10 ?_
   refine G.nil ?_
   refine EN.sub (sC 0 (sC 7 (sC 8 (sC 9 (sC 10 Sub.nil))))) ?_
   refine EN.tsr ?_
   refine G.mv ?_
   first | refine G.q rfl rfl rfl rfl (q_ixaddr1 rfl rfl rfl se_77_F10 sz_32_F10 (by decide)) ?_ | refine G.q rfl rfl rfl rfl (q_ixaddr rfl rfl rfl se_77_F10 sz_32_F10 (by decide)) ?_
   refine G.ld ag_32_F10 ?_
   refine G.mv ?_
   first | refine G.q rfl rfl rfl rfl (q_addw rfl rfl rfl lOm lOm) ?_ | refine G.q rfl rfl rfl rfl (q_add rfl rfl rfl) ?_
   first | refine G.q rfl rfl rfl rfl (q_ixaddr1 rfl rfl rfl se_77_F10 sz_32_F10 (by decide)) ?_ | refine G.q rfl rfl rfl rfl (q_ixaddr rfl rfl rfl se_77_F10 sz_32_F10 (by decide)) ?_
   refine G.st0 sz_32_F10 ?_
   refine G.nil ?_
   refine EN.tsr ?_
   refine G.mv ?_
   first | refine G.q rfl rfl rfl rfl (q_ixaddr1 rfl rfl rfl se_77_F10 sz_32_F10 (by decide)) ?_ | refine G.q rfl rfl rfl rfl (q_ixaddr rfl rfl rfl se_77_F10 sz_32_F10 (by decide)) ?_
   refine G.ld ag_32_F10 ?_
   refine G.mv ?_
   first | refine G.q rfl rfl rfl rfl (q_addw rfl rfl rfl lOm lOm) ?_ | refine G.q rfl rfl rfl rfl (q_add rfl rfl rfl) ?_
   first | refine G.q rfl rfl rfl rfl (q_ixaddr1 rfl rfl rfl se_77_F10 sz_32_F10 (by decide)) ?_ | refine G.q rfl rfl rfl rfl (q_ixaddr rfl rfl rfl se_77_F10 sz_32_F10 (by decide)) ?_
   refine G.st0 sz_32_F10 ?_
   refine G.nil ?_
   refine EN.sub (sC 0 (sC 9 (sC 10 Sub.nil))) ?_
   refine EN.tsr ?_
   refine G.mv ?_
   first | refine G.q rfl rfl rfl rfl (q_ixaddr1 rfl rfl rfl se_77_F10 sz_32_F10 (by decide)) ?_ | refine G.q rfl rfl rfl rfl (q_ixaddr rfl rfl rfl se_77_F10 sz_32_F10 (by decide)) ?_
   refine G.ld ag_32_F10 ?_
   refine G.mv ?_
   first | refine G.q rfl rfl rfl rfl (q_addw rfl rfl rfl lOm lOm) ?_ | refine G.q rfl rfl rfl rfl (q_add rfl rfl rfl) ?_
   first | refine G.q rfl rfl rfl rfl (q_ixaddr1 rfl rfl rfl se_77_F10 sz_32_F10 (by decide)) ?_ | refine G.q rfl rfl rfl rfl (q_ixaddr rfl rfl rfl se_77_F10 sz_32_F10 (by decide)) ?_
   refine G.st0 sz_32_F10 ?_
   refine G.nil ?_
   refine EN.tr ?_
   refine G.mv ?_
   first | refine G.q rfl rfl rfl rfl (q_ixaddr1 rfl rfl rfl se_77_F10 sz_32_F10 (by decide)) ?_ | refine G.q rfl rfl rfl rfl (q_ixaddr rfl rfl rfl se_77_F10 sz_32_F10 (by decide)) ?_
   refine G.ld ag_32_F10 ?_
   refine G.mv ?_
   first | refine G.q rfl rfl rfl rfl (q_addw rfl rfl rfl lOm lOm) ?_ | refine G.q rfl rfl rfl rfl (q_add rfl rfl rfl) ?_
   first | refine G.q rfl rfl rfl rfl (q_ixaddr1 rfl rfl rfl se_77_F10 sz_32_F10 (by decide)) ?_ | refine G.q rfl rfl rfl rfl (q_ixaddr rfl rfl rfl se_77_F10 sz_32_F10 (by decide)) ?_
   refine G.st0 sz_32_F10 ?_
   refine G.nil ?_
   refine EN.sub Sub.nil ?_
   exact fin_ret0 rfl tK sF (⟨rfl, rfl⟩) _ (.inr rfl)

end Go.Eng
/-
  SHA-1: write, sum, Sum1.
-/
set_option linter.unusedVariables false
set_option linter.unusedSimpArgs false
namespace Go.Eng
open Go.Proofs
theorem ag_51_F11 : aggB Tryd.prog 51 = some false := by kernel_rfl
theorem ag_77_F11 : aggB Tryd.prog 77 = some false := by kernel_rfl
theorem ag_9_F11 : aggB Tryd.prog 9 = some false := by kernel_rfl
theorem bd_64_F11 : bodied Tryd.prog 64 = true := by kernel_rfl
theorem fo_79_0_F11 : fieldOff Tryd.prog 79 0 = some 0 := by kernel_rfl
theorem fo_79_1_F11 : fieldOff Tryd.prog 79 1 = some 1 := by kernel_rfl
theorem fo_79_2_F11 : fieldOff Tryd.prog 79 2 = some 2 := by kernel_rfl
theorem ik_51_F11 : intK Tryd.prog 51 = some .u64 := by kernel_rfl
theorem is_3_F11 : (Tryd.prog.underlying 3).isSome = true := by kernel_rfl
theorem nf_32_F11 : infoB Tryd.prog 32 = some (some [.int .u32 0], 1, 4) := by kernel_rfl
theorem se_77_F11 : sliceE Tryd.prog 77 = some 32 := by kernel_rfl
theorem sz_51_F11 : sizeB Tryd.prog 51 = some 1 := by kernel_rfl
theorem sz_77_F11 : sizeB Tryd.prog 77 = some 1 := by kernel_rfl
theorem sz_9_F11 : sizeB Tryd.prog 9 = some 1 := by kernel_rfl
theorem us_9_F11 : Tryd.prog.underlying 9 = some .string := by kernel_rfl

def HashP (U b : Nat) (h : Sha.S5) (rest : List UInt8) (n : Int) (v : Value) : List HP := [cel b U [v, str rest, .int .u64 n], own 32 1 v 5 (Sha.cells h)]
def HashAt (U b : Nat) (h : Sha.S5) (rest : List UInt8) (n : Int) : HP := exS (HashP U b h rest n)
@[simp] theorem cells_len (h : Sha.S5) : (Sha.cells h).length = 5 := rfl
theorem cur5 {cur : List Value} {h : Sha.S5} (ht : cur.take (5 * 1) = Sha.cells h) : cur = Sha.cells h ++ cur.drop 5 := by rw [← ht]; exact (List.take_append_drop 5 cur).symm
theorem cells_one (h : Sha.S5) : ∀ u ∈ Sha.cells h, u.oneCell' = true := by intro u hu; simp [Sha.cells] at hu; rcases hu with rfl | rfl | rfl | rfl | rfl <;> rfl
theorem block1_own (g cc U : Nat) (h : Sha.S5) (cur : List Value) (p : List UInt8) (hp : p.length = 64) (ht : cur.take (5 * 1) = Sha.cells h) :
    Spec Tryd.prog 64 #[.slice (some ⟨g, 0, none⟩) 5 cc, str p] [cel g U cur] (Ret fun v hl => v = .tuple #[] ∧ hl = [cel g U (Sha.cells (Sha.block h p) ++ cur.drop 5)]) := by
  have := block1_spec g cc U h (cur.drop 5) p hp
  rw [← cur5 ht] at this
  exact this
theorem start_sl : sliceL (Sha.cells Sha.start1) 0 (5 * 1) = Sha.cells Sha.start1 := rfl
attribute [local irreducible] cel own exS Sha.block

set_option maxRecDepth 100000 in
set_option maxHeartbeats 1000000 in
theorem write5_spec (Ub b : Nat) (h : Sha.S5) (r t : List UInt8) (n : Int) (st : Value) (ht : t.length ≤ 900000000) (hr : r.length ≤ 64) : Spec Tryd.prog 62 #[.pointer (some ⟨b, 0, none⟩), str t, st, .func (.func 64) #[] #[]] [HashAt Ub b h r n] (Ret fun v hl => v = .tuple #[] ∧ hl = [HashAt Ub b (Sha.blocks h (r ++ t)).1 (Sha.blocks h (r ++ t)).2 (IntKind.u64.wrap (n + (t.length : Int)))]) := by
 refine Spec.enter Tryd.func62 rfl rfl rfl (fun F w0 => ?_)
 dsimp only [argL, List.cons_append, List.nil_append]
 refine CG.seq ?_
 refine CG.seq ?_
 refine CG.openS (HashP Ub b h r n) tK1 (fun v => ?_)
 unfold HashP
 dsimp only [List.cons_append, List.nil_append]
 refine CG.ownSome v tK1 oM (fun g0 cap0 hv1 => ?_)
 subst hv1
 refine CG.reg ?_
 refine G.mv ?_
 first | refine G.np ?_ | refine G.q rfl rfl rfl rfl (q_nil_f rfl rfl) ?_
 first | refine G.q rfl rfl rfl rfl (q_field0 rfl rfl fo_79_0_F11) ?_ | refine G.q rfl rfl rfl rfl (q_field rfl rfl fo_79_0_F11) ?_
 refine G.ld ag_77_F11 ?_
 refine G.q rfl rfl rfl rfl (q_eqsl rfl rfl rfl se_77_F11) ?_
 refine G.nil ?_
 refine EN.then ?_
 refine CG.condB rfl (fun h12 => ?_) (fun h12 => ?_)
 ·
  cases h12
 ·
  refine CG.skip ?_
  refine EN.tsr ?_
  refine G.mv ?_
  first | refine G.np ?_ | refine G.q rfl rfl rfl rfl (q_nil_f rfl rfl) ?_
  first | refine G.q rfl rfl rfl rfl (q_field0 rfl rfl fo_79_2_F11) ?_ | refine G.q rfl rfl rfl rfl (q_field rfl rfl fo_79_2_F11) ?_
  refine G.ld ag_51_F11 ?_
  refine G.mv ?_
  refine G.q rfl rfl rfl rfl (q_len_str rfl rfl us_9_F11) ?_
  first | refine G.q rfl rfl rfl rfl (q_conv_in rfl rfl is_3_F11 ik_51_F11 (wrapu_in (b := 64) rfl rfl oM)) ?_ | refine G.q rfl rfl rfl rfl (q_conv rfl rfl is_3_F11 ik_51_F11) ?_
  first | refine G.q rfl rfl rfl rfl (q_addw rfl rfl rfl lOm lOm) ?_ | refine G.q rfl rfl rfl rfl (q_add rfl rfl rfl) ?_
  first | refine G.np ?_ | refine G.q rfl rfl rfl rfl (q_nil_f rfl rfl) ?_
  first | refine G.q rfl rfl rfl rfl (q_field0 rfl rfl fo_79_2_F11) ?_ | refine G.q rfl rfl rfl rfl (q_field rfl rfl fo_79_2_F11) ?_
  refine G.st0 sz_51_F11 ?_
  refine G.nil ?_
  refine EN.sub (sC 0 (sC 1 (sC 3 Sub.nil))) ?_
  refine EN.tsr ?_
  refine G.mv ?_
  first | refine G.np ?_ | refine G.q rfl rfl rfl rfl (q_nil_f rfl rfl) ?_
  first | refine G.q rfl rfl rfl rfl (q_field0 rfl rfl fo_79_1_F11) ?_ | refine G.q rfl rfl rfl rfl (q_field rfl rfl fo_79_1_F11) ?_
  refine G.ld ag_9_F11 ?_
  refine G.mv ?_
  refine G.q rfl rfl rfl rfl (q_add_s rfl rfl rfl (by first | omega | (simp; omega))) ?_
  refine G.as ?_
  refine G.nil ?_
  refine EN.ts ?_
  refine CG.block ?_
  have hTl : (r ++ t).length ≤ 1000000000 := by first | omega | (rw [List.length_append]; omega)
  refine CG.loopI (fun m L H => ∃ (h' : Sha.S5) (t' : List UInt8), Sha.blocks h' t' = Sha.blocks h (r ++ t) ∧ m = t'.length ∧ t'.length ≤ 1000000000 ∧ L = [(0, .pointer (some ⟨b, 0, none⟩)), (1, str t'), (3, .func (.func 64) #[] #[])] ∧ H = [cel b Ub [(.slice (some ⟨g0, 0, none⟩) 5 cap0), str r, .int .u64 (IntKind.u64.wrap (n + (t.length : Int)))], own 32 1 (.slice (some ⟨g0, 0, none⟩) 5 cap0) 5 (Sha.cells h')] ++ F) ((r ++ t).length) (hl := [_, _]) (⟨_, _, rfl, rfl, hTl, rfl, rfl⟩) sB rfl tK sF ?_
  rintro m L H ⟨h, t, hgo, rfl, hlen, rfl, rfl⟩
  try dsimp only [List.cons_append, List.nil_append]
  refine CG.seq ?_
  refine CG.sr ?_
  refine G.mv ?_
  refine G.q rfl rfl rfl rfl (q_len_str rfl rfl us_9_F11) ?_
  refine G.q rfl rfl rfl rfl (q_geq rfl rfl rfl) ?_
  refine G.nil ?_
  refine EN.then ?_
  refine CG.cond rfl (fun h36 => ?_) (fun h36 => ?_)
  ·
   have h64 : 64 ≤ t.length := by omega
   rw [Sha.blocks, dif_pos h64] at hgo
   refine CG.openOwn (v := .slice (some ⟨g0, 0, none⟩) 5 cap0) tK1 oM (fun g cap cur hv hcap hmx hcl hct => ?_)
   cases hv
   refine CG.skip ?_
   refine EN.then ?_
   refine CG.block ?_
   refine CG.seq ?_
   refine CG.regT [] mixed (by kernel_rfl) ?_
   refine G.mv ?_
   refine G.mv ?_
   first | refine G.np ?_ | refine G.q rfl rfl rfl rfl (q_nil_f rfl rfl) ?_
   first | refine G.q rfl rfl rfl rfl (q_field0 rfl rfl fo_79_0_F11) ?_ | refine G.q rfl rfl rfl rfl (q_field rfl rfl fo_79_0_F11) ?_
   refine G.ld ag_77_F11 ?_
   refine G.mv ?_
   refine G.q rfl rfl rfl rfl (q_slice_hi rfl rfl rfl us_9_F11 (h64)) ?_
   refine G.callv (f := 64) (xs := [_, _]) rfl rfl rfl (block1_own g0 cap0 32 h cur (t.take 64) (by simp; omega) hct) bd_64_F11 rfl rfl rfl rfl tK (fun _ _ _ _ _ _ => trivial) ?_
   rintro _ _ ⟨rfl, rfl⟩
   try dsimp only [List.cons_append, List.nil_append]
   refine G.nil ?_
   refine EN.sub (sC 0 (sC 1 (sC 3 Sub.nil))) ?_
   refine EN.then ?_
   refine CG.closeOwn (g := g0) (sz := 1) tK1 hcap hmx (by simp [cells_len]; omega) rfl ?_
   refine CG.reg ?_
   refine G.mv ?_
   refine G.q rfl rfl rfl rfl (q_slice_lo rfl rfl rfl us_9_F11 (h64)) ?_
   refine G.as ?_
   refine G.nil ?_
   refine EN.in_normal ?_
   exact EN.round (hl := [_, _]) ((t.drop 64).length) (by simp; omega) (⟨_, _, hgo, rfl, by simp; omega, rfl, rfl⟩) sB rfl tK sF
  ·
   rw [Sha.blocks, dif_neg oM] at hgo
   refine CG.exit ?_
   refine EN.then_exit ?_
   refine EN.then_exit ?_
   refine EN.in_here ?_
   refine EN.tr ?_
   refine G.mv ?_
   refine G.mv ?_
   first | refine G.np ?_ | refine G.q rfl rfl rfl rfl (q_nil_f rfl rfl) ?_
   first | refine G.q rfl rfl rfl rfl (q_field0 rfl rfl fo_79_1_F11) ?_ | refine G.q rfl rfl rfl rfl (q_field rfl rfl fo_79_1_F11) ?_
   refine G.st0 sz_9_F11 ?_
   refine G.nil ?_
   refine EN.sub Sub.nil ?_
   rw [← hgo]
   refine EN.closeS (HashP Ub b _ _ _) _ tK ?_
   exact fin_ret0 rfl tK sF (⟨rfl, rfl⟩) _ (.inr rfl)

set_option maxRecDepth 100000 in
set_option maxHeartbeats 1000000 in
theorem write0_spec (Ub b gs U cs : Nat) (t : List UInt8) (ht : t.length ≤ 900000000) : Spec Tryd.prog 62 #[.pointer (some ⟨b, 0, none⟩), str t, .slice (some ⟨gs, 0, none⟩) 5 cs, .func (.func 64) #[] #[]] [cel b Ub [.slice none 0 0, str [], .int .u64 0], cel gs U (Sha.cells Sha.start1)] (Ret fun v hl => v = .tuple #[] ∧ hl = [HashAt Ub b (Sha.blocks Sha.start1 t).1 (Sha.blocks Sha.start1 t).2 (0 + (t.length : Int))]) := by
 refine Spec.enter Tryd.func62 rfl rfl rfl (fun F w0 => ?_)
 dsimp only [argL, List.cons_append, List.nil_append]
 refine CG.seq ?_
 refine CG.sr ?_
 refine G.mv ?_
 first | refine G.np ?_ | refine G.q rfl rfl rfl rfl (q_nil_f rfl rfl) ?_
 first | refine G.q rfl rfl rfl rfl (q_field0 rfl rfl fo_79_0_F11) ?_ | refine G.q rfl rfl rfl rfl (q_field rfl rfl fo_79_0_F11) ?_
 refine G.ld ag_77_F11 ?_
 refine G.q rfl rfl rfl rfl (q_eqsl rfl rfl rfl se_77_F11) ?_
 refine G.nil ?_
 refine EN.then ?_
 refine CG.condB rfl (fun h12 => ?_) (fun h12 => ?_)
 ·
  refine CG.ownNil 32 1 ?_
  refine CG.reg ?_
  refine G.mv ?_
  refine G.mv ?_
  refine G.e rfl rfl rfl rfl (e_append_off rfl rfl rfl se_77_F11 nf_32_F11 rfl tK1 mB (start_sl) (by simp) (cells_one _) oM) (fun _ _ _ _ _ _ => trivial) ?_
  rintro _ _ rfl
  simp only [Nat.zero_add, List.nil_append]
  refine G.ownShape tK1 ?_
  rintro ad cap0 hv0
  cases hv0
  first | refine G.np ?_ | refine G.q rfl rfl rfl rfl (q_nil_f rfl rfl) ?_
  first | refine G.q rfl rfl rfl rfl (q_field0 rfl rfl fo_79_0_F11) ?_ | refine G.q rfl rfl rfl rfl (q_field rfl rfl fo_79_0_F11) ?_
  refine G.st0 sz_77_F11 ?_
  refine G.nil ?_
  refine EN.sub (sC 0 (sC 1 (sC 3 Sub.nil))) ?_
  refine EN.ts ?_
  refine CG.ownSome _ tK1 oM (fun g0 cc0 hv1 => ?_)
  cases hv1
  refine CG.reg ?_
  refine G.mv ?_
  first | refine G.np ?_ | refine G.q rfl rfl rfl rfl (q_nil_f rfl rfl) ?_
  first | refine G.q rfl rfl rfl rfl (q_field0 rfl rfl fo_79_2_F11) ?_ | refine G.q rfl rfl rfl rfl (q_field rfl rfl fo_79_2_F11) ?_
  refine G.ld ag_51_F11 ?_
  refine G.mv ?_
  refine G.q rfl rfl rfl rfl (q_len_str rfl rfl us_9_F11) ?_
  first | refine G.q rfl rfl rfl rfl (q_conv_in rfl rfl is_3_F11 ik_51_F11 (wrapu_in (b := 64) rfl rfl oM)) ?_ | refine G.q rfl rfl rfl rfl (q_conv rfl rfl is_3_F11 ik_51_F11) ?_
  first | refine G.q rfl rfl rfl rfl (q_addw rfl rfl rfl lOm lOm) ?_ | refine G.q rfl rfl rfl rfl (q_add rfl rfl rfl) ?_
  first | refine G.np ?_ | refine G.q rfl rfl rfl rfl (q_nil_f rfl rfl) ?_
  first | refine G.q rfl rfl rfl rfl (q_field0 rfl rfl fo_79_2_F11) ?_ | refine G.q rfl rfl rfl rfl (q_field rfl rfl fo_79_2_F11) ?_
  refine G.st0 sz_51_F11 ?_
  refine G.nil ?_
  refine EN.sub (sC 0 (sC 1 (sC 3 Sub.nil))) ?_
  refine EN.tsr ?_
  refine G.mv ?_
  first | refine G.np ?_ | refine G.q rfl rfl rfl rfl (q_nil_f rfl rfl) ?_
  first | refine G.q rfl rfl rfl rfl (q_field0 rfl rfl fo_79_1_F11) ?_ | refine G.q rfl rfl rfl rfl (q_field rfl rfl fo_79_1_F11) ?_
  refine G.ld ag_9_F11 ?_
  refine G.mv ?_
  refine G.q rfl rfl rfl rfl (q_add_s rfl rfl rfl (by first | omega | (simp; omega))) ?_
  refine G.as ?_
  refine G.nil ?_
  refine EN.ts ?_
  refine CG.block ?_
  have hTl : t.length ≤ 1000000000 := by first | omega | (rw [List.length_append]; omega)
  refine CG.loopI (fun m L H => ∃ (h' : Sha.S5) (t' : List UInt8), Sha.blocks h' t' = Sha.blocks Sha.start1 t ∧ m = t'.length ∧ t'.length ≤ 1000000000 ∧ L = [(0, .pointer (some ⟨b, 0, none⟩)), (1, str t'), (3, .func (.func 64) #[] #[])] ∧ H = [cel b Ub [(.slice (some ⟨g0, 0, none⟩) 5 cap0), str ([] : List UInt8), .int .u64 (0 + (t.length : Int))], own 32 1 (.slice (some ⟨g0, 0, none⟩) 5 cap0) 5 (Sha.cells h')] ++ F) (t.length) (hl := [_, _]) (⟨_, _, rfl, rfl, hTl, rfl, rfl⟩) sB rfl tK sF ?_
  rintro m L H ⟨h, t, hgo, rfl, hlen, rfl, rfl⟩
  try dsimp only [List.cons_append, List.nil_append]
  refine CG.seq ?_
  refine CG.sr ?_
  refine G.mv ?_
  refine G.q rfl rfl rfl rfl (q_len_str rfl rfl us_9_F11) ?_
  refine G.q rfl rfl rfl rfl (q_geq rfl rfl rfl) ?_
  refine G.nil ?_
  refine EN.then ?_
  refine CG.cond rfl (fun h36 => ?_) (fun h36 => ?_)
  ·
   have h64 : 64 ≤ t.length := by omega
   rw [Sha.blocks, dif_pos h64] at hgo
   refine CG.openOwn (v := .slice (some ⟨g0, 0, none⟩) 5 cap0) tK1 oM (fun g cap cur hv hcap hmx hcl hct => ?_)
   cases hv
   refine CG.skip ?_
   refine EN.then ?_
   refine CG.block ?_
   refine CG.seq ?_
   refine CG.regT [] mixed (by kernel_rfl) ?_
   refine G.mv ?_
   refine G.mv ?_
   first | refine G.np ?_ | refine G.q rfl rfl rfl rfl (q_nil_f rfl rfl) ?_
   first | refine G.q rfl rfl rfl rfl (q_field0 rfl rfl fo_79_0_F11) ?_ | refine G.q rfl rfl rfl rfl (q_field rfl rfl fo_79_0_F11) ?_
   refine G.ld ag_77_F11 ?_
   refine G.mv ?_
   refine G.q rfl rfl rfl rfl (q_slice_hi rfl rfl rfl us_9_F11 (h64)) ?_
   refine G.callv (f := 64) (xs := [_, _]) rfl rfl rfl (block1_own g0 cap0 32 h cur (t.take 64) (by simp; omega) hct) bd_64_F11 rfl rfl rfl rfl tK (fun _ _ _ _ _ _ => trivial) ?_
   rintro _ _ ⟨rfl, rfl⟩
   try dsimp only [List.cons_append, List.nil_append]
   refine G.nil ?_
   refine EN.sub (sC 0 (sC 1 (sC 3 Sub.nil))) ?_
   refine EN.then ?_
   refine CG.closeOwn (g := g0) (sz := 1) tK1 hcap hmx (by simp [cells_len]; omega) rfl ?_
   refine CG.reg ?_
   refine G.mv ?_
   refine G.q rfl rfl rfl rfl (q_slice_lo rfl rfl rfl us_9_F11 (h64)) ?_
   refine G.as ?_
   refine G.nil ?_
   refine EN.in_normal ?_
   exact EN.round (hl := [_, _]) ((t.drop 64).length) (by simp; omega) (⟨_, _, hgo, rfl, by simp; omega, rfl, rfl⟩) sB rfl tK sF
  ·
   rw [Sha.blocks, dif_neg oM] at hgo
   refine CG.exit ?_
   refine EN.then_exit ?_
   refine EN.then_exit ?_
   refine EN.in_here ?_
   refine EN.tr ?_
   refine G.mv ?_
   refine G.mv ?_
   first | refine G.np ?_ | refine G.q rfl rfl rfl rfl (q_nil_f rfl rfl) ?_
   first | refine G.q rfl rfl rfl rfl (q_field0 rfl rfl fo_79_1_F11) ?_ | refine G.q rfl rfl rfl rfl (q_field rfl rfl fo_79_1_F11) ?_
   refine G.st0 sz_9_F11 ?_
   refine G.nil ?_
   refine EN.sub Sub.nil ?_
   rw [← hgo]
   refine EN.closeS (HashP Ub b _ _ _) _ tK ?_
   exact fin_ret0 rfl tK sF (⟨rfl, rfl⟩) _ (.inr rfl)
 ·
  cases h12

end Go.Eng
