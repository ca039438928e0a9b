/-
  Joined by program out of the texts ZF41 ZF42 ZP14 ZP15 ZP16 ZF28 ZF29 ZF30 ZF31 ZF32 ZF33 ZF34 ZF43 ZP17 ZF44: contracts for the functions that the law reaches, and the engine that proves them.
-/
import Derived.Test.YtpoaiohhbpbofaaGreatDoorM4
import Derived.Test.YtpoaiohhbpbofaaGreatDoorM3
/-
  The reference (ref05): packed.
-/
set_option linter.unusedVariables false
set_option linter.unusedSimpArgs false
namespace Go.Eng
open Go.Proofs
theorem bd_112_F41 : bodied Tryz.prog 112 = true := by kernel_rfl
theorem ik_5_F41 : intK Tryz.prog 5 = some .u8 := by kernel_rfl

theorem number_mono {B : List Bool} {n : Nat} {s : RI.St} : s.pos ≤ (RI.number B n s).2.pos := by
  unfold RI.number
  split
  · exact Nat.le_refl _
  · split
    · rw [fail_out.2]; exact Nat.le_refl _
    · simp only; omega
theorem symbol_mono {B : List Bool} {cs : List (List Bool)} {s : RI.St} : s.pos ≤ (RI.symbol B cs s).2.pos ∧ (s.err = 0 → (RI.symbol B cs s).2.err = 0 → s.pos < (RI.symbol B cs s).2.pos) := by
  unfold RI.symbol
  have hl := read4_le cs ((B.drop s.pos).take 16)
  generalize RI.read4 cs ((B.drop s.pos).take 16) = x at hl
  split
  · rename_i h; exact ⟨Nat.le_refl _, fun h2 => absurd h2 h⟩
  · dsimp only
    split
    · rename_i h; exact ⟨by rw [fail_out.2]; exact Nat.le_refl _, fun _ h2 => absurd h2 (fail_err h)⟩
    · refine ⟨by simp only; omega, fun _ _ => ?_⟩
      have := hl.2.2.2 (by omega)
      simp only; omega
theorem copyR_zero {most back : Nat} {s : RI.St} : RI.copyR most back 0 s = s := rfl
theorem copyR_step {most back k : Nat} {s : RI.St} (h : s.err = 0) : RI.copyR most back (k + 1) s = RI.copyR most back k (RI.put most (s.out.getD (s.out.length - back) 0) s) := by rw [RI.copyR, if_neg (by omega)]
theorem copyR_stop {most back k : Nat} {s : RI.St} (h : s.err ≠ 0) : RI.copyR most back k s = s := by cases k with | zero => rfl | succ k => rw [RI.copyR, if_pos h]
theorem packedGo_stop {B : List Bool} {most m : Nat} {l d : List (List Bool)} {s : RI.St} (h : s.err ≠ 0) : RI.packedGo B most l d m s = s := by cases m with | zero => rfl | succ m => rw [RI.packedGo, if_pos h]
theorem get_len1 {k : Nat} (h : k < 29) : (((List.range 29).map (fun i => (Infl.lengthBase i).1)).map iv)[k]? = some (.int .i64 ((Infl.lengthBase k).1 : Nat)) := by rw [List.getElem?_map, List.getElem?_map, List.getElem?_range h]; rfl
theorem get_len2 {k : Nat} (h : k < 29) : (((List.range 29).map (fun i => (Infl.lengthBase i).2)).map iv)[k]? = some (.int .i64 ((Infl.lengthBase k).2 : Nat)) := by rw [List.getElem?_map, List.getElem?_map, List.getElem?_range h]; rfl
theorem get_dst1 {k : Nat} (h : k < 30) : (((List.range 30).map db1).map iv)[k]? = some (.int .i64 ((Infl.distBase k).1 : Nat)) := by rw [List.getElem?_map, List.getElem?_map, List.getElem?_range h]; rfl
theorem get_dst2 {k : Nat} (h : k < 30) : (((List.range 30).map db2).map iv)[k]? = some (.int .i64 ((Infl.distBase k).2 : Nat)) := by rw [List.getElem?_map, List.getElem?_map, List.getElem?_range h]; rfl
theorem get_u8v {l : List UInt8} {i : Nat} (h : i < l.length) : (l.map u8v)[i]? = some (.int .u8 ((l.getD i 0).toNat : Int)) := by
  rw [List.getElem?_map, List.getElem?_eq_getElem h, List.getD_eq_getElem?_getD, List.getElem?_eq_getElem h]; rfl
theorem put_len {most : Nat} {x : UInt8} {s : RI.St} : s.out.length ≤ (RI.put most x s).out.length := by
  unfold RI.put
  split
  · exact Nat.le_refl _
  · split
    · exact Nat.le_refl _
    · simp

attribute [local irreducible] cel celZ own ownM ownG exS bb wb rowsH RI.number RI.symbol RI.fail RI.failIf RI.codes RI.put RI.copyR Infl.lengthBase Infl.distBase db1 db2

set_option maxRecDepth 100000 in
set_option maxHeartbeats 1000000 in
theorem packed_spec (b c most : Nat) (ad : Option Addr) (B : List Bool) (s : RI.St) (w : Value) (a1 a2 : Option Addr) (n1 n2 c1 c2 : Nat) (ls ds : List Nat) (q : HP) (h1 : RdA q a1 (ls.map iv)) (h2 : RdA q a2 (ds.map iv)) (hn1 : ls.length = n1) (hn2 : ds.length = n2) (hl1 : 0 < n1 ∧ n1 ≤ 320) (hl2 : 0 < n2 ∧ n2 ≤ 320) (p : HP) (hB : RdA p ad (B.map bv)) (hBc : B.length ≤ c) (hBl : B.length ≤ 10000000000) (hsp : s.pos ≤ B.length) (ho : s.out.length ≤ most) (hm : most ≤ 1000000) : Spec Tryz.prog 86 #[.pointer (some ⟨b, 0, none⟩), .slice a1 n1 c1, .slice a2 n2 c2] [cel b 128 [.slice ad B.length c, .int .i64 ((s).pos : Nat), w, .int .i64 (most : Nat), .int .i64 ((s).err : Nat)], own 5 1 w (s).out.length ((s).out.map u8v), q, p] (Ret fun v hl => v = .tuple #[] ∧ ∃ w2, hl = [cel b 128 [.slice ad B.length c, .int .i64 ((RI.packed B most ls ds s).pos : Nat), w2, .int .i64 (most : Nat), .int .i64 ((RI.packed B most ls ds s).err : Nat)], own 5 1 w2 (RI.packed B most ls ds s).out.length ((RI.packed B most ls ds s).out.map u8v), q, p]) := by
 subst hn1
 subst hn2
 obtain ⟨Z, hZ⟩ : ∃ Z, RI.packed B most ls ds s = Z := ⟨_, rfl⟩
 have hE := hZ
 unfold RI.packed at hE
 rw [hZ]
 refine Spec.enter Tryz.func86 rfl rfl rfl (fun F w0 => ?_)
 dsimp only [argL, List.cons_append, List.nil_append]
 refine CG.sr (G.mv ?_)
 refine G.call (xs := [_]) rfl rfl (codes04_spec a1 ls.length c1 ls q h1 rfl oM) bd_111_F40 rfl rfl rfl rfl tK (fun _ _ _ _ _ _ => trivial) ?_
 rintro v hl ⟨vs1, hvs1, rfl⟩
 rw [← codes_len ls] at hvs1 ⊢
 refine G.fact (p := own 125 1 v (RI.codes ls).length vs1) (α := ∃ cad cc, v = .slice cad (RI.codes ls).length cc) tK1 (fun h hh => (by obtain ⟨_, _, a8, c8, e, _⟩ := own_shape hh; exact ⟨a8, c8, e⟩)) (fun hv8 => ?_)
 obtain ⟨cad1, cc1, rfl⟩ := hv8
 try dsimp only [List.cons_append, List.nil_append]
 refine G.mv ?_
 refine G.call (xs := [_]) rfl rfl (codes04_spec a2 ds.length c2 ds q h2 rfl oM) bd_111_F40 rfl rfl rfl rfl tK (fun _ _ _ _ _ _ => trivial) ?_
 rintro v hl ⟨vs2, hvs2, rfl⟩
 rw [← codes_len ds] at hvs2 ⊢
 refine G.fact (p := own 125 1 v (RI.codes ds).length vs2) (α := ∃ cad cc, v = .slice cad (RI.codes ds).length cc) tK1 (fun h hh => (by obtain ⟨_, _, a8, c8, e, _⟩ := own_shape hh; exact ⟨a8, c8, e⟩)) (fun hv8 => ?_)
 obtain ⟨cad2, cc2, rfl⟩ := hv8
 try dsimp only [List.cons_append, List.nil_append]
 refine G.as ?_
 refine G.as ?_
 refine G.nil (EN.tsr (G.call (xs := []) rfl rfl (lengths_spec) bd_112_F41 rfl rfl rfl rfl tK (fun _ _ _ _ _ _ => trivial) ?_))
 rintro _ _ ⟨v1, v2, v3, v4, rfl, rfl⟩
 dsimp only [List.cons_append, List.nil_append]
 refine G.fact (p := own 3 1 v1 29 (((List.range 29).map (fun i => (Infl.lengthBase i).1)).map iv)) (α := ∃ a8 c8, v1 = .slice a8 29 c8) tK1 (fun h hh => (by obtain ⟨_, _, a8, c8, e, _⟩ := own_shape hh; exact ⟨a8, c8, e⟩)) (fun hv8 => ?_)
 obtain ⟨a1, k1, rfl⟩ := hv8
 refine G.someRd (p := own 3 1 (.slice a1 29 k1) 29 (((List.range 29).map (fun i => (Infl.lengthBase i).1)).map iv)) mB rd_own (by simp) (fun g1 o1 e => ?_)
 subst e
 refine G.fact (p := own 3 1 v2 29 (((List.range 29).map (fun i => (Infl.lengthBase i).2)).map iv)) (α := ∃ a8 c8, v2 = .slice a8 29 c8) tK1 (fun h hh => (by obtain ⟨_, _, a8, c8, e, _⟩ := own_shape hh; exact ⟨a8, c8, e⟩)) (fun hv8 => ?_)
 obtain ⟨a2, k2, rfl⟩ := hv8
 refine G.someRd (p := own 3 1 (.slice a2 29 k2) 29 (((List.range 29).map (fun i => (Infl.lengthBase i).2)).map iv)) mB rd_own (by simp) (fun g2 o2 e => ?_)
 subst e
 refine G.fact (p := own 3 1 v3 30 (((List.range 30).map db1).map iv)) (α := ∃ a8 c8, v3 = .slice a8 30 c8) tK1 (fun h hh => (by obtain ⟨_, _, a8, c8, e, _⟩ := own_shape hh; exact ⟨a8, c8, e⟩)) (fun hv8 => ?_)
 obtain ⟨a3, k3, rfl⟩ := hv8
 refine G.someRd (p := own 3 1 (.slice a3 30 k3) 30 (((List.range 30).map db1).map iv)) mB rd_own (by simp) (fun g3 o3 e => ?_)
 subst e
 refine G.fact (p := own 3 1 v4 30 (((List.range 30).map db2).map iv)) (α := ∃ a8 c8, v4 = .slice a8 30 c8) tK1 (fun h hh => (by obtain ⟨_, _, a8, c8, e, _⟩ := own_shape hh; exact ⟨a8, c8, e⟩)) (fun hv8 => ?_)
 obtain ⟨a4, k4, rfl⟩ := hv8
 refine G.someRd (p := own 3 1 (.slice a4 30 k4) 30 (((List.range 30).map db2).map iv)) mB rd_own (by simp) (fun g4 o4 e => ?_)
 subst e
 try dsimp only [List.cons_append, List.nil_append]
 refine G.mv ?_
 refine G.q rfl rfl rfl rfl (q_extract rfl rfl rfl) (G.q rfl rfl rfl rfl (q_extract rfl rfl rfl) (G.q rfl rfl rfl rfl (q_extract rfl rfl rfl) (G.q rfl rfl rfl rfl (q_extract rfl rfl rfl) (G.as ?_))))
 refine G.as ?_
 refine G.as ?_
 refine G.as ?_
 refine G.nil (EN.sub (sC 0 (sC 6 (sC 7 (sC 8 (sC 9 (sC 10 (sC 11 Sub.nil))))))) ?_)
 refine EN.then (CG.block (CG.loopI (fun m L H => ∃ (s1 : RI.St) (w : Value), s1.pos ≤ B.length ∧ s1.out.length ≤ most ∧ (s1.err = 0 → B.length < m + s1.pos) ∧ RI.packedGo B most (RI.codes ls) (RI.codes ds) m s1 = Z ∧ L = [(0, .pointer (some ⟨b, 0, none⟩)), (6, .slice cad1 (RI.codes ls).length cc1), (7, .slice cad2 (RI.codes ds).length cc2), (8, .slice (some ⟨g1, o1, none⟩) 29 k1), (9, .slice (some ⟨g2, o2, none⟩) 29 k2), (10, .slice (some ⟨g3, o3, none⟩) 30 k3), (11, .slice (some ⟨g4, o4, none⟩) 30 k4)] ∧ H = [own 125 1 (.slice cad1 (RI.codes ls).length cc1) (RI.codes ls).length vs1, rowsH 4 vs1 ((RI.codes ls).map fun c => c.map bv), own 125 1 (.slice cad2 (RI.codes ds).length cc2) (RI.codes ds).length vs2, rowsH 4 vs2 ((RI.codes ds).map fun c => c.map bv), own 3 1 (.slice (some ⟨g1, o1, none⟩) 29 k1) 29 (((List.range 29).map (fun i => (Infl.lengthBase i).1)).map iv), own 3 1 (.slice (some ⟨g2, o2, none⟩) 29 k2) 29 (((List.range 29).map (fun i => (Infl.lengthBase i).2)).map iv), own 3 1 (.slice (some ⟨g3, o3, none⟩) 30 k3) 30 (((List.range 30).map db1).map iv), own 3 1 (.slice (some ⟨g4, o4, none⟩) 30 k4) 30 (((List.range 30).map db2).map iv), cel b 128 [.slice ad B.length c, .int .i64 ((s1).pos : Nat), w, .int .i64 (most : Nat), .int .i64 ((s1).err : Nat)], own 5 1 w (s1).out.length ((s1).out.map u8v), q, p] ++ F) (B.length + 1 - s.pos) (hl := [_, _, _, _, _, _, _, _, _, _, _, _]) (⟨s, _, hsp, ho, fun _ => by omega, hE, rfl, rfl⟩) sB rfl tK sF ?_))
 rintro m L H ⟨s1, w, hs1p, hs1o, hml, hgo, rfl, rfl⟩
 try dsimp only [List.cons_append, List.nil_append]
 refine CG.ownLen (T := 5) (v := w) tK1 (fun wad wc hw hl1 hl2 => ?_)
 subst hw
 refine CG.seq (CG.sr (G.mv ?_))
 refine G.np ?_
 refine G.q rfl rfl rfl rfl (q_field0 rfl rfl fo_128_4_F37) (G.ld ag_3_F1 ?_)
 refine G.q rfl rfl rfl rfl (q_eql rfl rfl rfl) (G.nil (EN.then ?_))
 refine CG.cond rfl (fun h31 => ?_) (fun h31 => ?_)
 ·
  have hs10 : s1.err = 0 := by omega
  obtain ⟨g, rfl⟩ : ∃ g, m = g + 1 := ⟨m - 1, by have := hml hs10; omega⟩
  have hmg := hml hs10
  rw [RI.packedGo, if_neg oM] at hgo
  refine CG.skip (EN.then (CG.block (CG.sr (G.mv ?_))))
  refine G.mv ?_
  refine G.call (xs := [_, _]) rfl rfl (symbol5_spec b c most ad B (s1) _ cad1 cc1 vs1 (RI.codes ls) p hB hBc oM oM hs1p hvs1 (codes_el ls) (by rw [codes_len]; omega)) bd_113_F40 rfl rfl rfl rfl tK (fun _ _ _ _ _ _ => trivial) ?_
  rintro _ _ ⟨rfl, rfl⟩
  obtain ⟨x, hx⟩ : ∃ w9, RI.symbol B (RI.codes ls) s1 = w9 := ⟨_, rfl⟩
  have hxs := symbol_pos (cs := RI.codes ls) hs1p
  have hxm := symbol_mono (B := B) (cs := RI.codes ls) (s := s1)
  rw [hx] at hxs hxm hgo ⊢
  try dsimp only at hgo
  have hxl := hxs.2.2 (by rw [codes_len]; omega)
  rw [codes_len] at hxl
  have hxp := hxs.1
  have hxo := hxs.2.1
  rw [← hxo] at hs1o ⊢
  try dsimp only [List.cons_append, List.nil_append]
  refine G.as ?_
  refine G.nil (EN.ts (CG.sr (G.mv ?_)))
  refine G.np ?_
  refine G.q rfl rfl rfl rfl (q_field0 rfl rfl fo_128_4_F37) (G.ld ag_3_F1 ?_)
  refine G.q rfl rfl rfl rfl (q_neq rfl rfl rfl) (G.mv ?_)
  refine G.split (t := 40) rfl (fun g40 => ?_) (fun g40 => ?_)
  ·
   have hZ2 : Z = x.2 := by rw [← hgo, if_pos (.inl oM)]
   refine G.skip rfl rfl rfl (G.skip rfl rfl rfl (G.q rfl rfl rfl rfl (q_pick_t rfl rfl rfl) (G.nil (EN.sub (sC 0 (sC 6 (sC 7 (sC 8 (sC 9 (sC 10 (sC 11 (sC 12 (sC 43 Sub.nil))))))))) ?_))))
   refine EN.then (CG.cond_t rfl ?_)
   refine CG.ret (EN.then_ret (EN.in_ret ?_))
   refine EN.then_ret (EN.in_ret ?_)
   rw [hZ2]
   try rw [← hxo]
   exact fin_ret0 rfl tK sF (⟨rfl, _, rfl⟩) _ (.inl rfl)
  ·
   refine G.mv ?_
   refine G.q rfl rfl rfl rfl (q_eql rfl rfl rfl) (G.q rfl rfl rfl rfl (q_pick_f rfl rfl rfl) (G.nil (EN.sub (sC 0 (sC 6 (sC 7 (sC 8 (sC 9 (sC 10 (sC 11 (sC 12 (sC 43 Sub.nil))))))))) ?_)))
   refine EN.then ?_
   refine CG.cond rfl (fun h43 => ?_) (fun h43 => ?_)
   ·
    have hZ2 : Z = x.2 := by rw [← hgo, if_pos (.inr oM)]
    refine CG.ret (EN.then_ret (EN.in_ret ?_))
    refine EN.then_ret (EN.in_ret ?_)
    rw [hZ2]
    try rw [← hxo]
    exact fin_ret0 rfl tK sF (⟨rfl, _, rfl⟩) _ (.inl rfl)
   ·
    rw [if_neg oM] at hgo
    have hxe : x.2.err = 0 := by omega
    have hxadv := hxm.2 hs10 hxe
    refine CG.skip (EN.ts (CG.sr (G.mv ?_)))
    refine G.q rfl rfl rfl rfl (q_lss rfl rfl rfl) (G.nil (EN.then ?_))
    refine CG.cond rfl (fun h45 => ?_) (fun h45 => ?_)
    ·
     rw [if_pos oM] at hgo
     have hpo := put_out (x := u8i x.1) hs1o
     obtain ⟨s9, hs9⟩ : ∃ s9, RI.put most (u8i x.1) x.2 = s9 := ⟨_, rfl⟩
     rw [hs9] at hgo hpo
     have hs9p : s9.pos ≤ B.length := by rw [hpo.2]; exact hxp
     have hs9o := hpo.1
     have hs9m : s9.err = 0 → s1.pos < s9.pos := fun _ => by rw [hpo.2]; exact hxadv
     refine CG.sr (G.mv ?_)
     refine G.mv ?_
     refine G.q rfl rfl rfl rfl (q_conv_u8 rfl rfl is_3_F4 ik_5_F41) (G.call (xs := [_, _]) rfl rfl (put5_spec b (.slice ad B.length c) most x.2 _ (u8i x.1) oM) bd_110_F38 rfl rfl rfl rfl tK (fun _ _ _ _ _ _ => trivial) ?_)
     rintro _ _ ⟨rfl, w2, rfl⟩
     rw [hs9]
     try dsimp only [List.cons_append, List.nil_append]
     refine G.nil (EN.then (CG.exit ?_))
     refine EN.then_exit (EN.in_here ?_)
     exact EN.round (hl := [_, _, _, _, _, _, _, _, _, _, _, _]) (g) oM (⟨s9, _, hs9p, hs9o, fun h => by have := hs9m h; omega, hgo, rfl, rfl⟩) sB rfl tK sF
    ·
     rw [if_neg oM] at hgo
     refine CG.skip (EN.ts (CG.sr (G.mv ?_)))
     refine G.q rfl rfl rfl rfl (q_gtr rfl rfl rfl) (G.nil (EN.then ?_))
     refine CG.cond rfl (fun h51 => ?_) (fun h51 => ?_)
     ·
      rw [if_pos oM] at hgo
      have hZ2 : Z = RI.fail 3 x.2 := hgo.symm
      have hfo := fail_out (e := 3) (s := x.2)
      refine CG.sr (G.mv ?_)
      refine G.call (xs := [_, _]) rfl rfl (fail_spec b (.slice ad B.length c) most 3 x.2 _) bd_82_F37 rfl rfl rfl rfl tK (fun _ _ _ _ _ _ => trivial) ?_
      rintro _ _ ⟨rfl, rfl⟩
      rw [← hfo.1]
      try dsimp only [List.cons_append, List.nil_append]
      refine G.nil (EN.then (CG.ret (EN.then_ret (EN.in_ret ?_))))
      refine EN.then_ret (EN.in_ret ?_)
      rw [hZ2]
      try rw [← hxo]
      exact fin_ret0 rfl tK sF (⟨rfl, _, rfl⟩) _ (.inl rfl)
     ·
      rw [if_neg oM] at hgo
      obtain ⟨i, hi⟩ : ∃ i, x.1 - 257 = i := ⟨_, rfl⟩
      have ei : (x.1 : Int) - 257 = (i : Nat) := by omega
      have hi29 : i < 29 := by omega
      have hlb := Infl.lengthBase_le (i := i) oM
      rw [hi] at hgo
      refine CG.skip (EN.ts ?_)
      refine CG.regC [58, 64] (Keeps _ [own 3 1 (.slice (some ⟨g1, o1, none⟩) 29 k1) 29 (((List.range 29).map (fun i => (Infl.lengthBase i).1)).map iv), own 3 1 (.slice (some ⟨g2, o2, none⟩) 29 k2) 29 (((List.range 29).map (fun i => (Infl.lengthBase i).2)).map iv)]) mixed (by kernel_rfl) (fun w hw => Keeps.of hw tK) ?_
      refine G.mv ?_
      refine G.mv ?_
      refine G.q rfl rfl rfl rfl (q_sub_i rfl rfl rfl oM) ?_
      rw [ei]
      refine G.q rfl rfl rfl rfl (q_ixad1 rfl rfl rfl se_78_F5 sz_3_F1 (hi29)) (G.rK rfl rfl rfl rfl rfl (fun R => r_loadRd rfl rfl ag_3_F1 mB rd_own (get_len1 hi29)) ?_)
      refine G.mv ?_
      refine G.mv ?_
      refine G.mv ?_
      refine G.q rfl rfl rfl rfl (q_sub_i rfl rfl rfl oM) ?_
      rw [ei]
      refine G.q rfl rfl rfl rfl (q_ixad1 rfl rfl rfl se_78_F5 sz_3_F1 (hi29)) (G.rK rfl rfl rfl rfl rfl (fun R => r_loadRd rfl rfl ag_3_F1 mB rd_own (get_len2 hi29)) ?_)
      refine G.call (xs := [_, _]) rfl rfl (number5_spec b c most ad B (x.2) _ (Infl.lengthBase i).2 p hB hBc oM oM oM) bd_83_F38 rfl rfl rfl rfl tK (fun _ _ _ w hR hw => by obtain ⟨_, rfl⟩ := hR; exact Keeps.of hw tK) ?_
      rintro _ _ ⟨rfl, rfl⟩
      obtain ⟨y, hy⟩ : ∃ w9, RI.number B (Infl.lengthBase i).2 x.2 = w9 := ⟨_, rfl⟩
      have hyp := number_pos (n := (Infl.lengthBase i).2) hxp
      have hyl := number_lt (B := B) (n := (Infl.lengthBase i).2) (s := x.2)
      have hyo := number_out (B := B) (n := (Infl.lengthBase i).2) (s := x.2)
      have hym := number_mono (B := B) (n := (Infl.lengthBase i).2) (s := x.2)
      have hp6 := pow14 (k := (Infl.lengthBase i).2) oM
      rw [hy] at hyp hyl hyo hym hgo ⊢
      try dsimp only at hgo
      rw [← hyo] at hs1o ⊢
      have hyl2 : y.1 ≤ 16384 := by omega
      try dsimp only [List.cons_append, List.nil_append]
      refine G.q rfl rfl rfl rfl (q_add_i rfl rfl rfl oM) (G.as ?_)
      refine G.nil (EN.sub (sC 0 (sC 6 (sC 7 (sC 8 (sC 9 (sC 10 (sC 11 (sC 13 Sub.nil)))))))) ?_)
      refine EN.tsr (G.mv ?_)
      refine G.mv ?_
      refine G.call (xs := [_, _]) rfl rfl (symbol5_spec b c most ad B (y.2) _ cad2 cc2 vs2 (RI.codes ds) p hB hBc oM oM hyp hvs2 (codes_el ds) (by rw [codes_len]; omega)) bd_113_F40 rfl rfl rfl rfl tK (fun _ _ _ _ _ _ => trivial) ?_
      rintro _ _ ⟨rfl, rfl⟩
      obtain ⟨k, hk⟩ : ∃ w9, RI.symbol B (RI.codes ds) y.2 = w9 := ⟨_, rfl⟩
      have hks := symbol_pos (cs := RI.codes ds) hyp
      have hkm := (symbol_mono (B := B) (cs := RI.codes ds) (s := y.2)).1
      rw [hk] at hks hkm hgo ⊢
      have hkl := hks.2.2 (by rw [codes_len]; omega)
      have hkp := hks.1
      have hko := hks.2.1
      rw [← hko] at hs1o ⊢
      try dsimp only [List.cons_append, List.nil_append]
      refine G.as ?_
      refine G.nil (EN.then ?_)
      refine CG.cut (fun L H => ∃ (s3 : RI.St) (k : Nat × RI.St) (n : Nat) (w : Value), RI.failIf (29 < k.1) 3 k.2 = s3 ∧ RI.packedGo B most (RI.codes ls) (RI.codes ds) g (RI.pack3 B most n k) = Z ∧ n ≤ 20000 ∧ s3.pos ≤ B.length ∧ s1.pos < s3.pos ∧ s3.out.length ≤ most ∧ L = [(0, .pointer (some ⟨b, 0, none⟩)), (6, .slice cad1 (RI.codes ls).length cc1), (7, .slice cad2 (RI.codes ds).length cc2), (8, .slice (some ⟨g1, o1, none⟩) 29 k1), (9, .slice (some ⟨g2, o2, none⟩) 29 k2), (10, .slice (some ⟨g3, o3, none⟩) 30 k3), (11, .slice (some ⟨g4, o4, none⟩) 30 k4), (13, .int .i64 (n : Nat)), (14, .int .i64 (k.1 : Nat))] ∧ H = [own 125 1 (.slice cad1 (RI.codes ls).length cc1) (RI.codes ls).length vs1, rowsH 4 vs1 ((RI.codes ls).map fun c => c.map bv), own 125 1 (.slice cad2 (RI.codes ds).length cc2) (RI.codes ds).length vs2, rowsH 4 vs2 ((RI.codes ds).map fun c => c.map bv), own 3 1 (.slice (some ⟨g1, o1, none⟩) 29 k1) 29 (((List.range 29).map (fun i => (Infl.lengthBase i).1)).map iv), own 3 1 (.slice (some ⟨g2, o2, none⟩) 29 k2) 29 (((List.range 29).map (fun i => (Infl.lengthBase i).2)).map iv), own 3 1 (.slice (some ⟨g3, o3, none⟩) 30 k3) 30 (((List.range 30).map db1).map iv), own 3 1 (.slice (some ⟨g4, o4, none⟩) 30 k4) 30 (((List.range 30).map db2).map iv), cel b 128 [.slice ad B.length c, .int .i64 ((s3).pos : Nat), w, .int .i64 (most : Nat), .int .i64 ((s3).err : Nat)], own 5 1 w (s3).out.length ((s3).out.map u8v), q, p] ++ F) ?_ ?_
      ·
       refine CG.seq ?_
       obtain ⟨n, hn⟩ : ∃ n, (Infl.lengthBase i).1 + y.1 = n := ⟨_, rfl⟩
       rw [show ((Infl.lengthBase i).1 : Int) + y.1 = (n : Nat) by omega]
       rw [hn] at hgo
       have hnb : n ≤ 20000 := by omega
       refine CG.reg (G.mv ?_)
       refine G.np ?_
       refine G.q rfl rfl rfl rfl (q_field0 rfl rfl fo_128_4_F37) (G.ld ag_3_F1 ?_)
       refine G.q rfl rfl rfl rfl (q_eql rfl rfl rfl) (G.mv ?_)
       refine G.split (t := 75) rfl (fun g75 => ?_) (fun g75 => ?_)
       ·
        refine G.mv ?_
        refine G.q rfl rfl rfl rfl (q_gtr rfl rfl rfl) (G.q rfl rfl rfl rfl (q_pick_t rfl rfl rfl) (G.nil (EN.sub (sC 0 (sC 6 (sC 7 (sC 8 (sC 9 (sC 10 (sC 11 (sC 13 (sC 14 (sC 78 Sub.nil)))))))))) ?_)))
        refine EN.then ?_
        refine CG.cond rfl (fun h78 => ?_) (fun h78 => ?_)
        ·
         have hF : RI.failIf (29 < k.1) 3 k.2 = RI.fail 3 k.2 := failIf_p oM
         refine CG.reg (G.mv ?_)
         refine G.call (xs := [_, _]) rfl rfl (fail_spec b (.slice ad B.length c) most 3 k.2 _) bd_82_F37 rfl rfl rfl rfl tK (fun _ _ _ _ _ _ => trivial) ?_
         rintro _ _ ⟨rfl, rfl⟩
         try dsimp only [List.cons_append, List.nil_append]
         refine G.nil ?_
         have hfo := failIf_out (e := 3) (s := k.2) (q := 29 < k.1)
         have hf1 : (RI.failIf (29 < k.1) 3 k.2).pos ≤ B.length := by rw [hfo.2]; exact hkp
         have hf2 : s1.pos < (RI.failIf (29 < k.1) 3 k.2).pos := by rw [hfo.2]; omega
         have hf3 : (RI.failIf (29 < k.1) 3 k.2).out.length ≤ most := by rw [hfo.1]; exact hs1o
         rw [← hfo.1]
         rw [hF] at hf1 hf2 hf3 ⊢
         exact EN.cut (hl := [_, _, _, _, _, _, _, _, _, _, _, _]) (⟨_, k, n, _, hF, hgo, hnb, hf1, hf2, hf3, rfl, rfl⟩) sB rfl tK sF
        ·
         have hF : RI.failIf (29 < k.1) 3 k.2 = k.2 := failIf_n oM
         refine CG.skip ?_
         have hfo := failIf_out (e := 3) (s := k.2) (q := 29 < k.1)
         have hf1 : (RI.failIf (29 < k.1) 3 k.2).pos ≤ B.length := by rw [hfo.2]; exact hkp
         have hf2 : s1.pos < (RI.failIf (29 < k.1) 3 k.2).pos := by rw [hfo.2]; omega
         have hf3 : (RI.failIf (29 < k.1) 3 k.2).out.length ≤ most := by rw [hfo.1]; exact hs1o
         rw [← hfo.1]
         rw [hF] at hf1 hf2 hf3 ⊢
         exact EN.cut (hl := [_, _, _, _, _, _, _, _, _, _, _, _]) (⟨_, k, n, _, hF, hgo, hnb, hf1, hf2, hf3, rfl, rfl⟩) sB rfl tK sF
       ·
        have hF : RI.failIf (29 < k.1) 3 k.2 = k.2 := failIf_f (fun h => g75 oM)
        refine G.skip rfl rfl rfl (G.skip rfl rfl rfl (G.q rfl rfl rfl rfl (q_pick_f rfl rfl rfl) (G.nil (EN.sub (sC 0 (sC 6 (sC 7 (sC 8 (sC 9 (sC 10 (sC 11 (sC 13 (sC 14 (sC 78 Sub.nil)))))))))) ?_))))
        refine EN.then (CG.cond_f rfl ?_)
        refine CG.skip ?_
        have hfo := failIf_out (e := 3) (s := k.2) (q := 29 < k.1)
        have hf1 : (RI.failIf (29 < k.1) 3 k.2).pos ≤ B.length := by rw [hfo.2]; exact hkp
        have hf2 : s1.pos < (RI.failIf (29 < k.1) 3 k.2).pos := by rw [hfo.2]; omega
        have hf3 : (RI.failIf (29 < k.1) 3 k.2).out.length ≤ most := by rw [hfo.1]; exact hs1o
        rw [← hfo.1]
        rw [hF] at hf1 hf2 hf3 ⊢
        exact EN.cut (hl := [_, _, _, _, _, _, _, _, _, _, _, _]) (⟨_, k, n, _, hF, hgo, hnb, hf1, hf2, hf3, rfl, rfl⟩) sB rfl tK sF
      ·
       rintro L H ⟨s3, k, n, w, hF, hgo, hnb, hs3p, hs3m, hs3o, rfl, rfl⟩
       try dsimp only [List.cons_append, List.nil_append]
       unfold RI.pack3 at hgo
       try dsimp only at hgo
       rw [hF] at hgo
       refine CG.ownLen (T := 5) (v := w) tK1 (fun wad wc hw hl1 hl2 => ?_)
       subst hw
       refine CG.seq (CG.sr (G.mv ?_))
       refine G.np ?_
       refine G.q rfl rfl rfl rfl (q_field0 rfl rfl fo_128_4_F37) (G.ld ag_3_F1 ?_)
       refine G.q rfl rfl rfl rfl (q_neq rfl rfl rfl) (G.nil (EN.then ?_))
       refine CG.cond rfl (fun h85 => ?_) (fun h85 => ?_)
       ·
        rw [if_pos oM] at hgo
        have hZ2 : Z = s3 := by rw [← hgo]; exact packedGo_stop oM
        refine CG.ret (EN.then_ret (EN.in_ret ?_))
        refine EN.then_ret (EN.in_ret ?_)
        rw [hZ2]
        try rw [← hxo]
        exact fin_ret0 rfl tK sF (⟨rfl, _, rfl⟩) _ (.inl rfl)
       ·
        rw [if_neg oM] at hgo
        have hk29 : k.1 < 30 := by
          have := (failIf_ok (e := 3) (s := k.2) (q := 29 < k.1) (by decide) (by rw [hF]; omega)).1; omega
        have hdb := Infl.distBase_le (i := k.1) oM
        refine CG.skip (EN.ts ?_)
        refine CG.regC [89, 94] (Keeps _ [own 3 1 (.slice (some ⟨g3, o3, none⟩) 30 k3) 30 (((List.range 30).map db1).map iv), own 3 1 (.slice (some ⟨g4, o4, none⟩) 30 k4) 30 (((List.range 30).map db2).map iv)]) mixed (by kernel_rfl) (fun w hw => Keeps.of hw tK) ?_
        refine G.mv ?_
        refine G.mv ?_
        refine G.q rfl rfl rfl rfl (q_ixad1 rfl rfl rfl se_78_F5 sz_3_F1 (hk29)) (G.rK rfl rfl rfl rfl rfl (fun R => r_loadRd rfl rfl ag_3_F1 mB rd_own (get_dst1 hk29)) ?_)
        refine G.mv ?_
        refine G.mv ?_
        refine G.mv ?_
        refine G.q rfl rfl rfl rfl (q_ixad1 rfl rfl rfl se_78_F5 sz_3_F1 (hk29)) (G.rK rfl rfl rfl rfl rfl (fun R => r_loadRd rfl rfl ag_3_F1 mB rd_own (get_dst2 hk29)) ?_)
        refine G.call (xs := [_, _]) rfl rfl (number5_spec b c most ad B (s3) _ (Infl.distBase k.1).2 p hB hBc oM oM oM) bd_83_F38 rfl rfl rfl rfl tK (fun _ _ _ w hR hw => by obtain ⟨_, rfl⟩ := hR; exact Keeps.of hw tK) ?_
        rintro _ _ ⟨rfl, rfl⟩
        obtain ⟨z, hz⟩ : ∃ w9, RI.number B (Infl.distBase k.1).2 s3 = w9 := ⟨_, rfl⟩
        have hzp := number_pos (n := (Infl.distBase k.1).2) hs3p
        have hzl := number_lt (B := B) (n := (Infl.distBase k.1).2) (s := s3)
        have hzo := number_out (B := B) (n := (Infl.distBase k.1).2) (s := s3)
        have hzm := number_mono (B := B) (n := (Infl.distBase k.1).2) (s := s3)
        have hp13 := pow14 (k := (Infl.distBase k.1).2) oM
        rw [hz] at hzp hzl hzo hzm hgo ⊢
        try dsimp only at hgo
        rw [← hzo] at hs3o ⊢
        have hzl2 : z.1 ≤ 16384 := by omega
        try dsimp only [List.cons_append, List.nil_append]
        refine G.q rfl rfl rfl rfl (q_add_i rfl rfl rfl oM) (G.as ?_)
        refine G.nil (EN.sub (sC 0 (sC 6 (sC 7 (sC 8 (sC 9 (sC 10 (sC 11 (sC 13 (sC 15 Sub.nil))))))))) ?_)
        refine EN.then ?_
        refine CG.cut (fun L H => ∃ (s4 : RI.St) (bk : Nat) (w : Value), 1 ≤ bk ∧ bk ≤ 200000 ∧ (s4.err = 0 → bk ≤ s4.out.length) ∧ RI.packedGo B most (RI.codes ls) (RI.codes ds) g (RI.copyR most bk n s4) = Z ∧ s4.pos ≤ B.length ∧ s1.pos < s4.pos ∧ s4.out.length ≤ most ∧ L = [(0, .pointer (some ⟨b, 0, none⟩)), (6, .slice cad1 (RI.codes ls).length cc1), (7, .slice cad2 (RI.codes ds).length cc2), (8, .slice (some ⟨g1, o1, none⟩) 29 k1), (9, .slice (some ⟨g2, o2, none⟩) 29 k2), (10, .slice (some ⟨g3, o3, none⟩) 30 k3), (11, .slice (some ⟨g4, o4, none⟩) 30 k4), (13, .int .i64 (n : Nat)), (15, .int .i64 (bk : Nat))] ∧ H = [own 125 1 (.slice cad1 (RI.codes ls).length cc1) (RI.codes ls).length vs1, rowsH 4 vs1 ((RI.codes ls).map fun c => c.map bv), own 125 1 (.slice cad2 (RI.codes ds).length cc2) (RI.codes ds).length vs2, rowsH 4 vs2 ((RI.codes ds).map fun c => c.map bv), own 3 1 (.slice (some ⟨g1, o1, none⟩) 29 k1) 29 (((List.range 29).map (fun i => (Infl.lengthBase i).1)).map iv), own 3 1 (.slice (some ⟨g2, o2, none⟩) 29 k2) 29 (((List.range 29).map (fun i => (Infl.lengthBase i).2)).map iv), own 3 1 (.slice (some ⟨g3, o3, none⟩) 30 k3) 30 (((List.range 30).map db1).map iv), own 3 1 (.slice (some ⟨g4, o4, none⟩) 30 k4) 30 (((List.range 30).map db2).map iv), cel b 128 [.slice ad B.length c, .int .i64 ((s4).pos : Nat), w, .int .i64 (most : Nat), .int .i64 ((s4).err : Nat)], own 5 1 w (s4).out.length ((s4).out.map u8v), q, p] ++ F) ?_ ?_
        ·
         refine CG.seq ?_
         obtain ⟨bk, hbk⟩ : ∃ n, (Infl.distBase k.1).1 + z.1 = n := ⟨_, rfl⟩
         rw [show ((Infl.distBase k.1).1 : Int) + z.1 = (bk : Nat) by omega]
         rw [hbk] at hgo
         have hbk1 : 1 ≤ bk := by omega
         have hbk2 : bk ≤ 200000 := by omega
         refine CG.reg (G.mv ?_)
         refine G.np ?_
         refine G.q rfl rfl rfl rfl (q_field0 rfl rfl fo_128_4_F37) (G.ld ag_3_F1 ?_)
         refine G.q rfl rfl rfl rfl (q_eql rfl rfl rfl) (G.mv ?_)
         refine G.split (t := 102) rfl (fun g102 => ?_) (fun g102 => ?_)
         ·
          refine G.mv ?_
          refine G.mv ?_
          refine G.np ?_
          refine G.q rfl rfl rfl rfl (q_field0 rfl rfl fo_128_2_F37) (G.ld ag_80_F2 ?_)
          refine G.q rfl rfl rfl rfl (q_len_sl rfl rfl se_80_F2) (G.q rfl rfl rfl rfl (q_gtr rfl rfl rfl) (G.q rfl rfl rfl rfl (q_pick_t rfl rfl rfl) (G.nil (EN.sub (sC 0 (sC 6 (sC 7 (sC 8 (sC 9 (sC 10 (sC 11 (sC 13 (sC 15 (sC 110 Sub.nil)))))))))) ?_))))
          refine EN.then ?_
          refine CG.cond rfl (fun h110 => ?_) (fun h110 => ?_)
          ·
           have hF4 : RI.failIf (z.2.out.length < bk) 3 z.2 = RI.fail 3 z.2 := failIf_p oM
           refine CG.reg (G.mv ?_)
           refine G.call (xs := [_, _]) rfl rfl (fail_spec b (.slice ad B.length c) most 3 z.2 _) bd_82_F37 rfl rfl rfl rfl tK (fun _ _ _ _ _ _ => trivial) ?_
           rintro _ _ ⟨rfl, rfl⟩
           try dsimp only [List.cons_append, List.nil_append]
           refine G.nil ?_
           have hfo := failIf_out (e := 3) (s := z.2) (q := z.2.out.length < bk)
           have hf1 : (RI.failIf (z.2.out.length < bk) 3 z.2).pos ≤ B.length := by rw [hfo.2]; exact hzp
           have hf2 : s1.pos < (RI.failIf (z.2.out.length < bk) 3 z.2).pos := by rw [hfo.2]; omega
           have hf3 : (RI.failIf (z.2.out.length < bk) 3 z.2).out.length ≤ most := by rw [hfo.1]; exact hs3o
           have hbk3 : (RI.failIf (z.2.out.length < bk) 3 z.2).err = 0 → bk ≤ (RI.failIf (z.2.out.length < bk) 3 z.2).out.length := fun h => by have := (failIf_ok (by decide) h).1; rw [hfo.1]; omega
           rw [← hfo.1]
           rw [hF4] at hf1 hf2 hf3 hbk3 hgo ⊢
           exact EN.cut (hl := [_, _, _, _, _, _, _, _, _, _, _, _]) (⟨_, bk, _, hbk1, hbk2, hbk3, hgo, hf1, hf2, hf3, rfl, rfl⟩) sB rfl tK sF
          ·
           have hF4 : RI.failIf (z.2.out.length < bk) 3 z.2 = z.2 := failIf_n oM
           refine CG.skip ?_
           have hfo := failIf_out (e := 3) (s := z.2) (q := z.2.out.length < bk)
           have hf1 : (RI.failIf (z.2.out.length < bk) 3 z.2).pos ≤ B.length := by rw [hfo.2]; exact hzp
           have hf2 : s1.pos < (RI.failIf (z.2.out.length < bk) 3 z.2).pos := by rw [hfo.2]; omega
           have hf3 : (RI.failIf (z.2.out.length < bk) 3 z.2).out.length ≤ most := by rw [hfo.1]; exact hs3o
           have hbk3 : (RI.failIf (z.2.out.length < bk) 3 z.2).err = 0 → bk ≤ (RI.failIf (z.2.out.length < bk) 3 z.2).out.length := fun h => by have := (failIf_ok (by decide) h).1; rw [hfo.1]; omega
           rw [← hfo.1]
           rw [hF4] at hf1 hf2 hf3 hbk3 hgo ⊢
           exact EN.cut (hl := [_, _, _, _, _, _, _, _, _, _, _, _]) (⟨_, bk, _, hbk1, hbk2, hbk3, hgo, hf1, hf2, hf3, rfl, rfl⟩) sB rfl tK sF
         ·
          have hF4 : RI.failIf (z.2.out.length < bk) 3 z.2 = z.2 := failIf_f (fun h => g102 oM)
          refine G.skip rfl rfl rfl (G.skip rfl rfl rfl (G.skip rfl rfl rfl (G.skip rfl rfl rfl (G.skip rfl rfl rfl (G.skip rfl rfl rfl ?_)))))
          refine G.skip rfl rfl rfl (G.q rfl rfl rfl rfl (q_pick_f rfl rfl rfl) (G.nil (EN.sub (sC 0 (sC 6 (sC 7 (sC 8 (sC 9 (sC 10 (sC 11 (sC 13 (sC 15 (sC 110 Sub.nil)))))))))) ?_)))
          refine EN.then (CG.cond_f rfl ?_)
          refine CG.skip ?_
          have hfo := failIf_out (e := 3) (s := z.2) (q := z.2.out.length < bk)
          have hf1 : (RI.failIf (z.2.out.length < bk) 3 z.2).pos ≤ B.length := by rw [hfo.2]; exact hzp
          have hf2 : s1.pos < (RI.failIf (z.2.out.length < bk) 3 z.2).pos := by rw [hfo.2]; omega
          have hf3 : (RI.failIf (z.2.out.length < bk) 3 z.2).out.length ≤ most := by rw [hfo.1]; exact hs3o
          have hbk3 : (RI.failIf (z.2.out.length < bk) 3 z.2).err = 0 → bk ≤ (RI.failIf (z.2.out.length < bk) 3 z.2).out.length := fun h => by have := (failIf_ok (by decide) h).1; rw [hfo.1]; omega
          rw [← hfo.1]
          rw [hF4] at hf1 hf2 hf3 hbk3 hgo ⊢
          exact EN.cut (hl := [_, _, _, _, _, _, _, _, _, _, _, _]) (⟨_, bk, _, hbk1, hbk2, hbk3, hgo, hf1, hf2, hf3, rfl, rfl⟩) sB rfl tK sF
        ·
         rintro L H ⟨s4, bk, w, hbk1, hbk2, hbk3, hgo, hs4p, hs4m, hs4o, rfl, rfl⟩
         try dsimp only [List.cons_append, List.nil_append]
         refine CG.sr (G.as ?_)
         refine G.nil (EN.then (CG.block (CG.loopI (fun m L H => ∃ (j : Nat) (s5 : RI.St) (w : Value), j ≤ n ∧ m = n - j ∧ (s5.err = 0 → bk ≤ s5.out.length) ∧ RI.copyR most bk n s4 = RI.copyR most bk (n - j) s5 ∧ s5.pos = s4.pos ∧ s5.out.length ≤ most ∧ L = [(0, .pointer (some ⟨b, 0, none⟩)), (6, .slice cad1 (RI.codes ls).length cc1), (7, .slice cad2 (RI.codes ds).length cc2), (8, .slice (some ⟨g1, o1, none⟩) 29 k1), (9, .slice (some ⟨g2, o2, none⟩) 29 k2), (10, .slice (some ⟨g3, o3, none⟩) 30 k3), (11, .slice (some ⟨g4, o4, none⟩) 30 k4), (13, .int .i64 (n : Nat)), (15, .int .i64 (bk : Nat)), (16, .int .i64 (j : Nat))] ∧ H = [own 125 1 (.slice cad1 (RI.codes ls).length cc1) (RI.codes ls).length vs1, rowsH 4 vs1 ((RI.codes ls).map fun c => c.map bv), own 125 1 (.slice cad2 (RI.codes ds).length cc2) (RI.codes ds).length vs2, rowsH 4 vs2 ((RI.codes ds).map fun c => c.map bv), own 3 1 (.slice (some ⟨g1, o1, none⟩) 29 k1) 29 (((List.range 29).map (fun i => (Infl.lengthBase i).1)).map iv), own 3 1 (.slice (some ⟨g2, o2, none⟩) 29 k2) 29 (((List.range 29).map (fun i => (Infl.lengthBase i).2)).map iv), own 3 1 (.slice (some ⟨g3, o3, none⟩) 30 k3) 30 (((List.range 30).map db1).map iv), own 3 1 (.slice (some ⟨g4, o4, none⟩) 30 k4) 30 (((List.range 30).map db2).map iv), cel b 128 [.slice ad B.length c, .int .i64 ((s5).pos : Nat), w, .int .i64 (most : Nat), .int .i64 ((s5).err : Nat)], own 5 1 w (s5).out.length ((s5).out.map u8v), q, p] ++ F) (n - 0) (hl := [_, _, _, _, _, _, _, _, _, _, _, _]) (⟨0, s4, _, Nat.zero_le _, rfl, hbk3, rfl, rfl, hs4o, rfl, rfl⟩) sB rfl tK sF ?_)))
         rintro m L H ⟨j, s5, w, hj, rfl, hbk5, hco, hs5p, hs5o, rfl, rfl⟩
         try dsimp only [List.cons_append, List.nil_append]
         refine CG.ownLen (T := 5) (v := w) tK1 (fun wad wc hw hl1 hl2 => ?_)
         subst hw
         refine CG.seq (CG.sr (G.mv ?_))
         refine G.mv ?_
         refine G.q rfl rfl rfl rfl (q_lss rfl rfl rfl) (G.mv ?_)
         refine G.split (t := 116) rfl (fun g116 => ?_) (fun g116 => ?_)
         ·
          refine G.mv ?_
          refine G.np ?_
          refine G.q rfl rfl rfl rfl (q_field0 rfl rfl fo_128_4_F37) (G.ld ag_3_F1 ?_)
          refine G.q rfl rfl rfl rfl (q_eql rfl rfl rfl) (G.q rfl rfl rfl rfl (q_pick_t rfl rfl rfl) (G.nil (EN.sub (sC 0 (sC 6 (sC 7 (sC 8 (sC 9 (sC 10 (sC 11 (sC 13 (sC 15 (sC 16 (sC 122 Sub.nil))))))))))) ?_)))
          refine EN.then ?_
          refine CG.cond rfl (fun h122 => ?_) (fun h122 => ?_)
          ·
           have hs50 : s5.err = 0 := by omega
           have hbk6 := hbk5 hs50
           have hco2 := hco
           rw [show n - j = (n - (j + 1)) + 1 by omega, copyR_step hs50] at hco2
           refine CG.someRd (p := own 5 1 (.slice wad s5.out.length wc) (s5).out.length ((s5).out.map u8v)) mB rd_own (by simp; omega) (fun gw ow e => ?_)
           subst e
           have ebk : (s5.out.length : Int) - bk = ((s5.out.length - bk : Nat) : Int) := by omega
           refine CG.skip (EN.ts (CG.block ?_))
           refine CG.regT [] mixed (by kernel_rfl) ?_
           refine G.mv ?_
           refine G.mv ?_
           refine G.np ?_
           refine G.q rfl rfl rfl rfl (q_field0 rfl rfl fo_128_2_F37) (G.ld ag_80_F2 ?_)
           refine G.mv ?_
           refine G.np ?_
           refine G.q rfl rfl rfl rfl (q_field0 rfl rfl fo_128_2_F37) (G.ld ag_80_F2 ?_)
           refine G.q rfl rfl rfl rfl (q_len_sl rfl rfl se_80_F2) (G.mv ?_)
           refine G.q rfl rfl rfl rfl (q_sub_i rfl rfl rfl oM) ?_
           rw [ebk]
           refine G.q rfl rfl rfl rfl (q_ixad1 rfl rfl rfl se_80_F2 sz_5_F6 oM) (G.r rfl rfl rfl rfl (r_loadRd rfl rfl ag_5_F6 mB rd_own (get_u8v oM)) ?_)
           refine G.call (xs := [_, _]) rfl rfl (put5_spec b (.slice ad B.length c) most s5 _ (s5.out.getD (s5.out.length - bk) 0) oM) bd_110_F38 rfl rfl rfl rfl tK (fun _ _ _ _ _ _ => trivial) ?_
           rintro _ _ ⟨rfl, w2, rfl⟩
           try dsimp only [List.cons_append, List.nil_append]
           refine G.nil (EN.sub (sC 0 (sC 6 (sC 7 (sC 8 (sC 9 (sC 10 (sC 11 (sC 13 (sC 15 (sC 16 Sub.nil)))))))))) ?_)
           refine EN.in_normal (EN.tr ?_)
           refine G.mv ?_
           refine G.q rfl rfl rfl rfl (q_add_i rfl rfl rfl oM) (G.as ?_)
           refine G.nil ?_
           rw [show (j : Int) + 1 = ((j + 1 : Nat) : Int) by omega]
           exact EN.round (hl := [_, _, _, _, _, _, _, _, _, _, _, _]) (n - (j + 1)) oM (⟨j + 1, _, _, by omega, rfl, fun _ => Nat.le_trans (hbk5 hs50) put_len, hco2, (put_out hs5o).2.trans hs5p, (put_out hs5o).1, rfl, rfl⟩) sB rfl tK sF
          ·
           have hCE : RI.copyR most bk n s4 = s5 := by rw [hco]; exact copyR_stop oM
           rw [hCE] at hgo
           obtain ⟨s9, hs9⟩ : ∃ s9, s5 = s9 := ⟨_, rfl⟩
           subst hs9
           have hs9p : s5.pos ≤ B.length := by omega
           have hs9o := hs5o
           have hs9m : s5.err = 0 → s1.pos < s5.pos := fun _ => by omega
           refine CG.exit ?_
           refine EN.then_exit (EN.then_exit (EN.in_here ?_))
           refine EN.in_normal ?_
           exact EN.round (hl := [_, _, _, _, _, _, _, _, _, _, _, _]) (g) oM (⟨s5, _, hs9p, hs9o, fun h => by have := hs9m h; omega, hgo, rfl, rfl⟩) sB rfl tK sF
         ·
          have hCE : RI.copyR most bk n s4 = s5 := by rw [hco, show n - j = 0 by omega, copyR_zero]
          rw [hCE] at hgo
          obtain ⟨s9, hs9⟩ : ∃ s9, s5 = s9 := ⟨_, rfl⟩
          subst hs9
          have hs9p : s5.pos ≤ B.length := by omega
          have hs9o := hs5o
          have hs9m : s5.err = 0 → s1.pos < s5.pos := fun _ => by omega
          refine G.skip rfl rfl rfl (G.skip rfl rfl rfl (G.skip rfl rfl rfl (G.skip rfl rfl rfl (G.skip rfl rfl rfl (G.q rfl rfl rfl rfl (q_pick_f rfl rfl rfl) ?_)))))
          refine G.nil (EN.sub (sC 0 (sC 6 (sC 7 (sC 8 (sC 9 (sC 10 (sC 11 (sC 13 (sC 15 (sC 16 (sC 122 Sub.nil))))))))))) ?_)
          refine EN.then (CG.cond_f rfl ?_)
          refine CG.exit ?_
          refine EN.then_exit (EN.then_exit (EN.in_here ?_))
          refine EN.in_normal ?_
          exact EN.round (hl := [_, _, _, _, _, _, _, _, _, _, _, _]) (g) oM (⟨s5, _, hs9p, hs9o, fun h => by have := hs9m h; omega, hgo, rfl, rfl⟩) sB rfl tK sF
 ·
  have hZ2 : Z = s1 := by rw [← hgo]; exact packedGo_stop oM
  refine CG.exit ?_
  refine EN.then_exit (EN.then_exit (EN.in_here ?_))
  rw [hZ2]
  try rw [← hxo]
  exact fin_ret0 rfl tK sF (⟨rfl, _, rfl⟩) _ (.inr rfl)

end Go.Eng
/-
  The reference (ref05): Inflate.
-/
set_option linter.unusedVariables false
set_option linter.unusedSimpArgs false
namespace Go.Eng
open Go.Proofs
theorem bT_80_9_F42 : bytesT Tryz.prog 80 9 = some 5 := by kernel_rfl
theorem bd_81_F42 : bodied Tryz.prog 81 = true := by kernel_rfl
theorem bd_84_F42 : bodied Tryz.prog 84 = true := by kernel_rfl
theorem bd_85_F42 : bodied Tryz.prog 85 = true := by kernel_rfl
theorem bd_86_F42 : bodied Tryz.prog 86 = true := by kernel_rfl
theorem bd_87_F42 : bodied Tryz.prog 87 = true := by kernel_rfl
theorem bu_128_0_3_F42 : ∀ (x0a : Option Addr) (x0n x0c : Nat) (x3 : Int) (w : World), (Instr.build 128 [(0, .slice x0a x0n x0c), (3, .int .i64 x3)].toArray).run Tryz.prog w = .ok (.agg [.slice x0a x0n x0c, .int .i64 0, .slice none 0 0, .int .i64 x3, .int .i64 0].toArray) w := fun _ _ _ _ _ => by kernel_rfl

def Good (B : List Bool) (most : Nat) (s s' : RI.St) : Prop := s.pos ≤ s'.pos ∧ (s.pos ≤ B.length → s'.pos ≤ B.length) ∧ (s.out.length ≤ most → s'.out.length ≤ most)
theorem Good.refl {B : List Bool} {most : Nat} {s : RI.St} : Good B most s s := ⟨Nat.le_refl _, fun h => h, fun h => h⟩
theorem Good.trans {B : List Bool} {most : Nat} {s s' s'' : RI.St} (h1 : Good B most s s') (h2 : Good B most s' s'') : Good B most s s'' := ⟨Nat.le_trans h1.1 h2.1, fun h => h2.2.1 (h1.2.1 h), fun h => h2.2.2 (h1.2.2 h)⟩
section
variable {B : List Bool} {most : Nat} {s : RI.St}
theorem good_number {n : Nat} : Good B most s (RI.number B n s).2 := ⟨number_mono, number_pos, fun h => by rw [number_out]; exact h⟩
theorem good_fail {e : Nat} : Good B most s (RI.fail e s) := ⟨by rw [fail_out.2]; exact Nat.le_refl _, fun h => by rw [fail_out.2]; exact h, fun h => by rw [fail_out.1]; exact h⟩
theorem good_failIf {e : Nat} {q : Prop} [Decidable q] : Good B most s (RI.failIf q e s) := ⟨by rw [failIf_out.2]; exact Nat.le_refl _, fun h => by rw [failIf_out.2]; exact h, fun h => by rw [failIf_out.1]; exact h⟩
theorem good_symbol {cs : List (List Bool)} : Good B most s (RI.symbol B cs s).2 := ⟨symbol_mono.1, fun h => (symbol_pos h).1, fun h => by
  have : (RI.symbol B cs s).2.out = s.out := by
    unfold RI.symbol; split
    · rfl
    · dsimp only; split
      · exact fail_out.1
      · rfl
  rw [this]; exact h⟩
theorem put_pos {x : UInt8} : (RI.put most x s).pos = s.pos := by unfold RI.put; split; rfl; split <;> rfl
theorem good_put {x : UInt8} : Good B most s (RI.put most x s) := ⟨by rw [put_pos]; exact Nat.le_refl _, fun h => by rw [put_pos]; exact h, fun h => (put_out h).1⟩
theorem good_storedGo : ∀ (k : Nat) (s : RI.St), Good B most s (RI.storedGo B most k s)
  | 0, s => .refl
  | k + 1, s => by rw [RI.storedGo]; split; exact .refl; exact (good_number.trans good_put).trans (good_storedGo k _)
theorem good_stored (h8 : B.length % 8 = 0) : Good B most s (RI.stored B most s) :=
  Good.trans (s' := ⟨RI.up s.pos, s.out, s.err⟩) ⟨by unfold RI.up; simp only; omega, fun h => by unfold RI.up; simp only; omega, fun h => h⟩ (good_number.trans (good_number.trans (good_failIf.trans (good_storedGo _ _))))
theorem good_clGo : ∀ (os f : List Nat) (s : RI.St), Good B most s (RI.clGo B os f s).2
  | [], f, s => .refl
  | o :: os, f, s => by rw [RI.clGo]; split; exact .refl; exact good_number.trans (good_clGo os _ _)
theorem good_repA {t u w : Nat} {l : List Nat} : Good B most s (RI.repA t u w l s).2 := good_failIf
theorem good_lensGo (cs : List (List Bool)) (t : Nat) : ∀ (m : Nat) (l : List Nat) (s : RI.St), Good B most s (RI.lensGo B cs t m l s).2
  | 0, l, s => .refl
  | m + 1, l, s => by
    rw [RI.lensGo]
    split
    · exact .refl
    · refine Good.trans (good_symbol (cs := cs)) ?_
      dsimp only
      split
      · split
        · exact good_fail
        · exact good_number.trans (good_repA.trans (good_lensGo cs t m _ _))
      · split
        · exact good_number.trans (good_repA.trans (good_lensGo cs t m _ _))
        · split
          · exact good_number.trans (good_repA.trans (good_lensGo cs t m _ _))
          · exact good_repA.trans (good_lensGo cs t m _ _)
theorem good_dyn4 {nl : Nat} {z : List Nat × RI.St} : Good B most z.2 (RI.dyn4 nl z).2.2 := by
  unfold RI.dyn4; split
  · exact .refl
  · split
    · exact good_fail
    · exact .refl
theorem good_dyn3 {nl nd : Nat} {f : List Nat} : Good B most s (RI.dyn3 B nl nd f s).2.2 := by
  unfold RI.dyn3; split
  · exact .refl
  · exact (good_lensGo _ _ _ _ _).trans good_dyn4
theorem good_dynamic : Good B most s (RI.dynamic B s).2.2 := good_failIf.trans (good_number.trans (good_number.trans (good_number.trans (good_failIf.trans ((good_clGo _ _ _).trans (good_failIf.trans good_dyn3))))))
theorem good_copyR {bk : Nat} : ∀ (k : Nat) (s : RI.St), Good B most s (RI.copyR most bk k s)
  | 0, s => .refl
  | k + 1, s => by rw [RI.copyR]; split; exact .refl; exact good_put.trans (good_copyR k _)
theorem good_pack3 {n : Nat} {k : Nat × RI.St} : Good B most k.2 (RI.pack3 B most n k) := by
  refine (good_failIf (e := 3) (q := 29 < k.1)).trans ?_
  unfold RI.pack3; dsimp only
  split
  · exact .refl
  · exact good_number.trans (good_failIf.trans (good_copyR _ _))
theorem good_packedGo (l d : List (List Bool)) : ∀ (m : Nat) (s : RI.St), Good B most s (RI.packedGo B most l d m s)
  | 0, s => .refl
  | m + 1, s => by
    rw [RI.packedGo]
    split
    · exact .refl
    · refine Good.trans (good_symbol (cs := l)) ?_
      dsimp only
      split
      · exact .refl
      · split
        · exact good_put.trans (good_packedGo l d m _)
        · split
          · exact good_fail
          · exact good_number.trans (good_symbol.trans (good_pack3.trans (good_packedGo l d m _)))
theorem good_block (h8 : B.length % 8 = 0) {k : Nat} : Good B most s (RI.block B most k s) := by
  unfold RI.block
  split
  · exact good_stored h8
  · split
    · exact good_packedGo _ _ _ _
    · split
      · dsimp only; split
        · exact good_dynamic
        · exact good_dynamic.trans (good_packedGo _ _ _ _)
      · exact good_fail
theorem number_adv {n : Nat} (h : (RI.number B n s).2.err = 0) : s.err = 0 ∧ (RI.number B n s).2.pos = s.pos + n := by
  unfold RI.number at h ⊢
  split at h
  · rename_i h0; exact absurd h h0
  · rename_i h0; split at h
    · exact absurd h (fail_err (by decide))
    · rename_i h1; rw [if_neg h0, if_neg h1]; exact ⟨h, rfl⟩
theorem number_stop {n : Nat} (h : s.err ≠ 0) : RI.number B n s = (0, s) := if_pos h
theorem runGo_stop {g : Nat} (h : s.err ≠ 0) : RI.runGo B most g s = s := by
  cases g with
  | zero => rfl
  | succ g =>
    rw [RI.runGo]
    have h1 : RI.failIf (B.length < s.pos + 3) 6 s = s := failIf_f (fun x => h x.1)
    rw [h1, number_stop h]; dsimp only
    rw [number_stop h]; dsimp only
    rw [if_neg h, if_pos (.inl h)]
theorem dyn_out : ∀ (s : RI.St), (RI.dynamic B s).2.2.out = s.out := by
  have h1 : ∀ (os f : List Nat) (s : RI.St), (RI.clGo B os f s).2.out = s.out := by
    intro os
    induction os with
    | nil => intro f s; rfl
    | cons o os ih => intro f s; rw [RI.clGo]; split; rfl; rw [ih, number_out]
  have hs : ∀ (cs : List (List Bool)) (s : RI.St), (RI.symbol B cs s).2.out = s.out := by
    intro cs s; unfold RI.symbol; split
    · rfl
    · dsimp only; split
      · exact fail_out.1
      · rfl
  have h2 : ∀ (cs : List (List Bool)) (t m : Nat) (l : List Nat) (s : RI.St), (RI.lensGo B cs t m l s).2.out = s.out := by
    intro cs t m
    induction m with
    | zero => intro l s; rfl
    | succ m ih =>
      intro l s
      have h3 : ∀ (t u w : Nat) (l : List Nat) (s : RI.St), (RI.repA t u w l s).2.out = s.out := fun t u w l s => failIf_out.1
      rw [RI.lensGo]
      split
      · rfl
      · dsimp only
        split
        · split
          · rw [fail_out.1, hs]
          · rw [ih, h3, number_out, hs]
        · split
          · rw [ih, h3, number_out, hs]
          · split
            · rw [ih, h3, number_out, hs]
            · rw [ih, h3, hs]
  have h4 : ∀ (nl : Nat) (z : List Nat × RI.St), (RI.dyn4 nl z).2.2.out = z.2.out := by
    intro nl z; unfold RI.dyn4; split
    · rfl
    · split
      · exact fail_out.1
      · rfl
  have h5 : ∀ (nl nd : Nat) (f : List Nat) (s : RI.St), (RI.dyn3 B nl nd f s).2.2.out = s.out := by
    intro nl nd f s; unfold RI.dyn3; split
    · rfl
    · rw [h4, h2]
  intro s
  unfold RI.dynamic RI.dyn1 RI.dyn2
  dsimp only
  rw [h5, failIf_out.1, h1, failIf_out.1, number_out, number_out, number_out, failIf_out.1]
theorem dyn_len : (RI.dynamic B s).2.2.err = 0 → 0 < (RI.dynamic B s).1.length ∧ (RI.dynamic B s).1.length ≤ 320 ∧ 0 < (RI.dynamic B s).2.1.length ∧ (RI.dynamic B s).2.1.length ≤ 320 := by
  have hr : ∀ (t u w : Nat) (l : List Nat) (s : RI.St), l.length ≤ t → (RI.repA t u w l s).1.length ≤ t := by
    intro t u w l s hl
    unfold RI.repA; dsimp only
    split
    · rename_i h; have := (failIf_ok (by decide) h).1; simp; omega
    · exact hl
  have h2 : ∀ (cs : List (List Bool)) (t m : Nat) (l : List Nat) (s : RI.St), l.length ≤ t → (RI.lensGo B cs t m l s).1.length ≤ t := by
    intro cs t m
    induction m with
    | zero => intro l s h; exact h
    | succ m ih =>
      intro l s h
      rw [RI.lensGo]
      split
      · exact h
      · dsimp only
        split
        · split
          · exact h
          · exact ih _ _ (hr _ _ _ _ _ h)
        · split
          · exact ih _ _ (hr _ _ _ _ _ h)
          · split
            · exact ih _ _ (hr _ _ _ _ _ h)
            · exact ih _ _ (hr _ _ _ _ _ h)
  have h3 : ∀ (cs : List (List Bool)) (t m : Nat) (l : List Nat) (s : RI.St), (s.err = 0 → t < m + l.length) → (RI.lensGo B cs t m l s).2.err = 0 → t ≤ (RI.lensGo B cs t m l s).1.length := by
    intro cs t m
    have hre : ∀ (u w : Nat) (l : List Nat) (s : RI.St), 1 ≤ u → ((RI.repA t u w l s).2.err = 0 → (RI.repA t u w l s).1.length = l.length + u) := by
      intro u w l s hu h
      unfold RI.repA at h ⊢; dsimp only at h ⊢
      rw [if_pos h]; simp
    induction m with
    | zero => intro l s h he; have := h he; show t ≤ l.length; omega
    | succ m ih =>
      intro l s h
      rw [RI.lensGo]
      split
      · rename_i hh; intro he; rcases hh with hh | hh
        · exact hh
        · exact absurd he hh
      · rename_i hh
        dsimp only
        have h0 : t < m + 1 + l.length := h (by omega)
        split
        · split
          · intro he; exact absurd he (fail_err (by decide))
          · exact ih _ _ (fun e => by have := hre _ _ _ _ (by omega) e; omega)
        · split
          · exact ih _ _ (fun e => by have := hre _ _ _ _ (by omega) e; omega)
          · split
            · exact ih _ _ (fun e => by have := hre _ _ _ _ (by omega) e; omega)
            · exact ih _ _ (fun e => by have := hre _ _ _ _ (by omega) e; omega)
  have h4 : ∀ (nl nd : Nat) (f : List Nat) (s : RI.St), 0 < nl → nl ≤ 288 → 0 < nd → nd ≤ 32 → (RI.dyn3 B nl nd f s).2.2.err = 0 → (RI.dyn3 B nl nd f s).1.length = nl ∧ (RI.dyn3 B nl nd f s).2.1.length = nd := by
    intro nl nd f s a1 a2 a3 a4
    unfold RI.dyn3
    split
    · rename_i h; intro h2; exact absurd h2 h
    · rename_i h
      have hl := h2 (RI.codes f) (nl + nd) (nl + nd + 1) [] s (by simp)
      have hg := h3 (RI.codes f) (nl + nd) (nl + nd + 1) [] s (fun _ => by simp)
      generalize RI.lensGo B (RI.codes f) (nl + nd) (nl + nd + 1) [] s = z at hl hg
      unfold RI.dyn4
      split
      · rename_i h5; intro h6; exact absurd h6 h5
      · rename_i h5
        split
        · intro h6; exact absurd h6 (fail_err (by decide))
        · intro _; have := hg (by omega); simp; omega
  intro he
  unfold RI.dynamic RI.dyn1 RI.dyn2 at he ⊢
  dsimp only at he ⊢
  have n1 := number_lt (B := B) (n := 5) (s := RI.failIf (B.length < s.pos + 14) 6 s)
  have n2 := number_lt (B := B) (n := 5) (s := (RI.number B 5 (RI.failIf (B.length < s.pos + 14) 6 s)).2)
  have := h4 _ _ _ _ (by omega) (by omega) (by omega) (by omega) he
  omega
end
open Classical in
theorem rd_exS {ps : List HP} {i : Nat} {p : HP} {ad : Option Addr} {xs : List Value} (hi : ps[i]? = some p) (h : RdA p ad xs) : RdA (exS (fun _ : Unit => ps)) ad xs := by
  rintro S w ⟨_, hs⟩ j v hj
  obtain ⟨S', h1⟩ := star_get hs hi
  refine h (fun k => S k ∧ S' k) w ?_ j v hj
  refine cast (congrArg _ ?_) h1
  funext k
  unfold res
  by_cases h2 : S' k <;> by_cases h3 : S k <;> simp [h2, h3]

attribute [local irreducible] cel celZ own ownM ownG exS bb wb rowsH RI.number RI.symbol RI.fail RI.failIf RI.codes RI.put RI.stored RI.packed RI.dynamic

set_option maxRecDepth 100000 in
set_option maxHeartbeats 1000000 in
theorem rinflate_spec (s : List UInt8) (a most : Nat) (hs : s.length ≤ 100000000) (ha : a ≤ s.length) (hm : most ≤ 65536) : Spec Tryz.prog 58 #[str s, .int .i64 a, .int .i64 most] [] (Ret fun v hl => v = .tuple #[str (RI.inflate (bb (s.drop a)) most).1, .int .i64 ((RI.inflate (bb (s.drop a)) most).2.1 : Nat), .int .i64 ((RI.inflate (bb (s.drop a)) most).2.2 : Nat)] ∧ hl = []) := by
 obtain ⟨T, hT⟩ : ∃ T, RI.inflate (bb (s.drop a)) most = T := ⟨_, rfl⟩
 have hE := hT
 unfold RI.inflate at hE
 rw [hT]
 have hBl := bb_len (s.drop a)
 rw [List.length_drop] at hBl
 refine Spec.enter Tryz.func58 rfl rfl rfl (fun F w0 => ?_)
 dsimp only [argL, List.cons_append, List.nil_append]
 refine CG.sr (G.as ?_)
 refine G.as ?_
 refine G.as ?_
 refine G.nil (EN.ts (CG.sr (G.mv ?_)))
 refine G.q rfl rfl rfl rfl (q_lss rfl rfl rfl) (G.mv ?_)
 refine G.split (t := 18) rfl (fun g18 => absurd g18 oM) (fun g18 => ?_)
 refine G.mv ?_
 refine G.mv ?_
 refine G.q rfl rfl rfl rfl (q_len_str rfl rfl us_9_F1) (G.q rfl rfl rfl rfl (q_gtr rfl rfl rfl) (G.q rfl rfl rfl rfl (q_pick_f rfl rfl rfl) (G.mv ?_)))
 refine G.split (t := 24) rfl (fun g24 => absurd g24 oM) (fun g24 => ?_)
 refine G.mv ?_
 refine G.q rfl rfl rfl rfl (q_lss rfl rfl rfl) (G.q rfl rfl rfl rfl (q_pick_f rfl rfl rfl) (G.mv ?_))
 refine G.split (t := 28) rfl (fun g28 => absurd g28 oM) (fun g28 => ?_)
 refine G.mv ?_
 refine G.q rfl rfl rfl rfl (q_gtr rfl rfl rfl) (G.q rfl rfl rfl rfl (q_pick_f rfl rfl rfl) (G.nil (EN.sub (sC 0 (sC 1 (sC 2 (sC 6 (sC 7 (sC 8 (sC 31 Sub.nil))))))) ?_)))
 refine EN.then ?_
 refine CG.cond rfl (fun h31 => absurd h31 oM) (fun h31 => ?_)
 refine CG.skip (EN.tsr (G.mv ?_))
 refine G.mv ?_
 refine G.q rfl rfl rfl rfl (q_slice_lo rfl rfl rfl us_9_F1 (ha)) (G.call (xs := [_]) rfl rfl (bits03_spec _ (by simp; omega)) bd_81_F42 rfl rfl rfl rfl tK (fun _ _ _ _ _ _ => trivial) ?_)
 rintro v hl rfl
 obtain ⟨B, hBe⟩ : ∃ B, bb (s.drop a) = B := ⟨_, rfl⟩
 rw [hBe] at hBl hE ⊢
 have h8 : B.length % 8 = 0 := by omega
 refine G.fact (p := own 4 1 v B.length (B.map bv)) (α := ∃ ad c, v = .slice ad B.length c ∧ B.length ≤ c) tK1 (fun h hh => (by obtain ⟨_, _, a8, c8, e, h8⟩ := own_shape hh; exact ⟨a8, c8, e, h8⟩)) (fun hv8 => ?_)
 obtain ⟨ad, c, rfl, hcB⟩ := hv8
 obtain ⟨Z, hZ⟩ : ∃ Z, RI.runGo B most (B.length + 1) ⟨0, [], 0⟩ = Z := ⟨_, rfl⟩
 rw [hZ] at hE
 try dsimp only at hE
 try dsimp only [List.cons_append, List.nil_append]
 refine G.mv ?_
 refine G.q rfl rfl rfl rfl (q_build rfl rfl (bu_128_0_3_F42 _ _ _ _)) (G.e rfl rfl rfl rfl (e_box rfl rfl) (fun _ _ _ _ _ _ => trivial) ?_)
 rintro _ _ ⟨b38, rfl, rfl⟩
 refine G.as ?_
 refine G.nil (EN.sub (sC 6 (sC 7 (sC 8 (sC 9 Sub.nil)))) ?_)
 refine EN.ts (CG.block (CG.ownNil 5 1 ?_))
 refine CG.loopI (fun m L H => ∃ (s1 : RI.St) (w : Value), s1.pos ≤ B.length ∧ s1.out.length ≤ most ∧ (s1.err = 0 → B.length < m + s1.pos) ∧ RI.runGo B most m s1 = Z ∧ L = [(9, .pointer (some ⟨b38, 0, none⟩))] ∧ H = [cel b38 128 [.slice ad B.length c, .int .i64 ((s1).pos : Nat), w, .int .i64 (most : Nat), .int .i64 ((s1).err : Nat)], own 5 1 w (s1).out.length ((s1).out.map u8v), own 4 1 (.slice ad B.length c) B.length (B.map bv)] ++ F) (B.length + 1) (hl := [_, _, _]) (⟨⟨0, [], 0⟩, .slice none 0 0, Nat.zero_le _, Nat.zero_le _, fun _ => by omega, hZ, rfl, rfl⟩) sB rfl tK sF ?_
 rintro m L H ⟨s1, w, hs1p, hs1o, hml, hgo, rfl, rfl⟩
 try dsimp only [List.cons_append, List.nil_append]
 refine CG.seq (CG.sr (G.mv ?_))
 refine G.np ?_
 refine G.q rfl rfl rfl rfl (q_field0 rfl rfl fo_128_4_F37) (G.ld ag_3_F1 ?_)
 refine G.q rfl rfl rfl rfl (q_eql rfl rfl rfl) (G.nil (EN.then ?_))
 refine CG.cond rfl (fun h43 => ?_) (fun h43 => ?_)
 ·
  have hs10 : s1.err = 0 := by omega
  obtain ⟨g, rfl⟩ : ∃ g, m = g + 1 := ⟨m - 1, by have := hml hs10; omega⟩
  have hmg := hml hs10
  rw [RI.runGo] at hgo
  refine CG.skip (EN.then (CG.block ?_))
  refine CG.cut (fun L H => ∃ (s0 : RI.St) (w : Value), RI.failIf (B.length < s1.pos + 3) 6 s1 = s0 ∧ L = [(9, .pointer (some ⟨b38, 0, none⟩))] ∧ H = [cel b38 128 [.slice ad B.length c, .int .i64 ((s0).pos : Nat), w, .int .i64 (most : Nat), .int .i64 ((s0).err : Nat)], own 5 1 w (s1).out.length ((s1).out.map u8v), own 4 1 (.slice ad B.length c) B.length (B.map bv)] ++ F) ?_ ?_
  ·
   refine CG.seq ?_
   refine CG.regT [] mixed (by kernel_rfl) ?_
   refine G.mv ?_
   refine G.np ?_
   refine G.q rfl rfl rfl rfl (q_field0 rfl rfl fo_128_0_F37) (G.ld ag_125_F36 ?_)
   refine G.q rfl rfl rfl rfl (q_len_sl rfl rfl se_125_F35) (G.mv ?_)
   refine G.np ?_
   refine G.q rfl rfl rfl rfl (q_field0 rfl rfl fo_128_1_F37) (G.ld ag_3_F1 ?_)
   refine G.q rfl rfl rfl rfl (q_sub_i rfl rfl rfl oM) (G.q rfl rfl rfl rfl (q_lss rfl rfl rfl) (G.nil (EN.sub (sC 9 (sC 54 Sub.nil)) ?_)))
   refine EN.then ?_
   refine CG.cond rfl (fun h54 => ?_) (fun h54 => ?_)
   ·
    have hF : RI.failIf (B.length < s1.pos + 3) 6 s1 = RI.fail 6 s1 := failIf_p oM
    refine CG.reg (G.mv ?_)
    refine G.call (xs := [_, _]) rfl rfl (fail_spec b38 (.slice ad B.length c) most 6 s1 _) bd_82_F37 rfl rfl rfl rfl tK (fun _ _ _ _ _ _ => trivial) ?_
    rintro _ _ ⟨rfl, rfl⟩
    try dsimp only [List.cons_append, List.nil_append]
    refine G.nil ?_
    exact EN.cut (hl := [_, _, _]) (⟨_, _, hF, rfl, rfl⟩) sB rfl tK sF
   ·
    have hF : RI.failIf (B.length < s1.pos + 3) 6 s1 = s1 := failIf_n oM
    refine CG.skip ?_
    exact EN.cut (hl := [_, _, _]) (⟨_, _, hF, rfl, rfl⟩) sB rfl tK sF
  ·
   rintro L H ⟨s0, w, hF, rfl, rfl⟩
   try dsimp only [List.cons_append, List.nil_append]
   rw [hF] at hgo
   have hfo := failIf_out (e := 6) (s := s1) (q := B.length < s1.pos + 3)
   rw [hF] at hfo
   have hs0p : s0.pos ≤ B.length := by rw [hfo.2]; exact hs1p
   have hs0m : s0.pos = s1.pos := hfo.2
   have hs0o : s0.out.length ≤ most := by rw [hfo.1]; exact hs1o
   rw [← hfo.1]
   refine CG.sr (G.mv ?_)
   refine G.call (xs := [_, _]) rfl rfl (number5_spec b38 c most ad B (s0) _ 1 _ rd_own hcB oM oM (by decide)) bd_83_F38 rfl rfl rfl rfl tK (fun _ _ _ _ _ _ => trivial) ?_
   rintro _ _ ⟨rfl, rfl⟩
   obtain ⟨x, hx⟩ : ∃ w9, RI.number B 1 (s0) = w9 := ⟨_, rfl⟩
   have hxg := good_number (B := B) (most := most) (n := 1) (s := s0)
   have hxl := number_lt (B := B) (n := 1) (s := s0)
   have hxo := number_out (B := B) (n := 1) (s := s0)
   have hxa := number_adv (B := B) (n := 1) (s := s0)
   rw [hx] at hxg hxl hxo hxa hgo ⊢
   try dsimp only at hgo
   have hxp := hxg.2.1 hs0p
   try dsimp only [List.cons_append, List.nil_append]
   refine G.mv ?_
   refine G.call (xs := [_, _]) rfl rfl (number5_spec b38 c most ad B (x.2) _ 2 _ rd_own hcB oM oM (by decide)) bd_83_F38 rfl rfl rfl rfl tK (fun _ _ _ _ _ _ => trivial) ?_
   rintro _ _ ⟨rfl, rfl⟩
   obtain ⟨y, hy⟩ : ∃ w9, RI.number B 2 (x.2) = w9 := ⟨_, rfl⟩
   have hyg := good_number (B := B) (most := most) (n := 2) (s := x.2)
   have hyl := number_lt (B := B) (n := 2) (s := x.2)
   have hyo := number_out (B := B) (n := 2) (s := x.2)
   have hya := number_adv (B := B) (n := 2) (s := x.2)
   rw [hy] at hyg hyl hyo hya hgo ⊢
   try dsimp only at hgo
   have hyp := hyg.2.1 hxp
   try dsimp only [List.cons_append, List.nil_append]
   refine G.as ?_
   refine G.as ?_
   refine G.nil (EN.then ?_)
   refine CG.cut (fun L H => ∃ (z : RI.St) (x y : Nat × RI.St) (w : Value), (if z.err ≠ 0 ∨ x.1 = 1 then z else RI.runGo B most g z) = Z ∧ Good B most y.2 z ∧ y.2.pos ≤ B.length ∧ y.2.out.length ≤ most ∧ (z.err = 0 → s1.pos < z.pos) ∧ L = [(9, .pointer (some ⟨b38, 0, none⟩)), (10, .int .i64 (x.1 : Nat))] ∧ H = [cel b38 128 [.slice ad B.length c, .int .i64 ((z).pos : Nat), w, .int .i64 (most : Nat), .int .i64 ((z).err : Nat)], own 5 1 w (z).out.length ((z).out.map u8v), own 4 1 (.slice ad B.length c) B.length (B.map bv)] ++ F) ?_ ?_
   ·
    refine CG.seq ?_
    have hyo2 : y.2.out.length ≤ most := hyg.2.2 (hxg.2.2 hs0o)
    have hya2 : y.2.err = 0 → s1.pos < y.2.pos := fun h => by have h1 := hya h; have h2 := hxa h1.1; have := hs0m; omega
    rw [← hxo, ← hyo]
    refine CG.reg (G.mv ?_)
    refine G.np ?_
    refine G.q rfl rfl rfl rfl (q_field0 rfl rfl fo_128_4_F37) (G.ld ag_3_F1 ?_)
    refine G.q rfl rfl rfl rfl (q_eql rfl rfl rfl) (G.nil (EN.then ?_))
    refine CG.cond rfl (fun h65 => ?_) (fun h65 => ?_)
    ·
     have hye : y.2.err = 0 := by omega
     have hyl4 : y.1 < 4 := hyl
     refine CG.sr (G.mv ?_)
     refine G.nil (EN.sub (sC 9 (sC 10 (sC 66 Sub.nil))) ?_)
     refine EN.then (CG.block (CG.sr (G.q rfl rfl rfl rfl (q_eql rfl rfl rfl) (G.as ?_))))
     refine G.nil (EN.then ?_)
     refine CG.cond rfl (fun h67 => ?_) (fun h67 => ?_)
     ·
      have hze : (if y.2.err = 0 then RI.block B most y.1 y.2 else y.2) = RI.stored B most y.2 := by rw [if_pos hye]; unfold RI.block; rw [if_pos oM]
      refine CG.reg (G.mv ?_)
      refine G.call (xs := [_]) rfl rfl (stored5_spec b38 c most ad B y.2 _ _ rd_own hcB oM hyp h8 hyo2 oM) bd_84_F42 rfl rfl rfl rfl tK (fun _ _ _ _ _ _ => trivial) ?_
      rintro _ _ ⟨rfl, w2, rfl⟩
      try dsimp only [List.cons_append, List.nil_append]
      refine G.nil (EN.in_normal ?_)
      have hgo2 := hgo
      rw [hze] at hgo2
      have hzg : Good B most y.2 (if y.2.err = 0 then RI.block B most y.1 y.2 else y.2) := by
        by_cases h4 : y.2.err = 0
        · rw [if_pos h4]; exact good_block h8
        · rw [if_neg h4]; exact .refl
      have hzm : (if y.2.err = 0 then RI.block B most y.1 y.2 else y.2).err = 0 → s1.pos < (if y.2.err = 0 then RI.block B most y.1 y.2 else y.2).pos := by
        intro h
        have h3 : y.2.err = 0 := by
          by_cases h4 : y.2.err = 0
          · exact h4
          · rw [if_neg h4] at h; exact h
        have := hya2 h3; have := hzg.1; omega
      rw [hze] at hzg hzm
      exact EN.cut (hl := [_, _, _]) (⟨_, x, y, _, hgo2, hzg, hyp, hyo2, hzm, rfl, rfl⟩) sB rfl tK sF
     ·
      refine CG.sr (G.q rfl rfl rfl rfl (q_eql rfl rfl rfl) (G.as ?_))
      refine G.nil (EN.then ?_)
      refine CG.cond rfl (fun h71 => ?_) (fun h71 => ?_)
      ·
       have hze : (if y.2.err = 0 then RI.block B most y.1 y.2 else y.2) = RI.packed B most Infl.fixedLit Infl.fixedDist y.2 := by rw [if_pos hye]; unfold RI.block; rw [if_neg oM, if_pos oM]
       refine CG.sr (G.call (xs := []) rfl rfl (rfixed_spec) bd_85_F42 rfl rfl rfl rfl tK (fun _ _ _ _ _ _ => trivial) ?_)
       rintro _ _ ⟨fv1, fv2, rfl, rfl⟩
       dsimp only [List.cons_append, List.nil_append]
       refine G.fact (p := own 3 1 fv1 288 (Infl.fixedLit.map iv)) (α := ∃ a8 c8, fv1 = .slice a8 288 c8) tK1 (fun h hh => (by obtain ⟨_, _, a8, c8, e, _⟩ := own_shape hh; exact ⟨a8, c8, e⟩)) (fun hv8 => ?_)
       obtain ⟨fa1, fk1, rfl⟩ := hv8
       refine G.fact (p := own 3 1 fv2 32 (Infl.fixedDist.map iv)) (α := ∃ a8 c8, fv2 = .slice a8 32 c8) tK1 (fun h hh => (by obtain ⟨_, _, a8, c8, e, _⟩ := own_shape hh; exact ⟨a8, c8, e⟩)) (fun hv8 => ?_)
       obtain ⟨fa2, fk2, rfl⟩ := hv8
       refine G.closeS (fun _ : Unit => [own 3 1 (.slice fa1 288 fk1) 288 (Infl.fixedLit.map iv), own 3 1 (.slice fa2 32 fk2) 32 (Infl.fixedDist.map iv)]) () tK ?_
       try dsimp only [List.cons_append, List.nil_append]
       refine G.mv ?_
       refine G.q rfl rfl rfl rfl (q_extract rfl rfl rfl) (G.q rfl rfl rfl rfl (q_extract rfl rfl rfl) (G.as ?_))
       refine G.as ?_
       refine G.nil (EN.sub (sC 9 (sC 10 (sC 12 (sC 13 Sub.nil)))) ?_)
       refine EN.tr ?_
       refine G.mv ?_
       refine G.mv ?_
       refine G.mv ?_
       refine G.call (xs := [_, _, _]) rfl rfl (packed_spec b38 c most ad B (y.2) _ fa1 fa2 288 32 fk1 fk2 (Infl.fixedLit) (Infl.fixedDist) (exS (fun _ : Unit => [own 3 1 (.slice fa1 288 fk1) 288 (Infl.fixedLit.map iv), own 3 1 (.slice fa2 32 fk2) 32 (Infl.fixedDist.map iv)])) (rd_exS (i := 0) rfl rd_own) (rd_exS (i := 1) rfl rd_own) Infl.lit_len Infl.dist_len oM oM _ rd_own hcB oM hyp hyo2 oM) bd_86_F42 rfl rfl rfl rfl tK (fun _ _ _ _ _ _ => trivial) ?_
       rintro _ _ ⟨rfl, w2, rfl⟩
       try dsimp only [List.cons_append, List.nil_append]
       refine G.nil (EN.in_normal ?_)
       have hgo2 := hgo
       rw [hze] at hgo2
       have hzg : Good B most y.2 (if y.2.err = 0 then RI.block B most y.1 y.2 else y.2) := by
         by_cases h4 : y.2.err = 0
         · rw [if_pos h4]; exact good_block h8
         · rw [if_neg h4]; exact .refl
       have hzm : (if y.2.err = 0 then RI.block B most y.1 y.2 else y.2).err = 0 → s1.pos < (if y.2.err = 0 then RI.block B most y.1 y.2 else y.2).pos := by
         intro h
         have h3 : y.2.err = 0 := by
           by_cases h4 : y.2.err = 0
           · exact h4
           · rw [if_neg h4] at h; exact h
         have := hya2 h3; have := hzg.1; omega
       rw [hze] at hzg hzm
       exact EN.cut (hl := [_, _, _]) (⟨_, x, y, _, hgo2, hzg, hyp, hyo2, hzm, rfl, rfl⟩) sB rfl tK sF
      ·
       refine CG.sr (G.q rfl rfl rfl rfl (q_eql rfl rfl rfl) (G.as ?_))
       refine G.nil (EN.then ?_)
       refine CG.cond rfl (fun h81 => ?_) (fun h81 => ?_)
       ·
        refine CG.sr (G.mv ?_)
        refine G.call (xs := [_]) rfl rfl (dynamic_spec b38 c most ad B y.2 _ _ rd_own hcB oM hyp hye) bd_87_F42 rfl rfl rfl rfl tK (fun _ _ _ _ _ _ => trivial) ?_
        rintro _ _ ⟨da1, da2, dn1, dc1, dn2, dc2, q, rfl, rfl, hr1, hr2, hn1, hn2⟩
        dsimp only [List.cons_append, List.nil_append]
        have hdo := dyn_out (B := B) y.2
        have hdg := good_dynamic (B := B) (most := most) (s := y.2)
        have hdl := dyn_len (B := B) (s := y.2)
        obtain ⟨d, hd⟩ : ∃ d, RI.dynamic B y.2 = d := ⟨_, rfl⟩
        rw [hd] at hr1 hr2 hn1 hn2 hdo hdg hdl ⊢
        rw [← hdo]
        try dsimp only [List.cons_append, List.nil_append]
        refine G.mv ?_
        refine G.q rfl rfl rfl rfl (q_extract rfl rfl rfl) (G.q rfl rfl rfl rfl (q_extract rfl rfl rfl) (G.as ?_))
        refine G.as ?_
        refine G.nil (EN.sub (sC 9 (sC 10 (sC 14 (sC 15 Sub.nil)))) ?_)
        refine EN.tsr (G.mv ?_)
        refine G.np ?_
        refine G.q rfl rfl rfl rfl (q_field0 rfl rfl fo_128_4_F37) (G.ld ag_3_F1 ?_)
        refine G.q rfl rfl rfl rfl (q_eql rfl rfl rfl) (G.nil (EN.then ?_))
        refine CG.cond rfl (fun h92 => ?_) (fun h92 => ?_)
        ·
         have hdle := hdl oM
         have hze : (if y.2.err = 0 then RI.block B most y.1 y.2 else y.2) = RI.packed B most d.1 d.2.1 d.2.2 := by rw [if_pos hye]; unfold RI.block; rw [if_neg oM, if_neg oM, if_pos oM, hd]; dsimp only; rw [if_neg oM]
         refine CG.reg (G.mv ?_)
         refine G.mv ?_
         refine G.mv ?_
         refine G.call (xs := [_, _, _]) rfl rfl (packed_spec b38 c most ad B (d.2.2) _ da1 da2 dn1 dn2 dc1 dc2 (d.1) (d.2.1) q hr1 hr2 hn1 hn2 oM oM _ rd_own hcB oM (hdg.2.1 hyp) (hdg.2.2 hyo2) oM) bd_86_F42 rfl rfl rfl rfl tK (fun _ _ _ _ _ _ => trivial) ?_
         rintro _ _ ⟨rfl, w2, rfl⟩
         try dsimp only [List.cons_append, List.nil_append]
         refine G.nil (EN.sub (sC 9 (sC 10 Sub.nil)) ?_)
         refine EN.in_normal ?_
         have hgo2 := hgo
         rw [hze] at hgo2
         have hzg : Good B most y.2 (if y.2.err = 0 then RI.block B most y.1 y.2 else y.2) := by
           by_cases h4 : y.2.err = 0
           · rw [if_pos h4]; exact good_block h8
           · rw [if_neg h4]; exact .refl
         have hzm : (if y.2.err = 0 then RI.block B most y.1 y.2 else y.2).err = 0 → s1.pos < (if y.2.err = 0 then RI.block B most y.1 y.2 else y.2).pos := by
           intro h
           have h3 : y.2.err = 0 := by
             by_cases h4 : y.2.err = 0
             · exact h4
             · rw [if_neg h4] at h; exact h
           have := hya2 h3; have := hzg.1; omega
         rw [hze] at hzg hzm
         exact EN.cut (hl := [_, _, _]) (⟨_, x, y, _, hgo2, hzg, hyp, hyo2, hzm, rfl, rfl⟩) sB rfl tK sF
        ·
         have hze : (if y.2.err = 0 then RI.block B most y.1 y.2 else y.2) = d.2.2 := by rw [if_pos hye]; unfold RI.block; rw [if_neg oM, if_neg oM, if_pos oM, hd]; dsimp only; rw [if_pos oM]
         refine CG.skip (EN.in_normal ?_)
         have hgo2 := hgo
         rw [hze] at hgo2
         have hzg : Good B most y.2 (if y.2.err = 0 then RI.block B most y.1 y.2 else y.2) := by
           by_cases h4 : y.2.err = 0
           · rw [if_pos h4]; exact good_block h8
           · rw [if_neg h4]; exact .refl
         have hzm : (if y.2.err = 0 then RI.block B most y.1 y.2 else y.2).err = 0 → s1.pos < (if y.2.err = 0 then RI.block B most y.1 y.2 else y.2).pos := by
           intro h
           have h3 : y.2.err = 0 := by
             by_cases h4 : y.2.err = 0
             · exact h4
             · rw [if_neg h4] at h; exact h
           have := hya2 h3; have := hzg.1; omega
         rw [hze] at hzg hzm
         exact EN.cut (hl := [_, _, _]) (⟨_, x, y, _, hgo2, hzg, hyp, hyo2, hzm, rfl, rfl⟩) sB rfl tK sF
       ·
        refine CG.sr (G.q rfl rfl rfl rfl (q_eql rfl rfl rfl) (G.as ?_))
        refine G.nil (EN.then ?_)
        refine CG.cond rfl (fun h97 => ?_) (fun h97 => absurd oM h97)
        have hze : (if y.2.err = 0 then RI.block B most y.1 y.2 else y.2) = RI.fail 3 y.2 := by rw [if_pos hye]; unfold RI.block; rw [if_neg oM, if_neg oM, if_neg oM]
        refine CG.reg (G.mv ?_)
        refine G.call (xs := [_, _]) rfl rfl (fail_spec b38 (.slice ad B.length c) most 3 y.2 _) bd_82_F37 rfl rfl rfl rfl tK (fun _ _ _ _ _ _ => trivial) ?_
        rintro _ _ ⟨rfl, rfl⟩
        rw [← (fail_out (e := 3) (s := y.2)).1]
        try dsimp only [List.cons_append, List.nil_append]
        refine G.nil (EN.sub (sC 9 (sC 10 Sub.nil)) ?_)
        refine EN.in_normal ?_
        have hgo2 := hgo
        rw [hze] at hgo2
        have hzg : Good B most y.2 (if y.2.err = 0 then RI.block B most y.1 y.2 else y.2) := by
          by_cases h4 : y.2.err = 0
          · rw [if_pos h4]; exact good_block h8
          · rw [if_neg h4]; exact .refl
        have hzm : (if y.2.err = 0 then RI.block B most y.1 y.2 else y.2).err = 0 → s1.pos < (if y.2.err = 0 then RI.block B most y.1 y.2 else y.2).pos := by
          intro h
          have h3 : y.2.err = 0 := by
            by_cases h4 : y.2.err = 0
            · exact h4
            · rw [if_neg h4] at h; exact h
          have := hya2 h3; have := hzg.1; omega
        rw [hze] at hzg hzm
        exact EN.cut (hl := [_, _, _]) (⟨_, x, y, _, hgo2, hzg, hyp, hyo2, hzm, rfl, rfl⟩) sB rfl tK sF
    ·
     have hze : (if y.2.err = 0 then RI.block B most y.1 y.2 else y.2) = y.2 := if_neg oM
     refine CG.skip ?_
     have hgo2 := hgo
     rw [hze] at hgo2
     have hzg : Good B most y.2 (if y.2.err = 0 then RI.block B most y.1 y.2 else y.2) := by
       by_cases h4 : y.2.err = 0
       · rw [if_pos h4]; exact good_block h8
       · rw [if_neg h4]; exact .refl
     have hzm : (if y.2.err = 0 then RI.block B most y.1 y.2 else y.2).err = 0 → s1.pos < (if y.2.err = 0 then RI.block B most y.1 y.2 else y.2).pos := by
       intro h
       have h3 : y.2.err = 0 := by
         by_cases h4 : y.2.err = 0
         · exact h4
         · rw [if_neg h4] at h; exact h
       have := hya2 h3; have := hzg.1; omega
     rw [hze] at hzg hzm
     exact EN.cut (hl := [_, _, _]) (⟨_, x, y, _, hgo2, hzg, hyp, hyo2, hzm, rfl, rfl⟩) sB rfl tK sF
   ·
    rintro L H ⟨z, x, y, w, hgo, hzg, hyp, hyo2, hzm, rfl, rfl⟩
    try dsimp only [List.cons_append, List.nil_append]
    refine CG.sr (G.mv ?_)
    refine G.np ?_
    refine G.q rfl rfl rfl rfl (q_field0 rfl rfl fo_128_4_F37) (G.ld ag_3_F1 ?_)
    refine G.q rfl rfl rfl rfl (q_eql rfl rfl rfl) (G.mv ?_)
    refine G.split (t := 106) rfl (fun g106 => ?_) (fun g106 => ?_)
    ·
     refine G.mv ?_
     refine G.q rfl rfl rfl rfl (q_eql rfl rfl rfl) (G.q rfl rfl rfl rfl (q_pick_t rfl rfl rfl) (G.nil (EN.sub (sC 9 (sC 109 Sub.nil)) ?_)))
     refine EN.then ?_
     refine CG.cond rfl (fun h109 => ?_) (fun h109 => ?_)
     ·
      rw [if_pos (.inr oM)] at hgo
      subst hgo
      rw [if_neg oM] at hE
      have hzp := hzg.2.1 hyp
      have hup : RI.up z.pos ≤ 20000000000 := by unfold RI.up; omega
      refine CG.seq ?_
      refine CG.regC [113, 114, 118] (Keeps _ [cel b38 128 [.slice ad B.length c, .int .i64 ((z).pos : Nat), w, .int .i64 (most : Nat), .int .i64 ((z).err : Nat)], own 5 1 w (z).out.length ((z).out.map u8v)]) mixed (by kernel_rfl) (fun w hw => Keeps.of hw tK) ?_
      refine G.mv ?_
      refine G.np ?_
      refine G.q rfl rfl rfl rfl (q_field0 rfl rfl fo_128_2_F37) (G.rK rfl rfl rfl rfl rfl (fun R => r_load rfl rfl ag_80_F2 mB rfl) ?_)
      refine G.rK rfl rfl rfl rfl rfl (fun R => r_b2s rfl rfl bT_80_9_F42 mB) ?_
      refine G.mv ?_
      refine G.np ?_
      refine G.q rfl rfl rfl rfl (q_field0 rfl rfl fo_128_1_F37) (G.rK rfl rfl rfl rfl rfl (fun R => r_load rfl rfl ag_3_F1 mB rfl) ?_)
      refine G.call (xs := [_]) rfl rfl (up_spec z.pos oM) bd_88_F38 rfl rfl rfl rfl tK (fun _ _ _ w hR hw => by obtain ⟨_, rfl⟩ := hR; exact Keeps.of hw tK) ?_
      rintro _ _ ⟨rfl, rfl⟩
      try dsimp only [List.cons_append, List.nil_append]
      refine G.q rfl rfl rfl rfl (q_quo_i rfl rfl rfl oM) ?_
      rw [show ((RI.up z.pos : Nat) : Int) / 8 = ((RI.up z.pos / 8 : Nat) : Int) by omega]
      refine G.as ?_
      refine G.as ?_
      refine G.as ?_
      refine G.nil (EN.sub (sC 6 (sC 7 (sC 8 (sC 9 Sub.nil)))) ?_)
      refine EN.then (CG.ret (EN.in_ret ?_))
      refine EN.then_ret (EN.in_ret ?_)
      refine EN.then_ret ?_
      rw [← hE]
      try dsimp only
      exact fin_ret3 rfl rfl rfl rfl tK sF (⟨rfl, rfl⟩) _ (.inl rfl)
     ·
      rw [if_neg oM] at hgo
      have hgo3 := hgo
      refine CG.skip (EN.in_normal ?_)
      exact EN.round (hl := [_, _, _]) (g) oM (⟨z, _, hzg.2.1 hyp, hzg.2.2 hyo2, fun h => by have := hzm h; omega, hgo3, rfl, rfl⟩) sB rfl tK sF
    ·
     rw [if_pos (.inl oM)] at hgo
     have hgo3 : RI.runGo B most g z = Z := by rw [← hgo]; exact runGo_stop oM
     refine G.skip rfl rfl rfl (G.skip rfl rfl rfl (G.q rfl rfl rfl rfl (q_pick_f rfl rfl rfl) (G.nil (EN.sub (sC 9 (sC 109 Sub.nil)) ?_))))
     refine EN.then (CG.cond_f rfl ?_)
     refine CG.skip (EN.in_normal ?_)
     exact EN.round (hl := [_, _, _]) (g) oM (⟨z, _, hzg.2.1 hyp, hzg.2.2 hyo2, fun h => by have := hzm h; omega, hgo3, rfl, rfl⟩) sB rfl tK sF
 ·
  have hZ2 : s1 = Z := by rw [← hgo]; exact (runGo_stop oM).symm
  subst hZ2
  rw [if_pos oM] at hE
  refine CG.exit ?_
  refine EN.then_exit (EN.then_exit (EN.in_here ?_))
  refine EN.ts ?_
  refine CG.regT [] mixed (by kernel_rfl) ?_
  refine G.mv ?_
  refine G.np ?_
  refine G.q rfl rfl rfl rfl (q_field0 rfl rfl fo_128_4_F37) (G.ld ag_3_F1 ?_)
  refine G.as ?_
  refine G.as ?_
  refine G.as ?_
  refine G.nil (EN.sub (sC 6 (sC 7 (sC 8 Sub.nil))) ?_)
  refine EN.then (CG.ret ?_)
  rw [← hE]
  try dsimp only
  exact fin_ret3 rfl rfl rfl rfl tK sF (⟨rfl, rfl⟩) _ (.inl rfl)

end Go.Eng
/-
  Plain: a reader of bits stays on its text (bitin, huff, inflate). No program in sight.
-/
set_option linter.unusedVariables false
namespace Go.Eng
/-- the same text, begun at the same place -/
def RD.Same (r r' : RD) : Prop := r'.frm = r.frm ∧ r'.s = r.s
theorem RD.Same.refl {r : RD} : RD.Same r r := ⟨rfl, rfl⟩
theorem RD.Same.trans {r r' r'' : RD} (h1 : RD.Same r r') (h2 : RD.Same r' r'') : RD.Same r r'' := ⟨h2.1.trans h1.1, h2.2.trans h1.2⟩
namespace RD
theorem step_same (r : RD) : Same r r.step := by unfold step; split <;> exact ⟨rfl, rfl⟩
theorem fill_same (n : Nat) (r : RD) : Same r (r.fill n) := by
  induction r using RD.fill.induct n with
  | case1 r h ih => rw [fill, dif_pos h]; exact (step_same r).trans ih
  | case2 r h => rw [fill, dif_neg h]; exact .refl
theorem bits_same (r : RD) (n : Nat) : Same r (r.bits n).1 := by
  unfold bits; split
  · exact fill_same n r
  · exact (fill_same n r).trans ⟨rfl, rfl⟩
theorem bytes_same (r : RD) (n : Nat) : Same r (r.bytes n).1 := by unfold bytes; split <;> exact ⟨rfl, rfl⟩
end RD
open RD
theorem Huff.readGo_same (ls S : List Nat) : ∀ (f n code first att : Nat) (r : RD), Same r (Huff.readGo ls S f n code first att r).1
  | 0, _, _, _, _, _ => .refl
  | f + 1, n, code, first, att, r => by
    unfold Huff.readGo
    split
    · exact bits_same r 1
    · split
      · exact bits_same r 1
      · split
        · exact bits_same r 1
        · exact (bits_same r 1).trans (Huff.readGo_same ls S f _ _ _ _ _)
theorem Huff.read_same (ls : List Nat) (r : RD) : Same r (Huff.read ls r).1 := by
  unfold Huff.read; split
  · exact .refl
  · exact Huff.readGo_same _ _ _ _ _ _ _ _
namespace Infl
theorem stored_same (r : RD) (out : List UInt8) (most : Nat) : Same r (stored r out most).1 := by
  have key : ∀ (ok : Bool) (q : RD) (bs : List UInt8), (stored2 ok q bs out most).1 = q := by intro ok q bs; unfold stored2; split <;> rfl
  unfold stored
  split
  · exact bytes_same r 4
  · split
    · exact bytes_same r 4
    · unfold stored1
      split
      · rw [key]; exact (bytes_same r 4).trans ((bytes_same _ _).trans (bytes_same _ _))
      · rw [key]; exact (bytes_same r 4).trans (bytes_same _ _)
theorem again_same (ds : List Nat) (most : Nat) (r : RD) (out : List UInt8) (s : Nat) : Same r (again ds most r out s).1 := by
  unfold again
  split
  · exact .refl
  · dsimp only
    have h1 := bits_same r (lengthBase (s - 257)).2
    generalize r.bits (lengthBase (s - 257)).2 = x at h1 ⊢
    split
    · exact h1
    · have h2 := Huff.read_same ds x.1
      generalize Huff.read ds x.1 = y at h2 ⊢
      split
      · exact h1.trans h2
      · split
        · exact h1.trans h2
        · have h3 := bits_same y.1 (distBase y.2.1).2
          generalize y.1.bits (distBase y.2.1).2 = z at h3 ⊢
          split
          · exact h1.trans (h2.trans h3)
          · split
            · exact h1.trans (h2.trans h3)
            · exact h1.trans (h2.trans h3)
theorem symbols_same (ls ds : List Nat) (most f : Nat) : ∀ (r : RD) (out : List UInt8), Same r (symbols ls ds most f r out).1 := by
  induction f with
  | zero => intro r out; exact .refl
  | succ f ih =>
    intro r out
    rw [symbols]; dsimp only
    have h1 := Huff.read_same ls r
    generalize Huff.read ls r = x at h1 ⊢
    split
    · exact h1
    · split
      · exact h1
      · split
        · split
          · exact h1
          · exact h1.trans (ih _ _)
        · have h2 := again_same ds most x.1 out x.2.1
          generalize again ds most x.1 out x.2.1 = y at h2 ⊢
          split
          · exact h1.trans h2
          · exact h1.trans (h2.trans (ih _ _))
theorem clGo_same : ∀ (os : List Nat) (r : RD) (f : List Nat), Same r (clGo os r f).1
  | [], _, _ => .refl
  | o :: os, r, f => by
    unfold clGo; split
    · exact bits_same r 3
    · exact (bits_same r 3).trans (clGo_same os _ _)
theorem repK_same {total : Nat} {k : RD → List Nat → RD × List Nat × Nat} (hk : ∀ r l, Same r (k r l).1) (q : RD) (l : List Nat) (bts least what : Nat) : Same q (repK total k q l bts least what).1 := by
  unfold repK; split
  · exact bits_same q bts
  · split
    · exact bits_same q bts
    · exact (bits_same q bts).trans (hk _ _)
theorem lensGo_same (t : List Nat) (total f : Nat) : ∀ (r : RD) (l : List Nat), Same r (lensGo t total f r l).1 := by
  induction f with
  | zero => intro r l; exact .refl
  | succ f ih =>
    intro r l
    rw [lensGo]
    have h1 := Huff.read_same t r
    generalize Huff.read t r = x at h1 ⊢
    split
    · exact .refl
    · split
      · exact h1
      · split
        · exact h1.trans (ih _ _)
        · split
          · split
            · exact h1
            · exact h1.trans (repK_same ih _ _ _ _ _)
          · split
            · exact h1.trans (repK_same ih _ _ _ _ _)
            · exact h1.trans (repK_same ih _ _ _ _ _)
theorem tables_same (r : RD) : Same r (tables r).r := by
  unfold tables; dsimp only
  have h1 := bits_same r 14
  generalize r.bits 14 = x at h1 ⊢
  split
  · exact h1
  · split
    · exact h1
    · have h2 := clGo_same (order.take (x.2.1 / 1024 + 4)) x.1 (List.replicate 19 0)
      generalize clGo (order.take (x.2.1 / 1024 + 4)) x.1 (List.replicate 19 0) = y at h2 ⊢
      split
      · exact h1.trans h2
      · split
        · exact h1.trans h2
        · have h3 := lensGo_same y.2.1 (x.2.1 % 32 + 257 + (x.2.1 / 32 % 32 + 1)) (x.2.1 % 32 + 257 + (x.2.1 / 32 % 32 + 1) + 1) y.1 []
          generalize lensGo y.2.1 (x.2.1 % 32 + 257 + (x.2.1 / 32 % 32 + 1)) (x.2.1 % 32 + 257 + (x.2.1 / 32 % 32 + 1) + 1) y.1 [] = z at h3 ⊢
          split
          · exact h1.trans (h2.trans h3)
          · split
            · exact h1.trans (h2.trans h3)
            · exact h1.trans (h2.trans h3)
theorem block_same (most h : Nat) (r : RD) (out : List UInt8) : Same r (block most h r out).1 := by
  unfold block; split
  · exact stored_same _ _ _
  · split
    · exact symbols_same _ _ _ _ _ _
    · split
      · split
        · exact tables_same r
        · exact (tables_same r).trans (symbols_same _ _ _ _ _ _)
      · exact .refl
theorem run_same (most g : Nat) : ∀ (r : RD) (out : List UInt8), Same r (run most g r out).1 := by
  induction g with
  | zero => intro r out; exact .refl
  | succ g ih =>
    intro r out
    rw [run_succ]
    have h1 := bits_same r 3
    generalize r.bits 3 = x at h1 ⊢
    split
    · exact h1
    · have h2 := block_same most x.2.1 x.1 out
      generalize block most x.2.1 x.1 out = y at h2 ⊢
      unfold cont
      split
      · exact h1.trans h2
      · split
        · exact h1.trans (h2.trans (ih _ _))
        · exact h1.trans h2
end Infl
theorem run_frm (most : Nat) (g : Nat) (r : RD) (out : List UInt8) : (Infl.run most g r out).1.frm = r.frm ∧ (Infl.run most g r out).1.s = r.s := Infl.run_same most g r out
end Go.Eng
/-
  Plain: the reference's codes, symbol by symbol, are read as the program's canonical code is. No program in sight.
-/
set_option linter.unusedVariables false
set_option linter.unusedSimpArgs false
namespace Go.Eng
namespace Dec
/-- a code's end behind the codes of length n -/
def E (ls : List Nat) (n : Nat) : Nat := (RI.codesGo ls n).1
/-- a symbol's code as a number -/
def val (ls : List Nat) (i m : Nat) : Nat := 2 * E ls (m - 1) + (ls.take i).count m
theorem row_fst (n : Nat) : ∀ (l : List Nat) (i : Nat) (x : Nat × List (List Bool)), (RI.codesRow n l i x).1 = x.1 + l.count n
  | [], _, _ => by simp [RI.codesRow]
  | a :: l, i, x => by
    rw [RI.codesRow, row_fst n l]
    by_cases h : a = n
    · rw [if_pos h]; subst h; simp; omega
    · rw [if_neg h, List.count_cons_of_ne h]
theorem row_old (n : Nat) : ∀ (l : List Nat) (i : Nat) (x : Nat × List (List Bool)) (j : Nat), j < i → (RI.codesRow n l i x).2[j]? = x.2[j]?
  | [], _, _, _, _ => rfl
  | a :: l, i, x, j, h => by
    rw [RI.codesRow, row_old n l _ _ j (by omega)]
    split
    · simp only; rw [List.getElem?_set_ne (by omega)]
    · rfl
theorem row_at (n : Nat) : ∀ (l : List Nat) (i d : Nat) (x : Nat × List (List Bool)), l[d]? = some n → i + d < x.2.length → (RI.codesRow n l i x).2[i + d]? = some (cb (x.1 + (l.take d).count n) n)
  | [], _, _, _, h, _ => by cases h
  | a :: l, i, 0, x, h, hl => by
    simp at h; subst h
    rw [RI.codesRow, row_old a l (i + 1) _ (i + 0) (by omega), if_pos rfl]
    simp only [Nat.add_zero, List.take_zero, List.count_nil]
    rw [List.getElem?_set_self (by omega)]
  | a :: l, i, d + 1, x, h, hl => by
    rw [List.getElem?_cons_succ] at h
    rw [RI.codesRow, show i + (d + 1) = i + 1 + d by omega, row_at n l (i + 1) d _ h (by split <;> first | omega | (simp; omega))]
    by_cases ha : a = n
    · rw [if_pos ha]; subst ha; simp only [List.take_succ_cons, List.count_cons_self]; rw [Nat.add_assoc, Nat.add_comm 1]
    · rw [if_neg ha, List.take_succ_cons, List.count_cons_of_ne ha]
theorem row_not (n : Nat) : ∀ (l : List Nat) (i d : Nat) (x : Nat × List (List Bool)), l[d]? ≠ some n → (RI.codesRow n l i x).2[i + d]? = x.2[i + d]?
  | [], _, _, _, _ => rfl
  | a :: l, i, 0, x, h => by
    rw [RI.codesRow, row_old n l (i + 1) _ (i + 0) (by omega), if_neg (by simpa using h)]
  | a :: l, i, d + 1, x, h => by
    rw [List.getElem?_cons_succ] at h
    rw [RI.codesRow, show i + (d + 1) = i + 1 + d by omega, row_not n l (i + 1) d _ h]
    split
    · simp only; rw [List.getElem?_set_ne (by omega)]
    · rfl
theorem E_zero (ls : List Nat) : E ls 0 = 0 := rfl
theorem E_succ (ls : List Nat) (n : Nat) : E ls (n + 1) = 2 * E ls n + ls.count (n + 1) := by
  unfold E; rw [RI.codesGo, row_fst]
theorem go_get (ls : List Nat) {i m : Nat} (hi : ls[i]? = some m) : ∀ q, (RI.codesGo ls q).2[i]? = some (if 1 ≤ m ∧ m ≤ q then cb (val ls i m) m else [])
  | 0 => by
    have hl := (List.getElem?_eq_some_iff.1 hi).1
    rw [if_neg (by omega)]; unfold RI.codesGo
    simp only; rw [List.getElem?_replicate, if_pos hl]
  | q + 1 => by
    have hl := (List.getElem?_eq_some_iff.1 hi).1
    have ih := go_get ls hi q
    rw [RI.codesGo]
    by_cases hm : m = q + 1
    · subst hm
      have := row_at (q + 1) ls 0 i (2 * (RI.codesGo ls q).1, (RI.codesGo ls q).2) hi (by simp only; rw [codesGo_len]; omega)
      rw [Nat.zero_add] at this
      rw [this, if_pos (by omega)]; rfl
    · have := row_not (q + 1) ls 0 i (2 * (RI.codesGo ls q).1, (RI.codesGo ls q).2) (by rw [hi]; simp; omega)
      rw [Nat.zero_add] at this
      rw [this]; simp only; rw [ih]
      by_cases h1 : 1 ≤ m ∧ m ≤ q
      · rw [if_pos h1, if_pos (by omega)]
      · rw [if_neg h1, if_neg (by omega)]
theorem codes_get {ls : List Nat} {i m : Nat} (hi : ls[i]? = some m) (h15 : m ≤ 15) : (RI.codes ls)[i]? = some (if 1 ≤ m then cb (val ls i m) m else []) := by
  have := go_get ls hi 15
  unfold RI.codes; rw [this]
  by_cases h : 1 ≤ m
  · rw [if_pos ⟨h, h15⟩, if_pos h]
  · rw [if_neg (by omega), if_neg h]
theorem left_E (ls : List Nat) : ∀ n, Huff.leftTo ls n = (2 : Int) ^ n - E ls n
  | 0 => by rw [Huff.leftTo, E_zero]; rfl
  | n + 1 => by rw [Huff.leftTo, left_E ls n, E_succ, Int.pow_succ]; omega
theorem E_mono (ls : List Nat) (n : Nat) : ∀ k, E ls n * 2 ^ k ≤ E ls (n + k)
  | 0 => by simp
  | k + 1 => by
    have := E_mono ls n k
    have hm2 : E ls n * (2 ^ k * 2) = 2 * (E ls n * 2 ^ k) := by rw [← Nat.mul_assoc]; omega
    rw [← Nat.add_assoc, E_succ, Nat.pow_succ, hm2]; omega
/-- what stands in a code's favour -/
structure Good (ls : List Nat) : Prop where
  le : ∀ x ∈ ls, x ≤ 15
  fit : ∀ n, n ≤ 15 → E ls n ≤ 2 ^ n
  full : E ls 15 = 32768 ∨ ((Huff.sortedTo ls 15).length = 0) ∨ ((Huff.sortedTo ls 15).length = 1 ∧ ls.count 1 = 1)
theorem good_of {ls : List Nat} (h15 : ∀ x ∈ ls, x ≤ 15) (hb : Huff.bad ls = false) : Good ls := by
  have hneg : ∀ n, n < 15 → 0 ≤ Huff.leftTo ls (n + 1) := fun n hn => by
    by_cases h : Huff.leftTo ls (n + 1) < 0
    · rw [Huff.bad_neg hn h] at hb; cases hb
    · omega
  have fit : ∀ n, n ≤ 15 → E ls n ≤ 2 ^ n := fun n hn => by
    cases n with
    | zero => rw [E_zero]; exact Nat.zero_le _
    | succ n =>
      have h1 := hneg n (by omega)
      rw [left_E] at h1
      have h2 : ((2 ^ (n + 1) : Nat) : Int) = (2 : Int) ^ (n + 1) := by simp
      omega
  refine ⟨h15, fit, ?_⟩
  rw [Huff.bad_end hneg] at hb
  have h1 := left_E ls 15
  rw [show (2 : Int) ^ 15 = 32768 by decide] at h1
  have h2 := Huff.codesTo_eq ls 15
  by_cases c1 : 0 < Huff.leftTo ls 15
  · right
    by_cases c2 : 0 < Huff.codesTo ls 15
    · rw [decide_eq_true c1, decide_eq_true c2] at hb
      simp only [Bool.true_and, Bool.not_eq_false', Bool.and_eq_true, decide_eq_true_eq] at hb
      right; exact ⟨by omega, hb.2⟩
    · left; omega
  · left
    have := fit 15 (by omega)
    omega
/- codes as bits -/
theorem cb_take (x : Nat) : ∀ (n k : Nat), (cb x (n + k)).take n = cb (x >>> k) n
  | 0, k => by simp [cb]
  | n + 1, k => by
    rw [show n + 1 + k = (n + k) + 1 by omega, cb, cb, List.take_succ_cons, cb_take x n k, Nat.testBit_shiftRight, Nat.add_comm k n]
theorem cb_bits {x y : Nat} : ∀ {n : Nat}, cb x n = cb y n → ∀ i, i < n → x.testBit i = y.testBit i
  | 0, _, i, h => by omega
  | n + 1, h, i, hi => by
    rw [cb, cb, List.cons.injEq] at h
    rcases Nat.lt_or_ge i n with h1 | h1
    · exact cb_bits h.2 i h1
    · rw [show i = n by omega]; exact h.1
theorem cb_inj {x y n : Nat} (hx : x < 2 ^ n) (hy : y < 2 ^ n) (h : cb x n = cb y n) : x = y := by
  apply Nat.eq_of_testBit_eq
  intro i
  rcases Nat.lt_or_ge i n with h1 | h1
  · exact cb_bits h i h1
  · have h2 : 2 ^ n ≤ 2 ^ i := Nat.pow_le_pow_right (by omega) h1
    rw [Nat.testBit_lt_two_pow (Nat.lt_of_lt_of_le hx h2), Nat.testBit_lt_two_pow (Nat.lt_of_lt_of_le hy h2)]
theorem cb_snoc (c : Nat) (b : Bool) : ∀ n, cb (c * 2 + b.toNat) (n + 1) = cb c n ++ [b]
  | 0 => by
    simp only [cb, List.nil_append, List.cons.injEq, and_true]
    rw [Nat.testBit_zero]; cases b <;> simp <;> omega
  | n + 1 => by
    rw [cb, cb_snoc c b n, cb, List.cons_append, Nat.testBit_succ, show (c * 2 + b.toNat) / 2 = c by cases b <;> simp <;> omega]
/- symbols -/
theorem idx_get (ls : List Nat) (m : Nat) : ∀ (j : Nat), j ≤ ls.length → ∀ (k i : Nat), (Huff.idxTo ls m j)[k]? = some i → ls[i]? = some m ∧ i < j ∧ (ls.take i).count m = k
  | 0, _, k, i, h => by simp [Huff.idxTo] at h
  | j + 1, hj, k, i, h => by
    rw [Huff.idxTo_succ] at h
    split at h
    · rename_i hm
      have hl := Huff.idxTo_len ls m j (by omega)
      rcases Nat.lt_or_ge k (Huff.idxTo ls m j).length with h1 | h1
      · rw [List.getElem?_append_left h1] at h
        have := idx_get ls m j (by omega) k i h
        exact ⟨this.1, by omega, this.2.2⟩
      · rw [List.getElem?_append_right h1] at h
        have h2 := (List.getElem?_eq_some_iff.1 h)
        obtain ⟨h3, h4⟩ := h2
        simp at h3 h4
        subst h4
        exact ⟨hm, by omega, by omega⟩
    · have := idx_get ls m j (by omega) k i h
      exact ⟨this.1, by omega, this.2.2⟩
theorem idx_of (ls : List Nat) (m i : Nat) (hi : ls[i]? = some m) : ∀ (j : Nat), i < j → j ≤ ls.length → (Huff.idxTo ls m j)[(ls.take i).count m]? = some i
  | 0, h, _ => by omega
  | j + 1, h, hj => by
    rw [Huff.idxTo_succ]
    rcases Nat.lt_or_ge i j with h1 | h1
    · have := idx_of ls m i hi j h1 (by omega)
      split
      · rw [List.getElem?_append_left (List.getElem?_eq_some_iff.1 this).1]; exact this
      · exact this
    · obtain rfl : i = j := by omega
      rw [if_pos hi, List.getElem?_append_right (by rw [Huff.idxTo_len ls m i (by omega)]; omega), Huff.idxTo_len ls m i (by omega)]
      simp
theorem idx_uniq {ls : List Nat} {m i j : Nat} (hi : ls[i]? = some m) (hj : ls[j]? = some m) (h : (ls.take i).count m = (ls.take j).count m) : i = j := by
  have h1 := idx_of ls m i hi ls.length (List.getElem?_eq_some_iff.1 hi).1 (Nat.le_refl _)
  have h2 := idx_of ls m j hj ls.length (List.getElem?_eq_some_iff.1 hj).1 (Nat.le_refl _)
  rw [h, h2] at h1
  exact (Option.some.inj h1).symm
theorem cnt_lt {ls : List Nat} {m i : Nat} (hi : ls[i]? = some m) : (ls.take i).count m < ls.count m := by
  have h1 := idx_of ls m i hi ls.length (List.getElem?_eq_some_iff.1 hi).1 (Nat.le_refl _)
  have h2 := (List.getElem?_eq_some_iff.1 h1).1
  rw [Huff.idxTo_len _ _ _ (Nat.le_refl _), List.take_length] at h2
  exact h2
theorem val_lt {ls : List Nat} {m i : Nat} (hi : ls[i]? = some m) (hm : 1 ≤ m) : 2 * E ls (m - 1) ≤ val ls i m ∧ val ls i m < E ls m := by
  have := cnt_lt hi
  unfold val
  obtain ⟨m, rfl⟩ : ∃ k, m = k + 1 := ⟨m - 1, by omega⟩
  rw [E_succ, Nat.add_sub_cancel]; omega
theorem sorted_pre (ls : List Nat) {a : Nat} : ∀ b, a ≤ b → ∃ r, Huff.sortedTo ls b = Huff.sortedTo ls a ++ r
  | 0, h => ⟨[], by rw [show a = 0 by omega]; simp⟩
  | b + 1, h => by
    rcases Nat.lt_or_ge a (b + 1) with h1 | h1
    · obtain ⟨r, hr⟩ := sorted_pre ls (a := a) b (by omega)
      exact ⟨r ++ Huff.idxTo ls (b + 1) ls.length, by rw [Huff.sortedTo, hr, List.append_assoc]⟩
    · exact ⟨[], by rw [show a = b + 1 by omega]; simp⟩
theorem sorted_get {ls : List Nat} {n k i : Nat} (hn : n + 1 ≤ 15) (h : (Huff.idxTo ls (n + 1) ls.length)[k]? = some i) : (Huff.sorted ls).getD ((Huff.sortedTo ls n).length + k) 0 = i := by
  obtain ⟨r, hr⟩ := sorted_pre ls (a := n + 1) 15 hn
  have hk := (List.getElem?_eq_some_iff.1 h).1
  unfold Huff.sorted
  rw [List.getD_eq_getElem?_getD, hr, Huff.sortedTo, List.append_assoc, List.getElem?_append_right (by omega), Nat.add_sub_cancel_left, List.getElem?_append_left hk, h]; rfl
theorem sorted_more {ls : List Nat} {m n : Nat} (hm : m ≤ 15) (hmn : n < m) {i : Nat} (hi : ls[i]? = some m) : (Huff.sortedTo ls n).length < (Huff.sortedTo ls 15).length := by
  obtain ⟨k, rfl⟩ : ∃ k, m = k + 1 := ⟨m - 1, by omega⟩
  have h1 := Huff.sortedTo_mono ls (a := n) (b := k) (by omega)
  have h2 := Huff.sortedTo_mono ls (a := k + 1) (b := 15) hm
  rw [Huff.sortedTo_len_succ] at h2
  have := cnt_lt hi
  omega
/- reading off a list of bits, all endings -/
def readR (ls S : List Nat) : Nat → Nat → Nat → Nat → Nat → List Bool → Nat × Nat × List Bool
  | 0, _, _, _, _, t => (0, 3, t)
  | _ + 1, _, _, _, _, [] => (0, 6, [])
  | f + 1, n, code, first, at_, b :: t =>
    if code * 2 + b.toNat < first + ls.count n then (S.getD (at_ + (code * 2 + b.toNat - first)) 0, 0, t)
    else if at_ + ls.count n = S.length then (0, 3, t)
    else readR ls S f (n + 1) (code * 2 + b.toNat) ((first + ls.count n) * 2) (at_ + ls.count n) t
theorem bits_short {r : RD} (hr : r.Ok) {n : Nat} (hn : n ≤ 32) (h : r.den.length < n) : (r.bits n).2.2 = false := by
  rw [RD.den_len] at h
  have h1 := RD.fill_left n r hr hn
  unfold RD.bits
  rw [if_pos]
  have : (r.fill n).left = 8 * ((r.fill n).s.length - (r.fill n).pos) + (r.fill n).hav := rfl
  omega
theorem readGo_R (ls S : List Nat) : ∀ (f n code first at_ : Nat) (r : RD), r.Ok → (Huff.readGo ls S f n code first at_ r).2 = ((readR ls S f n code first at_ r.den).1, (readR ls S f n code first at_ r.den).2.1) ∧ ((readR ls S f n code first at_ r.den).2.1 = 0 → RD.At r (Huff.readGo ls S f n code first at_ r).1 (readR ls S f n code first at_ r.den).2.2)
  | 0, _, _, _, _, r, hr => ⟨rfl, fun h => by cases h⟩
  | f + 1, n, code, first, at_, r, hr => by
    cases hd : r.den with
    | nil =>
      have := bits_short hr (n := 1) (by omega) (by rw [hd]; decide)
      unfold Huff.readGo readR
      rw [if_pos this]
      exact ⟨rfl, fun h => by cases h⟩
    | cons b t =>
      have hx : wb b.toNat 1 = [b] := by cases b <;> rfl
      obtain ⟨r1, h1, h2⟩ := RD.bits_den hr (n := 1) (x := b.toNat) (rest := t) (by omega) (by cases b <;> decide) (by rw [hd, hx]; rfl)
      unfold Huff.readGo readR
      rw [h1]
      simp only [Bool.true_eq_false, if_false]
      by_cases c1 : code * 2 + b.toNat < first + ls.count n
      · simp only [if_pos c1]; exact ⟨trivial, fun _ => h2⟩
      · simp only [if_neg c1]
        by_cases c2 : at_ + ls.count n = S.length
        · simp only [if_pos c2]; exact ⟨trivial, fun h => by cases h⟩
        · simp only [if_neg c2]
          have := readGo_R ls S f (n + 1) (code * 2 + b.toNat) ((first + ls.count n) * 2) (at_ + ls.count n) r1 h2.ok
          rw [h2.den] at this
          exact ⟨this.1, fun h => h2.trans (this.2 h)⟩
/- looking for a code -/
theorem find_some {b : List Bool} : ∀ (cs : List (List Bool)) (off i : Nat) (c : List Bool), cs[i]? = some c → 0 < c.length → c.isPrefixOf b = true → (∀ j c', cs[j]? = some c' → 0 < c'.length → c'.isPrefixOf b = true → j = i) → RI.find b cs off = some (off + i, c.length)
  | [], _, _, _, h, _, _, _ => by cases h
  | x :: cs, off, 0, c, h, h0, hp, hu => by
    simp at h; subst h
    rw [RI.find, if_pos ⟨h0, hp⟩]; rfl
  | x :: cs, off, i + 1, c, h, h0, hp, hu => by
    rw [RI.find, if_neg]
    · rw [find_some cs (off + 1) i c (by simpa using h) h0 hp (fun j c' h1 h2 h3 => by have := hu (j + 1) c' (by simpa using h1) h2 h3; omega)]
      congr 2; omega
    · rintro ⟨h1, h2⟩
      have := hu 0 x rfl h1 h2
      omega
theorem find_none {b : List Bool} : ∀ (cs : List (List Bool)) (off : Nat), (∀ (j : Nat) c', cs[j]? = some c' → 0 < c'.length → c'.isPrefixOf b = true → False) → RI.find b cs off = none
  | [], _, _ => rfl
  | x :: cs, off, h => by
    rw [RI.find, if_neg (fun hx => h 0 x rfl hx.1 hx.2)]
    exact find_none cs (off + 1) (fun j c' h1 => h (j + 1) c' (by simpa using h1))
theorem pre_iff {c b : List Bool} : c.isPrefixOf b = true ↔ b.take c.length = c := by
  rw [List.isPrefixOf_iff_prefix, List.prefix_iff_eq_take]; exact eq_comm
section
variable {ls : List Nat} (hg : Good ls)
include hg
/-- every code that is there -/
theorem codes_all {j : Nat} {c : List Bool} (h : (RI.codes ls)[j]? = some c) (h0 : 0 < c.length) : ∃ m, ls[j]? = some m ∧ 1 ≤ m ∧ m ≤ 15 ∧ c = cb (val ls j m) m := by
  have hl := (List.getElem?_eq_some_iff.1 h).1
  rw [codes_len] at hl
  obtain ⟨m, hm⟩ := get_some hl
  have h15 := hg.le m (List.mem_of_getElem? hm)
  rw [codes_get hm h15] at h
  by_cases h1 : 1 ≤ m
  · rw [if_pos h1] at h; exact ⟨m, hm, h1, h15, (Option.some.inj h).symm⟩
  · rw [if_neg h1] at h; have := Option.some.inj h; subst this; simp at h0
theorem some_code {i m : Nat} (hi : ls[i]? = some m) (hm : 1 ≤ m) : RI.some4 (RI.codes ls) = true := by
  have h15 := hg.le m (List.mem_of_getElem? hi)
  have := codes_get hi h15
  rw [if_pos hm] at this
  unfold RI.some4
  rw [List.any_eq_true]
  exact ⟨_, List.mem_of_getElem? this, by rw [decide_eq_true]; rw [Go.Eng.cb_len]; omega⟩
/-- a way that goes on leads to a code -/
theorem child : ∀ (d n code : Nat), n + d = 16 → 1 ≤ n → n ≤ 15 → E ls (n - 1) ≤ code → code < 2 ^ (n - 1) → (Huff.sortedTo ls (n - 1)).length < (Huff.sortedTo ls 15).length → ∃ i m, ls[i]? = some m ∧ n ≤ m ∧ m ≤ 15 ∧ (cb (val ls i m) m).take (n - 1) = cb code (n - 1)
  | 0, n, _, h, _, h2, _, _, _ => by omega
  | d + 1, n, code, h, h1, h2, he, hc, hs => by
    obtain ⟨n, rfl⟩ : ∃ k, n = k + 1 := ⟨n - 1, by omega⟩
    rw [Nat.add_sub_cancel] at *
    have hE := E_succ ls n
    by_cases hx : 2 * code < E ls (n + 1)
    · obtain ⟨i, hi⟩ := get_some (l := Huff.idxTo ls (n + 1) ls.length) (k := 2 * code - 2 * E ls n) (by rw [Huff.idxTo_len _ _ _ (Nat.le_refl _), List.take_length]; omega)
      obtain ⟨h3, _, h5⟩ := idx_get ls (n + 1) ls.length (Nat.le_refl _) _ _ hi
      refine ⟨i, n + 1, h3, Nat.le_refl _, h2, ?_⟩
      have hv : val ls i (n + 1) = code * 2 + false.toNat := by unfold val; rw [h5, Nat.add_sub_cancel]; simp; omega
      rw [hv, cb_snoc, List.take_append_of_le_length (by rw [Go.Eng.cb_len]; exact Nat.le_refl _), List.take_of_length_le (by rw [Go.Eng.cb_len]; exact Nat.le_refl _)]
    · have hp : 2 * code < 2 ^ (n + 1) := by rw [Nat.pow_succ]; omega
      rcases hg.full with hf | hf | ⟨hf, hf1⟩
      · by_cases h15 : n + 1 = 15
        · rw [h15] at hx hp
          rw [show (2 : Nat) ^ 15 = 32768 by decide] at hp
          omega
        · by_cases hs2 : (Huff.sortedTo ls (n + 1)).length < (Huff.sortedTo ls 15).length
          · obtain ⟨i, m, a1, a2, a3, a4⟩ := child d (n + 1 + 1) (2 * code) (by omega) (by omega) (by omega) (by rw [Nat.add_sub_cancel]; omega) (by rw [Nat.add_sub_cancel]; exact hp) (by rw [Nat.add_sub_cancel]; exact hs2)
            refine ⟨i, m, a1, by omega, a3, ?_⟩
            rw [Nat.add_sub_cancel] at a4
            have := congrArg (List.take n) a4
            rw [List.take_take, Nat.min_eq_left (by omega)] at this
            rw [this, show 2 * code = code * 2 + false.toNat by simp; omega, cb_snoc, List.take_append_of_le_length (by rw [Go.Eng.cb_len]; exact Nat.le_refl _), List.take_of_length_le (by rw [Go.Eng.cb_len]; exact Nat.le_refl _)]
          · -- no longer codes: the code ends here
            exfalso
            have hz : ∀ k, n + 1 + k ≤ 15 → E ls (n + 1 + k) = E ls (n + 1) * 2 ^ k := by
              intro k
              induction k with
              | zero => intro _; simp
              | succ k ih =>
                intro hk
                have h3 := Huff.sortedTo_mono ls (a := n + 1) (b := n + 1 + k) (by omega)
                have h4 := Huff.sortedTo_mono ls (a := n + 1 + (k + 1)) (b := 15) hk
                rw [← Nat.add_assoc, Huff.sortedTo_len_succ] at h4
                have hm2 : E ls (n + 1) * (2 ^ k * 2) = 2 * (E ls (n + 1) * 2 ^ k) := by rw [← Nat.mul_assoc]; omega
                rw [← Nat.add_assoc, E_succ, ih (by omega), Nat.pow_succ, hm2]; omega
            have h5 := hz (15 - (n + 1)) (by omega)
            rw [show n + 1 + (15 - (n + 1)) = 15 by omega, hf] at h5
            have h6 : 2 ^ (n + 1) * 2 ^ (15 - (n + 1)) = 32768 := by rw [← Nat.pow_add, show n + 1 + (15 - (n + 1)) = 15 by omega]
            have h7 : E ls (n + 1) < 2 ^ (n + 1) := by omega
            have h8 := Nat.mul_lt_mul_of_pos_right h7 (Nat.pow_pos (n := 15 - (n + 1)) (show 0 < 2 by decide))
            omega
      · omega
      · -- one code alone, of one bit
        cases n with
        | zero =>
          have h3 := E_succ ls 0
          rw [E_zero, Nat.zero_add, hf1] at h3
          rw [Nat.zero_add, h3] at hx
          rw [Nat.pow_zero] at hc
          omega
        | succ n =>
          have h3 := Huff.sortedTo_mono ls (a := 0 + 1) (b := n + 1) (by omega)
          rw [Huff.sortedTo_len_succ, hf1] at h3
          omega
theorem val_top {i m : Nat} (hi : ls[i]? = some m) (hm : 1 ≤ m) (h15 : m ≤ 15) : val ls i m < 2 ^ m := Nat.lt_of_lt_of_le (val_lt hi hm).2 (hg.fit m h15)
/-- a longer code does not begin with what is at hand -/
theorem longer {i m n code : Nat} (hi : ls[i]? = some m) (h15 : m ≤ 15) (hn : 1 ≤ n) (hmn : n < m) (hc : code < E ls n) : (cb (val ls i m) m).take n ≠ cb code n := by
  intro h
  obtain ⟨k, rfl⟩ : ∃ k, m = n + k := ⟨m - n, by omega⟩
  rw [cb_take] at h
  have hv := (val_lt hi (by omega)).1
  have ht := val_top hg hi (by omega) h15
  have h1 : E ls n * 2 ^ k ≤ val ls i (n + k) := by
    obtain ⟨j, rfl⟩ : ∃ j, k = j + 1 := ⟨k - 1, by omega⟩
    have := E_mono ls n j
    rw [show n + (j + 1) - 1 = n + j by omega] at hv
    rw [Nat.pow_succ, ← Nat.mul_assoc]; omega
  have h2 : E ls n ≤ val ls i (n + k) >>> k := by
    rw [Nat.shiftRight_eq_div_pow]; exact (Nat.le_div_iff_mul_le (Nat.pow_pos (by decide))).2 h1
  have h3 : val ls i (n + k) >>> k < 2 ^ n := by
    rw [Nat.shiftRight_eq_div_pow, Nat.div_lt_iff_lt_mul (Nat.pow_pos (by decide)), ← Nat.pow_add]; exact ht
  have h4 := hg.fit n (by omega)
  have := cb_inj h3 (by omega) h
  omega
theorem decode (den : List Bool) : ∀ (f n code : Nat) (pre t : List Bool), f + n = 16 → 1 ≤ n → den = pre ++ t → pre = cb code (n - 1) → code < 2 ^ (n - 1) → E ls (n - 1) ≤ code →
    (∀ (i m : Nat), ls[i]? = some m → 1 ≤ m → m < n → den.take m ≠ cb (val ls i m) m) → (Huff.sortedTo ls (n - 1)).length < (Huff.sorted ls).length →
    ((readR ls (Huff.sorted ls) f n code (2 * E ls (n - 1)) (Huff.sortedTo ls (n - 1)).length t).2.1 = 0 → ∃ k, RI.read4 (RI.codes ls) (den.take 16) = ((readR ls (Huff.sorted ls) f n code (2 * E ls (n - 1)) (Huff.sortedTo ls (n - 1)).length t).1, k, 0) ∧ (readR ls (Huff.sorted ls) f n code (2 * E ls (n - 1)) (Huff.sortedTo ls (n - 1)).length t).2.2 = den.drop k ∧ k ≤ den.length) ∧
    ((readR ls (Huff.sorted ls) f n code (2 * E ls (n - 1)) (Huff.sortedTo ls (n - 1)).length t).2.1 ≠ 0 → RI.read4 (RI.codes ls) (den.take 16) = (0, 0, (readR ls (Huff.sorted ls) f n code (2 * E ls (n - 1)) (Huff.sortedTo ls (n - 1)).length t).2.1))
  | 0, n, _, _, _, h, _, _, _, _, _, _, hs => by
    obtain rfl : n = 16 := by omega
    exact absurd hs (Nat.lt_irrefl _)
  | f + 1, n, code, pre, [], h, h1, hd, hp, hc, he, hx, hs => by
    obtain ⟨n, rfl⟩ : ∃ k, n = k + 1 := ⟨n - 1, by omega⟩
    rw [Nat.add_sub_cancel] at *
    rw [List.append_nil] at hd
    have hlen : den.length = n := by rw [hd, hp, Go.Eng.cb_len]
    refine ⟨fun h0 => (by unfold readR at h0; cases h0), fun _ => ?_⟩
    unfold readR
    obtain ⟨i, m, a1, a2, a3, a4⟩ := child hg (15 - n) (n + 1) code (by omega) (by omega) (by omega) (by rw [Nat.add_sub_cancel]; exact he) (by rw [Nat.add_sub_cancel]; exact hc) (by rw [Nat.add_sub_cancel]; exact hs)
    rw [Nat.add_sub_cancel] at a4
    have hT : den.take 16 = den := List.take_of_length_le (by omega)
    rw [hT]
    unfold RI.read4
    rw [find_none]
    · dsimp only
      rw [if_neg (by rw [some_code hg a1 (by omega)]; simp), if_pos]
      unfold RI.more4
      rw [List.any_eq_true]
      have hcg := codes_get a1 a3
      rw [if_pos (by omega)] at hcg
      refine ⟨_, List.mem_of_getElem? hcg, ?_⟩
      rw [Bool.and_eq_true]
      refine ⟨decide_eq_true (by rw [Go.Eng.cb_len]; omega), ?_⟩
      rw [pre_iff, hlen, a4, hd, hp]
    · intro j c' b1 b2 b3
      obtain ⟨m', c1, c2, c3, rfl⟩ := codes_all hg b1 b2
      rw [pre_iff, Go.Eng.cb_len] at b3
      rcases Nat.lt_or_ge m' (n + 1) with h5 | h5
      · exact hx j m' c1 c2 h5 b3
      · have := congrArg List.length b3
        rw [List.length_take, Go.Eng.cb_len, hlen] at this; omega
  | f + 1, n, code, pre, b :: t, h, h1, hd, hp, hc, he, hx, hs => by
    obtain ⟨n, rfl⟩ : ∃ k, n = k + 1 := ⟨n - 1, by omega⟩
    rw [Nat.add_sub_cancel] at *
    have hplen : pre.length = n := by rw [hp, Go.Eng.cb_len]
    have hpre : pre ++ [b] = cb (code * 2 + b.toNat) (n + 1) := by rw [cb_snoc, hp]
    have hb2 : b.toNat ≤ 1 := by cases b <;> decide
    have hc2 : code * 2 + b.toNat < 2 ^ (n + 1) := by rw [Nat.pow_succ]; omega
    have hden : den.take (n + 1) = cb (code * 2 + b.toNat) (n + 1) := by
      rw [hd, show pre ++ b :: t = (pre ++ [b]) ++ t by simp, List.take_append_of_le_length (by simp [hplen]), List.take_of_length_le (by simp [hplen]), hpre]
    have hdl : n + 1 ≤ den.length := by rw [hd]; simp [hplen]
    have hE := E_succ ls n
    have htk : ∀ m, m ≤ 15 → (den.take 16).take m = den.take m := fun m hm => by rw [List.take_take, Nat.min_eq_left (by omega)]
    unfold readR
    by_cases hx1 : code * 2 + b.toNat < 2 * E ls n + ls.count (n + 1)
    · simp only [if_pos hx1]
      refine ⟨fun _ => ?_, fun h0 => absurd rfl h0⟩
      obtain ⟨i, hi⟩ := get_some (l := Huff.idxTo ls (n + 1) ls.length) (k := code * 2 + b.toNat - 2 * E ls n) (by rw [Huff.idxTo_len _ _ _ (Nat.le_refl _), List.take_length]; omega)
      obtain ⟨h3, _, h5⟩ := idx_get ls (n + 1) ls.length (Nat.le_refl _) _ _ hi
      have hv : val ls i (n + 1) = code * 2 + b.toNat := by unfold val; rw [h5, Nat.add_sub_cancel]; omega
      have hcg := codes_get h3 (by omega)
      rw [if_pos (by omega), hv] at hcg
      refine ⟨n + 1, ?_, ?_, hdl⟩
      · rw [sorted_get (by omega) hi]
        unfold RI.read4
        rw [find_some (RI.codes ls) 0 i _ hcg (by rw [Go.Eng.cb_len]; omega) (by rw [pre_iff, Go.Eng.cb_len, htk _ (by omega), hden])]
        · rw [Nat.zero_add, Go.Eng.cb_len]
        · intro j c' b1 b2 b3
          obtain ⟨m', c1, c2, c3, rfl⟩ := codes_all hg b1 b2
          rw [pre_iff, Go.Eng.cb_len, htk _ c3] at b3
          rcases Nat.lt_trichotomy m' (n + 1) with h6 | h6 | h6
          · exact absurd b3 (hx j m' c1 c2 h6)
          · subst h6
            rw [hden] at b3
            have := cb_inj hc2 (val_top hg c1 c2 c3) b3
            refine idx_uniq c1 h3 ?_
            unfold val at this hv; omega
          · exfalso
            have := congrArg (List.take (n + 1)) b3
            rw [List.take_take, Nat.min_eq_left (by omega), hden] at this
            exact longer hg c1 c3 (by omega) h6 (by omega) this.symm
      · rw [hd, show n + 1 = (pre ++ [b]).length by simp [hplen], show pre ++ b :: t = (pre ++ [b]) ++ t by simp, List.drop_left]
    · simp only [if_neg hx1]
      have hexc : ∀ (i m : Nat), ls[i]? = some m → 1 ≤ m → m < n + 1 + 1 → den.take m ≠ cb (val ls i m) m := by
        intro i m c1 c2 c3 b3
        rcases Nat.lt_or_ge m (n + 1) with h6 | h6
        · exact hx i m c1 c2 h6 b3
        · obtain rfl : m = n + 1 := by omega
          rw [hden] at b3
          have h7 := cb_inj hc2 (val_top hg c1 c2 (by omega)) b3
          have := (val_lt c1 c2).2
          omega
      by_cases hx2 : (Huff.sortedTo ls n).length + ls.count (n + 1) = (Huff.sorted ls).length
      · simp only [if_pos hx2]
        refine ⟨fun h0 => (by cases h0), fun _ => ?_⟩
        have hnone : ∀ (i m : Nat), ls[i]? = some m → m ≤ 15 → ¬ n + 1 < m := by
          intro i m c1 c3 h6
          have := sorted_more c3 h6 c1
          rw [Huff.sortedTo_len_succ] at this
          unfold Huff.sorted at hx2; omega
        obtain ⟨i0, m0, d1, d2, d3, _⟩ := child hg (15 - n) (n + 1) code (by omega) (by omega) (by omega) (by rw [Nat.add_sub_cancel]; exact he) (by rw [Nat.add_sub_cancel]; exact hc) (by rw [Nat.add_sub_cancel]; exact hs)
        unfold RI.read4
        rw [find_none]
        · dsimp only
          rw [if_neg (by rw [some_code hg d1 (by omega)]; simp), if_neg]
          unfold RI.more4
          rw [List.any_eq_true]
          rintro ⟨c, hc1, hc3⟩
          rw [Bool.and_eq_true] at hc3
          have hlen := of_decide_eq_true hc3.1
          obtain ⟨j, hj⟩ := List.mem_iff_getElem?.1 hc1
          obtain ⟨m', c1, c2, c3, rfl⟩ := codes_all hg hj (by omega)
          rw [Go.Eng.cb_len, List.length_take] at hlen
          exact hnone j m' c1 c3 (by omega)
        · intro j c' b1 b2 b3
          obtain ⟨m', c1, c2, c3, rfl⟩ := codes_all hg b1 b2
          rw [pre_iff, Go.Eng.cb_len, htk _ c3] at b3
          have := hnone j m' c1 c3
          exact hexc j m' c1 c2 (by omega) b3
      · simp only [if_neg hx2]
        have := decode den f (n + 1 + 1) (code * 2 + b.toNat) (pre ++ [b]) t (by omega) (by omega) (by rw [hd]; simp) (by rw [Nat.add_sub_cancel]; exact hpre) (by rw [Nat.add_sub_cancel]; exact hc2) (by rw [Nat.add_sub_cancel]; omega) hexc (by
          rw [Nat.add_sub_cancel, Huff.sortedTo_len_succ]
          have := Huff.sortedTo_mono ls (a := n + 1) (b := 15) (by omega)
          rw [Huff.sortedTo_len_succ] at this
          unfold Huff.sorted at hx2 ⊢; omega)
        rw [Nat.add_sub_cancel, Huff.sortedTo_len_succ, show 2 * E ls (n + 1) = (2 * E ls n + ls.count (n + 1)) * 2 by omega] at this
        exact this
end
end Dec
end Go.Eng
/-
  Plain: the reference's state and the program's reader step alike: numbers, symbols, codes' checks, stored bytes. No program in sight.
-/
set_option linter.unusedVariables false
set_option linter.unusedSimpArgs false
namespace Go.Eng
namespace Sm
open Dec
theorem fail_eq {e : Nat} {s : RI.St} (h : s.err = 0) : RI.fail e s = ⟨s.pos, s.out, e⟩ := if_pos h
theorem wb_numB : ∀ l : List Bool, wb (RI.numB l) l.length = l
  | [] => rfl
  | b :: l => by
    rw [List.length_cons, Nat.add_comm, wb_split, RI.numB]
    have e1 : wb (2 * RI.numB l + if b = true then 1 else 0) 1 = [b] := by
      rw [WR.wb_one, Nat.testBit_zero]; cases b <;> simp <;> omega
    have e2 : (2 * RI.numB l + if b = true then 1 else 0) >>> 1 = RI.numB l := by rw [Nat.shiftRight_eq_div_pow, Nat.pow_one]; split <;> omega
    rw [e1, e2, wb_numB l]; rfl
theorem numB_app : ∀ l r : List Bool, RI.numB (l ++ r) = RI.numB l + 2 ^ l.length * RI.numB r
  | [], r => by simp [RI.numB]
  | b :: l, r => by
    have := numB_app l r
    rw [List.cons_append, RI.numB, this, RI.numB, List.length_cons, Nat.pow_succ, show 2 ^ l.length * 2 * RI.numB r = 2 * (2 ^ l.length * RI.numB r) by rw [Nat.mul_comm (2 ^ l.length) 2, Nat.mul_assoc]]
    omega
theorem numB_wb {x n : Nat} (h : x < 2 ^ n) : RI.numB (wb x n) = x := by
  have h1 := numB_lt (wb x n)
  rw [wb_len] at h1
  refine wb_inj h1 h ?_
  have := wb_numB (wb x n)
  rw [wb_len] at this; exact this
theorem numB_bb : ∀ s : List UInt8, ((RI.numB (bb s) : Nat) : Int) = Sums.fromLittle s
  | [] => rfl
  | c :: s => by
    rw [bb_cons, numB_app, numB_wb (n := 8) c.toNat_lt, wb_len, Sums.fromLittle, ← numB_bb s]; omega
theorem bb_drop : ∀ (s : List UInt8) (i : Nat), (bb s).drop (8 * i) = bb (s.drop i)
  | s, 0 => by simp
  | [], i + 1 => by simp [bb]
  | c :: s, i + 1 => by
    rw [bb_cons, show 8 * (i + 1) = 8 * i + (wb c.toNat 8).length by rw [wb_len]; omega, Nat.add_comm, ← List.drop_drop, List.drop_left, bb_drop s i]; rfl
theorem bb_take : ∀ (s : List UInt8) (i : Nat), (bb s).take (8 * i) = bb (s.take i)
  | s, 0 => by simp [bb]
  | [], i + 1 => by simp [bb]
  | c :: s, i + 1 => by
    rw [bb_cons, show 8 * (i + 1) = (wb c.toNat 8).length + 8 * i by rw [wb_len]; omega, List.take_length_add_append, bb_take s i]; rfl
/-- the reference's state stands where the reader stands -/
structure Sim (S : List UInt8) (a : Nat) (r : RD) (out : List UInt8) (s : RI.St) : Prop where
  err : s.err = 0
  out : s.out = out
  ok : r.Ok
  den : r.den = (bb (S.drop a)).drop s.pos
  pos : s.pos ≤ (bb (S.drop a)).length
  src : r.s = S
  frm : r.frm = a
def Ends (S : List UInt8) (a : Nat) (y : Infl.St) (s : RI.St) : Prop := y.2.2 = s.err ∧ (y.2.2 = 0 → Sim S a y.1 y.2.1 s)
section
variable {S : List UInt8} {a : Nat} {r : RD} {out : List UInt8} {s : RI.St}
theorem Sim.left (h : Sim S a r out s) : r.left + s.pos = (bb (S.drop a)).length := by
  have h1 := RD.den_len r
  have h2 := h.pos
  rw [h.den, List.length_drop] at h1; omega
theorem num (h : Sim S a r out s) {n : Nat} (hn : n ≤ 32) :
    ((r.bits n).2.2 = true ∧ ∃ s', RI.number (bb (S.drop a)) n s = ((r.bits n).2.1, s') ∧ Sim S a (r.bits n).1 out s' ∧ s'.pos = s.pos + n) ∨
    ((r.bits n).2.2 = false ∧ ∃ s', RI.number (bb (S.drop a)) n s = (0, s') ∧ s'.err = 6) := by
  have h0 := h.pos
  by_cases hl : (bb (S.drop a)).length < s.pos + n
  · right
    refine ⟨bits_short h.ok hn (by rw [h.den, List.length_drop]; omega), ⟨s.pos, s.out, 6⟩, ?_, rfl⟩
    unfold RI.number
    rw [if_neg (by rw [h.err]; omega), if_pos hl, fail_eq h.err]
  · left
    obtain ⟨l, hl2⟩ : ∃ l, ((bb (S.drop a)).drop s.pos).take n = l := ⟨_, rfl⟩
    have hll : l.length = n := by rw [← hl2, List.length_take, List.length_drop]; omega
    have hlt := numB_lt l
    rw [hll] at hlt
    have hw := wb_numB l
    rw [hll] at hw
    obtain ⟨r', h1, h2⟩ := RD.bits_den h.ok (n := n) (x := RI.numB l) (rest := (bb (S.drop a)).drop (s.pos + n)) hn hlt (by rw [hw, h.den, ← hl2, ← List.drop_drop, List.take_append_drop])
    rw [h1]
    refine ⟨rfl, ⟨s.pos + n, s.out, s.err⟩, ?_, ⟨h.err, h.out, h2.ok, h2.den, by simp only; omega, h2.s.trans h.src, h2.frm.trans h.frm⟩, rfl⟩
    unfold RI.number
    rw [if_neg (by rw [h.err]; omega), if_neg hl, hl2]
theorem sym {ls : List Nat} (hg : Dec.Good ls) (h : Sim S a r out s) :
    ((Huff.read ls r).2.2 = 0 ∧ ∃ s', RI.symbol (bb (S.drop a)) (RI.codes ls) s = ((Huff.read ls r).2.1, s') ∧ Sim S a (Huff.read ls r).1 out s') ∨
    ((Huff.read ls r).2.2 ≠ 0 ∧ ∃ s', RI.symbol (bb (S.drop a)) (RI.codes ls) s = (0, s') ∧ s'.err = (Huff.read ls r).2.2) := by
  have h0 := h.pos
  have hbad : ∀ e, e ≠ 0 → RI.read4 (RI.codes ls) (r.den.take 16) = (0, 0, e) → ∃ s', RI.symbol (bb (S.drop a)) (RI.codes ls) s = (0, s') ∧ s'.err = e := by
    intro e he hr
    refine ⟨⟨s.pos, s.out, e⟩, ?_, rfl⟩
    unfold RI.symbol
    rw [if_neg (by rw [h.err]; omega), ← h.den, hr]
    simp only
    rw [if_pos he, fail_eq h.err]
  by_cases hz : (Huff.sorted ls).length = 0
  · right
    have e : Huff.read ls r = (r, 0, 3) := by unfold Huff.read; rw [if_pos hz]
    rw [e]
    refine ⟨by simp, hbad 3 (by decide) ?_⟩
    have hno : ∀ (j : Nat) c', (RI.codes ls)[j]? = some c' → 0 < c'.length → False := by
      intro j c' h1 h2
      obtain ⟨m, a1, a2, a3, -⟩ := codes_all hg h1 h2
      have := sorted_more (n := 0) a3 (by omega) a1
      unfold Huff.sorted at hz; omega
    unfold RI.read4
    rw [find_none _ _ (fun j c' h1 h2 _ => hno j c' h1 h2)]
    dsimp only
    rw [if_pos]
    unfold RI.some4
    rw [List.any_eq_false]
    intro c hc
    obtain ⟨j, hj⟩ := List.mem_iff_getElem?.1 hc
    intro hd
    exact hno j c hj (of_decide_eq_true hd)
  · have e : Huff.read ls r = Huff.readGo ls (Huff.sorted ls) 15 1 0 0 0 r := by unfold Huff.read; rw [if_neg hz]
    rw [e]
    have H := Dec.decode hg r.den 15 1 0 [] r.den rfl (by omega) rfl rfl (by decide) (by rw [show 1 - 1 = 0 from rfl, E_zero]; exact Nat.le_refl _) (fun i m _ h1 h2 => by omega) (by show 0 < _; omega)
    rw [show 2 * E ls (1 - 1) = 0 from rfl, show (Huff.sortedTo ls (1 - 1)).length = 0 from rfl] at H
    have G := readGo_R ls (Huff.sorted ls) 15 1 0 0 0 r h.ok
    generalize Dec.readR ls (Huff.sorted ls) 15 1 0 0 0 r.den = R at H G
    generalize Huff.readGo ls (Huff.sorted ls) 15 1 0 0 0 r = X at G ⊢
    have g1 : X.2.1 = R.1 := congrArg Prod.fst G.1
    have g2 : X.2.2 = R.2.1 := congrArg Prod.snd G.1
    by_cases h3 : R.2.1 = 0
    · left
      obtain ⟨k, k1, k2, k3⟩ := H.1 h3
      have t := G.2 h3
      refine ⟨g2.trans h3, ⟨s.pos + k, s.out, s.err⟩, ?_, ?_⟩
      · unfold RI.symbol
        rw [if_neg (by rw [h.err]; omega), ← h.den, k1]
        simp only
        rw [if_neg (by omega), g1]
      · have hl := h.left
        rw [RD.den_len] at k3
        exact ⟨h.err, h.out, t.ok, by rw [t.den, k2, h.den, List.drop_drop], by simp only; omega, t.s.trans h.src, t.frm.trans h.frm⟩
    · right
      rw [g2]
      exact ⟨h3, hbad _ h3 (H.2 h3)⟩
end
/- what a code's lengths come to -/
def kr (n : Nat) (l : List Nat) : Nat := (l.map fun x => if 1 ≤ x ∧ x ≤ n then 2 ^ (15 - x) else 0).sum
def nr (n : Nat) (l : List Nat) : Nat := (l.map fun x => if 1 ≤ x ∧ x ≤ n then 1 else 0).sum
theorem kr_succ (n : Nat) : ∀ l : List Nat, kr (n + 1) l = kr n l + l.count (n + 1) * 2 ^ (15 - (n + 1))
  | [] => by simp [kr]
  | x :: l => by
    have ih := kr_succ n l
    unfold kr at ih ⊢
    rw [List.map_cons, List.map_cons, List.sum_cons, List.sum_cons, ih]
    by_cases h : x = n + 1
    · subst h
      rw [List.count_cons_self, if_pos (by omega), if_neg (by omega), Nat.add_mul, Nat.one_mul]; omega
    · rw [List.count_cons_of_ne h]
      by_cases h2 : 1 ≤ x ∧ x ≤ n
      · rw [if_pos (by omega), if_pos h2]; omega
      · rw [if_neg (by omega), if_neg h2]; omega
theorem nr_succ (n : Nat) : ∀ l : List Nat, nr (n + 1) l = nr n l + l.count (n + 1)
  | [] => by simp [nr]
  | x :: l => by
    have ih := nr_succ n l
    unfold nr at ih ⊢
    rw [List.map_cons, List.map_cons, List.sum_cons, List.sum_cons, ih]
    by_cases h : x = n + 1
    · subst h
      rw [List.count_cons_self, if_pos (by omega), if_neg (by omega)]; omega
    · rw [List.count_cons_of_ne h]
      by_cases h2 : 1 ≤ x ∧ x ≤ n
      · rw [if_pos (by omega), if_pos h2]; omega
      · rw [if_neg (by omega), if_neg h2]; omega
theorem map_zero (f : Nat → Nat) (hf : ∀ x, f x = 0) : ∀ l : List Nat, (l.map f).sum = 0
  | [] => rfl
  | x :: l => by rw [List.map_cons, List.sum_cons, hf, map_zero f hf l]
theorem kr_E (l : List Nat) : ∀ n, n ≤ 15 → kr n l = E l n * 2 ^ (15 - n)
  | 0, _ => by rw [E_zero, Nat.zero_mul]; exact map_zero _ (fun x => if_neg (by omega)) l
  | n + 1, h => by
    rw [kr_succ, kr_E l n (by omega), E_succ, Nat.add_mul, show 15 - n = 15 - (n + 1) + 1 by omega, Nat.pow_succ]
    have : E l n * (2 ^ (15 - (n + 1)) * 2) = 2 * E l n * 2 ^ (15 - (n + 1)) := by rw [Nat.mul_comm (2 ^ (15 - (n + 1))) 2, ← Nat.mul_assoc, Nat.mul_comm (E l n) 2]
    omega
theorem nr_len (l : List Nat) : ∀ n, nr n l = (Huff.sortedTo l n).length
  | 0 => map_zero _ (fun x => if_neg (by omega)) l
  | n + 1 => by rw [nr_succ, nr_len l n, Huff.sortedTo_len_succ]
theorem kraft_E {l : List Nat} (h : ∀ x ∈ l, x ≤ 15) : RI.kraft l = E l 15 := by
  have := kr_E l 15 (Nat.le_refl _)
  rw [Nat.sub_self, Nat.pow_zero, Nat.mul_one] at this
  rw [← this]
  unfold RI.kraft kr
  congr 1
  refine List.map_congr_left fun x hx => ?_
  have := h x hx
  by_cases h1 : 0 < x
  · rw [if_pos h1, if_pos (by omega)]
  · rw [if_neg h1, if_neg (by omega)]
theorem nCodes_len {l : List Nat} (h : ∀ x ∈ l, x ≤ 15) : RI.nCodes l = (Huff.sortedTo l 15).length := by
  rw [← nr_len]
  unfold RI.nCodes nr
  congr 1
  refine List.map_congr_left fun x hx => ?_
  have := h x hx
  by_cases h1 : 0 < x
  · rw [if_pos h1, if_pos (by omega)]
  · rw [if_neg h1, if_neg (by omega)]
theorem chk {l : List Nat} (h320 : l.length ≤ 320) (h : ∀ x ∈ l, x ≤ 15) : RI.check l ≠ 0 ↔ Huff.bad l = true := by
  have hk := kraft_E h
  have hn := nCodes_len h
  have hc := Huff.codesTo_eq l 15
  have hl := left_E l 15
  rw [show (2 : Int) ^ 15 = 32768 by decide] at hl
  unfold RI.check
  rw [if_neg (by omega), hk, hn]
  by_cases h1 : 32768 < E l 15
  · rw [if_pos (.inl h1), Huff.bad_neg (n := 14) (by omega) (by show Huff.leftTo l 15 < 0; omega)]; simp
  · have hneg : ∀ n, n < 15 → 0 ≤ Huff.leftTo l (n + 1) := fun n hn => by
      have h2 := E_mono l (n + 1) (15 - (n + 1))
      rw [show n + 1 + (15 - (n + 1)) = 15 by omega] at h2
      have h3 : 2 ^ (n + 1) * 2 ^ (15 - (n + 1)) = 32768 := by rw [← Nat.pow_add, show n + 1 + (15 - (n + 1)) = 15 by omega]
      have h4 : E l (n + 1) ≤ 2 ^ (n + 1) := by
        rcases Nat.lt_or_ge (2 ^ (n + 1)) (E l (n + 1)) with h5 | h5
        · have h8 := Nat.mul_lt_mul_of_pos_right h5 (Nat.pow_pos (n := 15 - (n + 1)) (show 0 < 2 by decide)); omega
        · exact h5
      rw [left_E]
      have h5 : ((2 ^ (n + 1) : Nat) : Int) = (2 : Int) ^ (n + 1) := by simp
      omega
    rw [Huff.bad_end hneg]
    simp only [Bool.and_eq_true, decide_eq_true_eq, Bool.not_eq_true', Bool.and_eq_false_iff, decide_eq_false_iff_not]
    constructor
    · intro h2
      split at h2
      · rename_i h3
        rcases h3 with h3 | ⟨h3, h4, h5⟩
        · omega
        · refine ⟨by omega, ?_⟩
          by_cases h6 : Huff.codesTo l 15 = 1
          · right; intro h7; exact h5 ⟨by omega, h7⟩
          · left; exact h6
      · exact absurd rfl h2
    · rintro ⟨h3, h4⟩
      rw [if_pos]
      · decide
      · right
        refine ⟨by omega, by omega, ?_⟩
        rintro ⟨h5, h6⟩
        rcases h4 with h4 | h4
        · omega
        · exact h4 h6
theorem good_fixLit : Dec.Good Infl.fixedLit := good_of Infl.lit_le Infl.lit_bad
theorem good_fixDist : Dec.Good Infl.fixedDist := good_of Infl.dist_le Infl.dist_bad
/- stored bytes -/
section
variable {T : List UInt8} {most : Nat}
theorem num8 {i : Nat} {c : UInt8} {out : List UInt8} (h : T[i]? = some c) : RI.number (bb T) 8 ⟨8 * i, out, 0⟩ = (c.toNat, ⟨8 * (i + 1), out, 0⟩) := by
  have hl := (List.getElem?_eq_some_iff.1 h).1
  unfold RI.number
  rw [if_neg (by simp), if_neg (by rw [bb_len]; simp only; omega)]
  simp only
  rw [bb_drop, drop_cons h, bb_cons, List.take_append_of_le_length (by rw [wb_len]; exact Nat.le_refl _), List.take_of_length_le (by rw [wb_len]; exact Nat.le_refl _), numB_wb (n := 8) c.toNat_lt]; rfl
theorem num16 {i : Nat} {out : List UInt8} (h : i + 2 ≤ T.length) : RI.number (bb T) 16 ⟨8 * i, out, 0⟩ = ((Sums.fromLittle ((T.drop i).take 2)).toNat, ⟨8 * (i + 2), out, 0⟩) := by
  unfold RI.number
  rw [if_neg (by simp), if_neg (by rw [bb_len]; simp only; omega)]
  simp only
  rw [bb_drop, show 16 = 8 * 2 from rfl, bb_take, ← numB_bb, Int.toNat_natCast, Nat.mul_add]
theorem numS {i n : Nat} {out : List UInt8} (h : 8 * T.length < 8 * i + n) : RI.number (bb T) n ⟨8 * i, out, 0⟩ = (0, ⟨8 * i, out, 6⟩) := by
  unfold RI.number
  rw [if_neg (by simp), if_pos (by rw [bb_len]; exact h), fail_eq rfl]
theorem u8i_u8 (c : UInt8) : u8i ((c.toNat : Nat) : Int) = c := by
  have := c.toNat_lt
  apply UInt8.toNat_inj.1
  unfold u8i; simp; omega
theorem storedGo_eq : ∀ (k i : Nat) (out : List UInt8), i ≤ T.length → out.length ≤ most →
    (RI.storedGo (bb T) most k ⟨8 * i, out, 0⟩).err = (if most - out.length < min k (T.length - i) then 2 else if T.length - i < k then 6 else 0) ∧
    ((RI.storedGo (bb T) most k ⟨8 * i, out, 0⟩).err = 0 → RI.storedGo (bb T) most k ⟨8 * i, out, 0⟩ = ⟨8 * (i + k), out ++ (T.drop i).take k, 0⟩)
  | 0, i, out, _, _ => by
    rw [RI.storedGo, if_neg (by omega), if_neg (by omega)]
    exact ⟨rfl, fun _ => by simp⟩
  | k + 1, i, out, hi, ho => by
    rw [RI.storedGo, if_neg (by simp)]
    rcases Nat.lt_or_ge i T.length with h1 | h1
    · obtain ⟨c, hc⟩ := get_some h1
      rw [num8 hc]; dsimp only
      unfold RI.put
      rw [if_neg (by simp)]
      by_cases h2 : most ≤ out.length
      · rw [if_pos h2, storedGo_stop (by simp), if_pos (by omega)]
        exact ⟨rfl, fun h => by cases h⟩
      · rw [if_neg h2, u8i_u8]
        have ih := storedGo_eq k (i + 1) (out ++ [c]) (by omega) (by simp; omega)
        rw [List.length_append, List.length_singleton] at ih
        refine ⟨ih.1.trans ?_, fun h => (ih.2 h).trans ?_⟩
        · by_cases h3 : most - out.length < min (k + 1) (T.length - i)
          · rw [if_pos h3, if_pos (by omega)]
          · rw [if_neg h3, if_neg (by omega)]
            by_cases h4 : T.length - i < k + 1
            · rw [if_pos h4, if_pos (by omega)]
            · rw [if_neg h4, if_neg (by omega)]
        · rw [drop_cons hc, List.take_succ_cons, List.append_assoc]
          congr 1
          omega
    · rw [numS (by omega)]; dsimp only
      unfold RI.put
      rw [if_pos (by simp), storedGo_stop (by simp), if_neg (by omega), if_pos (by omega)]
      exact ⟨rfl, fun h => by cases h⟩
end
theorem stored_sim {S : List UInt8} {a : Nat} {r : RD} {out : List UInt8} {s : RI.St} {most : Nat} (ha : a ≤ S.length) (h : Sim S a r out s) (ho : out.length ≤ most) : Ends S a (Infl.stored r out most) (RI.stored (bb (S.drop a)) most s) := by
  have hf := RD.from_le h.ok
  have hlen := h.left
  rw [bb_len, List.length_drop] at hlen
  have hfr : r.from_ = r.pos - r.hav / 8 := by unfold RD.from_ RD.align RD.took; simp only; omega
  have hok := h.ok
  have hp := hok.pos
  have hbg := hok.begun
  have hsrc := h.src
  have hfrm := h.frm
  obtain ⟨i, hi⟩ : ∃ i, r.from_ = a + i := ⟨r.from_ - a, by omega⟩
  have hup : RI.up s.pos = 8 * i := by
    unfold RI.up
    unfold RD.left at hlen
    rw [hsrc] at hlen hp
    omega
  have hs1 : (⟨RI.up s.pos, s.out, s.err⟩ : RI.St) = ⟨8 * i, out, 0⟩ := by rw [hup, h.out, h.err]
  obtain ⟨T, hT⟩ : ∃ T, S.drop a = T := ⟨_, rfl⟩
  have hTl : T.length = S.length - a := by rw [← hT, List.length_drop]
  have hil : a + i ≤ S.length := by rw [← hi, ← hsrc]; exact hf.2
  have hdr : ∀ j, S.drop (a + j) = T.drop j := fun j => by rw [← hT, List.drop_drop]
  have hby : ∀ (q : RD) (j n : Nat), q.s = S → q.from_ = a + j → (q.bytes n).2.2 = true → j + n ≤ T.length → (q.bytes n).2.1 = (T.drop j).take n := by
    intro q j n h1 h2 h3 h4
    unfold RD.bytes at h3 ⊢
    split at h3
    · cases h3
    · rw [if_neg (by assumption)]; simp only
      rw [h1, h2, List.drop_take, hdr, Nat.add_sub_cancel_left]
  unfold RI.stored
  rw [hs1, hT]
  unfold Infl.stored
  by_cases h4 : T.length - i < 4
  · have e : (r.bytes 4).2.2 = false := by unfold RD.bytes; rw [if_pos (by rw [hi, hsrc]; omega)]
    rw [if_pos e]
    refine ⟨?_, fun h => by cases h⟩
    simp only
    by_cases h2 : T.length < i + 2
    · rw [numS (by omega)]; dsimp only
      rw [number_stop (by simp)]; dsimp only
      rw [failIf_f (by simp), storedGo_stop (by simp)]
    · rw [num16 (by omega)]; dsimp only
      rw [numS (by omega)]; dsimp only
      rw [failIf_f (by simp), storedGo_stop (by simp)]
  · obtain ⟨q, hq⟩ : ∃ q, (r.bytes 4) = q := ⟨_, rfl⟩
    have e : q = ((⟨S, a + i + 4, 0, 0, a⟩ : RD), (T.drop i).take 4, true) := by
      rw [← hq]; unfold RD.bytes
      rw [if_neg (by rw [hi, hsrc]; omega), hi]
      show ((⟨r.s, a + i + 4, 0, 0, r.frm⟩ : RD), (r.s.take (a + i + 4)).drop (a + i), true) = _
      rw [hsrc, hfrm, List.drop_take, hdr, Nat.add_sub_cancel_left]
    rw [hq, e]
    dsimp only
    rw [if_neg (by decide), num16 (by omega)]; dsimp only
    rw [num16 (by omega)]; dsimp only
    rw [List.take_take, List.drop_take, List.drop_drop, show min 2 4 = 2 from rfl, show 4 - 2 = 2 from rfl]
    have b1 := Sums.fromLittle_lt' (s := (T.drop i).take 2) (j := 2) (by simp; omega)
    have b2 := Sums.fromLittle_lt' (s := (T.drop (i + 2)).take 2) (j := 2) (by simp; omega)
    rw [show (256 : Int) ^ 2 = 65536 by decide] at b1 b2
    generalize Sums.fromLittle ((T.drop i).take 2) = N at b1 ⊢
    generalize Sums.fromLittle ((T.drop (i + 2)).take 2) = M at b2 ⊢
    obtain ⟨n, rfl⟩ : ∃ n : Nat, N = n := ⟨N.toNat, by omega⟩
    obtain ⟨m, rfl⟩ : ∃ n : Nat, M = n := ⟨M.toNat, by omega⟩
    rw [Int.toNat_natCast, Int.toNat_natCast, Defl.xor_val (by omega)]
    by_cases hx : n + m ≠ 65535
    · rw [if_pos (by omega), failIf_t ⟨rfl, hx⟩, fail_eq rfl, storedGo_stop (by simp)]
      exact ⟨rfl, fun h => by cases h⟩
    · rw [if_neg (by omega), failIf_f (fun h => hx h.2)]
      have G := storedGo_eq (T := T) (most := most) n (i + 2 + 2) out (by omega) ho
      obtain ⟨q1, hq1⟩ : ∃ q1 : RD, (⟨S, a + i + 4, 0, 0, a⟩ : RD) = q1 := ⟨_, rfl⟩
      have q1s : q1.s = S := by rw [← hq1]
      have q1f : q1.from_ = a + (i + 4) := by rw [← hq1]; unfold RD.from_ RD.align RD.took; simp only; omega
      have q1l : q1.left = 8 * (T.length - (i + 4)) := by rw [← hq1]; unfold RD.left; simp only; omega
      rw [hq1]
      unfold Infl.stored1
      by_cases hn : T.length - (i + 4) < n
      · have e1 : q1.bytes n = (q1.align, [], false) := by unfold RD.bytes; rw [if_pos (by rw [q1f, q1s]; omega)]
        rw [e1]; dsimp only
        rw [if_pos rfl]
        have qa : q1.align = q1 := by rw [← hq1]; rfl
        rw [qa, q1l, Nat.mul_div_cancel_left _ (by omega)]
        have e2 : (q1.bytes (T.length - (i + 4))).2.1.length = T.length - (i + 4) := by
          unfold RD.bytes; rw [if_neg (by rw [q1f, q1s]; omega)]; simp only
          rw [List.length_drop, List.length_take, q1f, q1s]; omega
        unfold Infl.stored2
        rw [e2]
        by_cases h5 : most - out.length < T.length - (i + 4)
        · rw [if_pos h5]
          refine ⟨?_, fun h => by cases h⟩
          rw [G.1, if_pos (by omega)]
        · rw [if_neg h5]
          refine ⟨?_, fun h => by simp at h⟩
          show (6 : Nat) = _
          rw [G.1, if_neg (by omega), if_pos (by omega)]
      · have e1 : q1.bytes n = (⟨S, a + (i + 4) + n, 0, 0, a⟩, (T.drop (i + 4)).take n, true) := by
          unfold RD.bytes
          rw [if_neg (by rw [q1f, q1s]; omega), q1f]
          rw [q1s, List.drop_take, hdr, Nat.add_sub_cancel_left, ← hq1]; rfl
        rw [e1]; dsimp only
        rw [if_neg (by decide)]
        unfold Infl.stored2
        rw [List.length_take, List.length_drop]
        by_cases h5 : most - out.length < min n (T.length - (i + 4))
        · rw [if_pos h5]
          refine ⟨?_, fun h => by cases h⟩
          rw [G.1, if_pos (by omega)]
        · rw [if_neg h5]
          have g0 : (RI.storedGo (bb T) most n ⟨8 * (i + 2 + 2), out, 0⟩).err = 0 := by rw [G.1, if_neg (by omega), if_neg (by omega)]
          refine ⟨g0.symm, fun _ => ?_⟩
          rw [G.2 g0]
          refine ⟨rfl, rfl, ⟨by simp only; omega, by simp, by simp, by rw [← hsrc]; exact hok.len, by simp only; omega⟩, ?_, by rw [hT, bb_len]; simp only; omega, rfl, rfl⟩
          show wb 0 0 ++ bb (S.drop (a + (i + 4) + n)) = (bb (S.drop a)).drop (8 * (i + 2 + 2 + n))
          rw [wb_zero, List.nil_append, bb_drop, hT, Nat.add_assoc, hdr]
end Sm
end Go.Eng
/-
  The reference (ref01.Number).
-/
set_option linter.unusedVariables false
set_option linter.unusedSimpArgs false
namespace Go.Eng
open Go.Proofs
theorem ik_58_F28 : intK Tryz.prog 58 = some .u64 := by kernel_rfl

set_option maxRecDepth 100000 in
set_option maxHeartbeats 1000000 in
theorem number_spec (s : List UInt8) (h : s.length ≤ 4) : Spec Tryz.prog 21 #[str s] [] (Ret fun v hl => v = .int .u64 (Sums.fromBig s) ∧ hl = []) := by
 refine Spec.enter Tryz.func21 rfl rfl rfl (fun F w0 => ?_)
 dsimp only [argL, List.cons_append, List.nil_append]
 refine CG.sr (G.as ?_)
 refine G.nil (EN.tsr (G.as ?_))
 refine G.nil (EN.ts (CG.sr (G.as ?_)))
 refine G.nil (EN.then (CG.block (CG.loopI (fun m L H => ∃ k : Nat, k ≤ s.length ∧ m = (s.length) - k ∧ L = [(0, str s), (3, .int .u64 (Sums.fromBig (s.take k))), (4, .int .i64 k)] ∧ H = F) ((s.length) - 0) (hl := []) (⟨0, Nat.zero_le _, rfl, rfl, rfl⟩) sB rfl tK sF ?_)))
 rintro m L H ⟨k, hk, rfl, rfl, rfl⟩
 try dsimp only [List.cons_append, List.nil_append]
 refine CG.seq (CG.sr (G.mv ?_))
 refine G.mv ?_
 refine G.q rfl rfl rfl rfl (q_len_str rfl rfl us_9_F1) (G.q rfl rfl rfl rfl (q_lss rfl rfl rfl) (G.nil (EN.then ?_)))
 refine CG.cond rfl (fun h8 => ?_) (fun h8 => ?_)
 ·
  obtain ⟨c, hc⟩ := get_some (l := s) (k := k) oM
  have hs := take_snoc hc
  have hcl := c.toNat_lt
  have hb := Sums.fromBig_lt' (s := s.take k) (j := 4) (by simp; omega)
  rw [show (256 : Int) ^ 4 = 4294967296 by decide] at hb
  have e : Sums.fromBig (s.take (k+1)) = Sums.fromBig (s.take k) * 256 + c.toNat := by rw [hs, Sums.fromBig_snoc]
  refine CG.skip (EN.ts (CG.block (CG.reg (G.mv ?_))))
  refine G.q rfl rfl rfl rfl (q_mulw rfl rfl rfl lOm lOm) (G.mv ?_)
  refine G.mv ?_
  refine G.q rfl rfl rfl rfl (q_index rfl rfl rfl us_9_F1 (hc)) (G.q rfl rfl rfl rfl (q_conv_in rfl rfl is_5_F1 ik_58_F28 (wrapu_in (b := 64) rfl rfl oM)) (G.q rfl rfl rfl rfl (q_addw rfl rfl rfl lOm lOm) (G.as ?_)))
  refine G.nil (EN.sub (sC 0 (sC 3 (sC 4 Sub.nil))) ?_)
  refine EN.in_normal (EN.tr ?_)
  refine G.mv ?_
  refine G.q rfl rfl rfl rfl (q_add_i rfl rfl rfl oM) (G.as ?_)
  refine G.nil ?_
  rw [show (256 : Int) * Sums.fromBig (s.take k) + c.toNat = Sums.fromBig (s.take (k + 1)) by omega]
  exact EN.round (hl := []) ((s.length) - (k + 1)) oM (⟨k + 1, by omega, rfl, rfl, rfl⟩) sB rfl tK sF
 ·
  obtain rfl : k = s.length := by omega
  refine CG.exit ?_
  refine EN.then_exit (EN.then_exit (EN.in_here ?_))
  refine EN.tsr (G.mv ?_)
  refine G.as ?_
  refine G.nil (EN.then (CG.ret ?_))
  rw [List.take_length]
  exact fin_ret1 rfl rfl tK sF (⟨rfl, rfl⟩) _ (.inl rfl)

end Go.Eng
/-
  The reference (ref02.turn).
-/
set_option linter.unusedVariables false
set_option linter.unusedSimpArgs false
namespace Go.Eng
open Go.Proofs


set_option maxRecDepth 100000 in
set_option maxHeartbeats 1000000 in
theorem turn_spec (x : Int) (n : Nat) (hn : 0 < n ∧ n < 32) : Spec Tryz.prog 49 #[.int .u32 x, .int .i64 n] [] (Ret fun v hl => v = .int .u32 (Sha.rot x n) ∧ hl = []) := by
 refine Spec.enter Tryz.func49 rfl rfl rfl (fun F w0 => ?_)
 dsimp only [argL, List.cons_append, List.nil_append]
 refine CG.sr (G.as ?_)
 refine G.nil (EN.ts ?_)
 have e1 : min ((n : Int)).toNat IntKind.u32.bits = n := by simp only [IntKind.bits]; omega
 have e2 : min ((32 : Int) - n).toNat IntKind.u32.bits = 32 - n := by simp only [IntKind.bits]; omega
 refine CG.regT [] mixed (by kernel_rfl) ?_
 refine G.mv ?_
 refine G.mv ?_
 refine G.q rfl rfl rfl rfl (q_shl rfl rfl rfl oM) (G.mv ?_)
 refine G.mv ?_
 refine G.q rfl rfl rfl rfl (q_sub_i rfl rfl rfl oM) (G.q rfl rfl rfl rfl (q_shr rfl rfl rfl oM) (G.q rfl rfl rfl rfl (q_or rfl rfl rfl) (G.as ?_)))
 refine G.nil (EN.sub (sC 4 Sub.nil) ?_)
 refine EN.then (CG.ret ?_)
 rw [e1, e2]
 exact fin_ret1 rfl rfl tK sF (⟨rfl, rfl⟩) _ (.inl rfl)

end Go.Eng
/-
  The reference (ref02.words).
-/
set_option linter.unusedVariables false
set_option linter.unusedSimpArgs false
namespace Go.Eng
open Go.Proofs
theorem bs_90_0_all_F30 : ∀ (w : World), (Instr.buildSlice 90 0 [].toArray).run Tryz.prog w = .ok (.slice (some ⟨w.heap.size, 0, none⟩) 0 0) { w with heap := w.heap.push (.cells [].toArray 28) } := fun _ => by kernel_rfl
theorem bs_90_1_all_F30 : ∀ (x0 : Int) (w : World), (Instr.buildSlice 90 1 [(0, .int .u32 x0)].toArray).run Tryz.prog w = .ok (.slice (some ⟨w.heap.size, 0, none⟩) 1 1) { w with heap := w.heap.push (.cells [.int .u32 x0].toArray 28) } := fun _ _ => by kernel_rfl
theorem ik_28_F30 : intK Tryz.prog 28 = some .u32 := by kernel_rfl

theorem words_snoc (p : List UInt8) (k : Nat) : ((List.range k).map (Sha.word p)).map u32v ++ [.int .u32 (((p.getD (4 * k) 0).toNat : Int) * 16777216 + (p.getD (4 * k + 1) 0).toNat * 65536 + (p.getD (4 * k + 2) 0).toNat * 256 + (p.getD (4 * k + 3) 0).toNat)] = ((List.range (k + 1)).map (Sha.word p)).map u32v := by
  rw [List.range_succ, List.map_append, List.map_append]; rfl

attribute [local irreducible] cel celZ own exS Sha.word

set_option maxRecDepth 100000 in
set_option maxHeartbeats 1000000 in
theorem words_spec (g off c : Nat) (z : Nat × Nat) (cur : List Value) (p : List UInt8) (hp : p.length = 64) (hc : ∀ (i : Nat) (x : UInt8), p[i]? = some x → nth cur (off + i * 1) = some (u8v x)) : Spec Tryz.prog 48 #[.slice (some ⟨g, off, none⟩) 64 c] [celZ g 5 z cur] (Ret fun v hl => hl = [celZ g 5 z cur, own 28 1 v 16 (((List.range 16).map (Sha.word p)).map u32v)]) := by
 refine Spec.enter Tryz.func48 rfl rfl rfl (fun F w0 => ?_)
 dsimp only [argL, List.cons_append, List.nil_append]
 refine CG.sr (G.as ?_)
 refine G.nil (EN.tsr (G.e rfl rfl rfl rfl (e_bslice rfl rfl (bs_90_0_all_F30)) (fun _ _ _ _ _ _ => trivial) ?_))
 rintro _ _ ⟨b5, rfl, rfl⟩
 refine G.as ?_
 refine G.nil (EN.ts (CG.sr (G.as ?_)))
 refine G.nil (EN.then (CG.block (CG.closeOwn (g := b5) (sz := 1) (n := 0) (cap := 0) (xs := []) tK1 (by decide) (by decide) rfl rfl ?_)))
 refine CG.loopI (fun n L H => ∃ (k : Nat) (v : Value), k ≤ 16 ∧ n = 16 - k ∧ L = [(0, .slice (some ⟨g, off, none⟩) 64 c), (3, v), (4, .int .i64 ((4 * k : Nat) : Int))] ∧ H = [celZ g 5 z cur, own 28 1 v k (((List.range k).map (Sha.word p)).map u32v)] ++ F) (16 - 0) (hl := [_, _]) (⟨0, _, Nat.zero_le _, rfl, rfl, rfl⟩) sB rfl tK sF ?_
 rintro n L H ⟨k, v, hk, rfl, rfl, rfl⟩
 try dsimp only [List.cons_append, List.nil_append]
 refine CG.seq (CG.sr (G.mv ?_))
 refine G.q rfl rfl rfl rfl (q_lss rfl rfl rfl) (G.nil (EN.then ?_))
 refine CG.cond rfl (fun h7 => ?_) (fun h7 => ?_)
 ·
  have g0 := hc (4 * k + 0) _ (getD_u8 (S := p) (i := 4 * k + 0) oM)
  have l0 := u8_lt (p.getD (4 * k + 0) 0)
  have g1 := hc (4 * k + 1) _ (getD_u8 (S := p) (i := 4 * k + 1) oM)
  have l1 := u8_lt (p.getD (4 * k + 1) 0)
  have g2 := hc (4 * k + 2) _ (getD_u8 (S := p) (i := 4 * k + 2) oM)
  have l2 := u8_lt (p.getD (4 * k + 2) 0)
  have g3 := hc (4 * k + 3) _ (getD_u8 (S := p) (i := 4 * k + 3) oM)
  have l3 := u8_lt (p.getD (4 * k + 3) 0)
  refine CG.skip (EN.ts (CG.block ?_))
  refine CG.regC [15, 22, 30, 38, 14, 21, 29, 37] (Keeps _ [celZ g 5 z cur]) mixed (by kernel_rfl) (fun w hw => Keeps.of hw tK) ?_
  refine G.mv ?_
  refine G.mv ?_
  refine G.mv ?_
  rw [show ((4 * k : Nat) : Int) = ((4 * k + 0 : Nat) : Int) by omega]
  refine G.q rfl rfl rfl rfl (q_ixaddr rfl rfl rfl se_80_F2 sz_5_F6 (show 4 * k + 0 < 64 by omega)) (G.rK rfl rfl rfl rfl rfl (fun R => r_loadZ rfl rfl ag_5_F6 mB (g0)) ?_)
  refine G.q rfl rfl rfl rfl (q_conv_in rfl rfl is_5_F1 ik_28_F30 (wrapu_in (b := 32) rfl rfl oM)) (G.q rfl rfl rfl rfl (q_mulw rfl rfl rfl lOm lOm) (G.mv ?_))
  refine G.mv ?_
  refine G.q rfl rfl rfl rfl (q_add_i rfl rfl rfl oM) ?_
  rw [show ((4 * k + 0 : Nat) : Int) + 1 = ((4 * k + 1 : Nat) : Int) by omega]
  refine G.q rfl rfl rfl rfl (q_ixaddr rfl rfl rfl se_80_F2 sz_5_F6 (show 4 * k + 1 < 64 by omega)) (G.rK rfl rfl rfl rfl rfl (fun R => r_loadZ rfl rfl ag_5_F6 mB (g1)) ?_)
  refine G.q rfl rfl rfl rfl (q_conv_in rfl rfl is_5_F1 ik_28_F30 (wrapu_in (b := 32) rfl rfl oM)) (G.q rfl rfl rfl rfl (q_mulw rfl rfl rfl lOm lOm) (G.q rfl rfl rfl rfl (q_addw rfl rfl rfl lOm lOm) (G.mv ?_)))
  refine G.mv ?_
  refine G.q rfl rfl rfl rfl (q_add_i rfl rfl rfl oM) ?_
  rw [show ((4 * k + 0 : Nat) : Int) + 2 = ((4 * k + 2 : Nat) : Int) by omega]
  refine G.q rfl rfl rfl rfl (q_ixaddr rfl rfl rfl se_80_F2 sz_5_F6 (show 4 * k + 2 < 64 by omega)) (G.rK rfl rfl rfl rfl rfl (fun R => r_loadZ rfl rfl ag_5_F6 mB (g2)) ?_)
  refine G.q rfl rfl rfl rfl (q_conv_in rfl rfl is_5_F1 ik_28_F30 (wrapu_in (b := 32) rfl rfl oM)) (G.q rfl rfl rfl rfl (q_mulw rfl rfl rfl lOm lOm) (G.q rfl rfl rfl rfl (q_addw rfl rfl rfl lOm lOm) (G.mv ?_)))
  refine G.mv ?_
  refine G.q rfl rfl rfl rfl (q_add_i rfl rfl rfl oM) ?_
  rw [show ((4 * k + 0 : Nat) : Int) + 3 = ((4 * k + 3 : Nat) : Int) by omega]
  refine G.q rfl rfl rfl rfl (q_ixaddr rfl rfl rfl se_80_F2 sz_5_F6 (show 4 * k + 3 < 64 by omega)) (G.rK rfl rfl rfl rfl rfl (fun R => r_loadZ rfl rfl ag_5_F6 mB (g3)) ?_)
  refine G.q rfl rfl rfl rfl (q_conv_in rfl rfl is_5_F1 ik_28_F30 (wrapu_in (b := 32) rfl rfl oM)) (G.q rfl rfl rfl rfl (q_addw rfl rfl rfl lOm lOm) (G.e rfl rfl rfl rfl (e_bslice rfl rfl (bs_90_1_all_F30 _)) (fun _ _ _ w hR hw => by obtain ⟨_, _, rfl⟩ := hR; exact Keeps.of hw tK) ?_))
  rintro _ _ ⟨b40, rfl, rfl⟩
  refine G.e rfl rfl rfl rfl (e_append rfl rfl rfl se_90_F10 nf_28_F11 rfl tK1 mB (by rfl) (by simp [Value.oneCell', str]) oM) (fun _ _ _ w hR hw => by subst hR; exact Keeps.of hw tK) ?_
  rintro _ _ rfl
  rw [show 4 * k + 0 = 4 * k from rfl, words_snoc]
  refine G.as ?_
  refine G.nil (EN.sub (sC 0 (sC 3 (sC 4 Sub.nil))) ?_)
  refine EN.in_normal (EN.tr ?_)
  refine G.mv ?_
  refine G.q rfl rfl rfl rfl (q_add_i rfl rfl rfl oM) (G.as ?_)
  refine G.nil ?_
  rw [show ((4 * k : Nat) : Int) + 4 = ((4 * (k + 1) : Nat) : Int) by omega]
  exact EN.round (hl := [_, _]) (16 - (k + 1)) oM (⟨k + 1, _, by omega, rfl, rfl, rfl⟩) sB rfl tK sF
 ·
  obtain rfl : k = 16 := by omega
  refine CG.exit ?_
  refine EN.then_exit (EN.then_exit (EN.in_here ?_))
  refine EN.tsr (G.mv ?_)
  refine G.as ?_
  refine G.nil (EN.then (CG.ret ?_))
  exact fin_ret1 rfl rfl tK sF (rfl) _ (.inl rfl)

end Go.Eng
/-
  The reference (ref02.out).
-/
set_option linter.unusedVariables false
set_option linter.unusedSimpArgs false
namespace Go.Eng
open Go.Proofs
theorem bT_80_9_F31 : bytesT Tryz.prog 80 9 = some 5 := by kernel_rfl
theorem bs_80_0_all_F31 : ∀ (w : World), (Instr.buildSlice 80 0 [].toArray).run Tryz.prog w = .ok (.slice (some ⟨w.heap.size, 0, none⟩) 0 0) { w with heap := w.heap.push (.cells [].toArray 5) } := fun _ => by kernel_rfl
theorem ik_5_F31 : intK Tryz.prog 5 = some .u8 := by kernel_rfl

attribute [local irreducible] cel own exS Sha.word

set_option maxRecDepth 100000 in
set_option maxHeartbeats 1000000 in
theorem out_spec (v0 : Value) (h2 : Sha.S5) : Spec Tryz.prog 50 #[v0] [own 28 1 v0 5 ((Sha.wordsL h2).map u32v)] (Ret fun v hl => v = str (Sha.outB h2) ∧ hl = []) := by
 refine Spec.enter Tryz.func50 rfl rfl rfl (fun F w0 => ?_)
 dsimp only [argL, List.cons_append, List.nil_append]
 refine CG.sr (G.as ?_)
 refine G.nil (EN.ts ?_)
 refine CG.openOwn (v := v0) tK1 oM (fun g2 cap2 cur2 hv2 hcap2 hmx2 hcl2 hct2 => ?_)
 subst hv2
 refine CG.reg (G.e rfl rfl rfl rfl (e_bslice rfl rfl (bs_80_0_all_F31)) (fun _ _ _ _ _ _ => trivial) ?_)
 rintro _ _ ⟨b6, rfl, rfl⟩
 refine G.as ?_
 refine G.nil (EN.ts (CG.sr (G.mv ?_)))
 refine G.q rfl rfl rfl rfl (q_len_sl rfl rfl se_90_F10) (G.mv ?_)
 refine G.nil (EN.then (CG.block (CG.closeOwn (g := b6) (sz := 1) (n := 0) (cap := 0) (xs := []) tK1 (by decide) (by decide) rfl rfl ?_)))
 refine CG.loopI (fun m L H => ∃ k : Nat, ∃ (w : Value), k ≤ 5 ∧ m = (5) - k ∧ L = [(3, w), (7, .slice (some ⟨g2, 0, none⟩) 5 cap2), (8, .int .i64 (5 : Nat)), (9, .int .i64 k)] ∧ H = [own 5 1 w (((Sha.wordsL h2).take k).flatMap Sha.outW).length ((((Sha.wordsL h2).take k).flatMap Sha.outW).map u8v), cel g2 28 cur2] ++ F) ((5) - 0) (hl := [_, _]) (⟨0, _, Nat.zero_le _, rfl, rfl, rfl⟩) sB rfl tK sF ?_
 rintro m L H ⟨k, w, hk, rfl, rfl, rfl⟩
 try dsimp only [List.cons_append, List.nil_append]
 refine CG.sr (G.q rfl rfl rfl rfl (q_lss rfl rfl rfl) (G.nil (EN.ts ?_)))
 refine CG.cond rfl (fun h10 => ?_) (fun h10 => ?_)
 ·
  obtain ⟨x, hx⟩ := get_some (l := Sha.wordsL h2) (k := k) (by simp [Sha.wordsL]; omega)
  have hs := take_snoc hx
  have hwl : (((Sha.wordsL h2).take k).flatMap Sha.outW).length = 4 * k := by
    rw [outW_len]; simp [Sha.wordsL]; omega
  have hcell : nth cur2 k = some (.int .u32 x) := nth_take hct2 (by rw [List.getElem?_map, hx]; rfl)
  refine CG.skip (EN.ts (CG.block (CG.sr (G.q rfl rfl rfl rfl (q_ixaddr1 rfl rfl rfl se_90_F10 sz_28_F3 (show k < 5 by omega)) (G.r rfl rfl rfl rfl (r_load rfl rfl ag_28_F3 (.there .here) (hcell)) ?_)))))
  refine G.as ?_
  refine G.nil (EN.tr ?_)
  refine G.mv ?_
  refine G.mv ?_
  refine G.q rfl rfl rfl rfl (q_shrc (d := 16777216) rfl rfl rfl (by decide) (by decide)) (G.q rfl rfl rfl rfl (q_conv_u8 rfl rfl is_28_F2 ik_5_F31) (G.mv ?_))
  refine G.q rfl rfl rfl rfl (q_shrc (d := 65536) rfl rfl rfl (by decide) (by decide)) (G.q rfl rfl rfl rfl (q_conv_u8 rfl rfl is_28_F2 ik_5_F31) (G.mv ?_))
  refine G.q rfl rfl rfl rfl (q_shrc (d := 256) rfl rfl rfl (by decide) (by decide)) (G.q rfl rfl rfl rfl (q_conv_u8 rfl rfl is_28_F2 ik_5_F31) (G.mv ?_))
  refine G.q rfl rfl rfl rfl (q_conv_u8 rfl rfl is_28_F2 ik_5_F31) (G.e rfl rfl rfl rfl (e_bslice rfl rfl (bs_80_4_all_F12 _ _ _ _)) (fun _ _ _ _ _ _ => trivial) ?_)
  rintro _ _ ⟨b25, rfl, rfl⟩
  refine G.e rfl rfl rfl rfl (e_append rfl rfl rfl se_80_F2 nf_5_F2 rfl tK1 mB (by rfl) (by simp [Value.oneCell', str]) oM) (fun _ _ _ _ _ _ => trivial) ?_
  rintro _ _ rfl
  rw [own_outW, ← hs]
  refine G.as ?_
  refine G.nil (EN.sub (sC 3 (sC 7 (sC 8 (sC 9 Sub.nil)))) ?_)
  refine EN.in_normal (EN.tr ?_)
  refine G.q rfl rfl rfl rfl (q_add_i rfl rfl rfl oM) (G.mv ?_)
  refine G.nil ?_
  exact EN.round (hl := [_, _]) ((5) - (k + 1)) oM (⟨k + 1, _, by omega, rfl, rfl, rfl⟩) sB rfl tK sF
 ·
  obtain rfl : k = 5 := by omega
  refine CG.exit ?_
  refine EN.then_exit (EN.then_exit (EN.in_here ?_))
  refine EN.tsr (G.mv ?_)
  refine G.r rfl rfl rfl rfl (r_b2s rfl rfl bT_80_9_F31 mB) ?_
  refine G.as ?_
  refine G.nil (EN.then (CG.ret ?_))
  exact fin_ret1 rfl rfl tK sF (⟨rfl, rfl⟩) _ (.inl rfl)

end Go.Eng
/-
  The reference (ref02.Pad).
-/
set_option linter.unusedVariables false
set_option linter.unusedSimpArgs false
namespace Go.Eng
open Go.Proofs
theorem ik_58_F32 : intK Tryz.prog 58 = some .u64 := by kernel_rfl
theorem ik_5_F32 : intK Tryz.prog 5 = some .u8 := by kernel_rfl
theorem sB_9_80_F32 : strB Tryz.prog 9 80 = some 5 := by kernel_rfl

theorem G.factM {E : Env} {D : List Deferred} {l : List Oper} {L : List (Nat × Value)} {H H1 : List HP} {T n : Nat} {v : Value} {xs : List Value} (ht : Take H (ownM T v n xs) H1) (k : ∀ ad c, v = .slice ad n c → G E D l L H) : G E D l L H :=
  G.fact (α := ∃ ad c, v = .slice ad n c) ht (fun _ hh => by obtain ⟨_, _, ad, c, h, _⟩ := ownM_shape hh; exact ⟨ad, c, h⟩) (fun ⟨ad, c, h⟩ => k ad c h)
theorem CG.factM {P : Program} {w0 : World} {N : Nat} {Q : Exit → Act → World → Prop} {D : List Deferred} {l : Code} {L : List (Nat × Value)} {H H1 : List HP} {T n : Nat} {v : Value} {xs : List Value} (ht : Take H (ownM T v n xs) H1) (k : ∀ ad c, v = .slice ad n c → CG P w0 N l Q D L H) : CG P w0 N l Q D L H :=
  CG.fact (α := ∃ ad c, v = .slice ad n c) ht (fun _ hh => by obtain ⟨_, _, ad, c, h, _⟩ := ownM_shape hh; exact ⟨ad, c, h⟩) (fun ⟨ad, c, h⟩ => k ad c h)
theorem ownM_app {e n m : Nat} {u : Value} {l r : List UInt8} (h : (l ++ r).length = n + m) : ownM e u (n + m) (l.map u8v ++ r.map u8v) = ownM e u (l ++ r).length ((l ++ r).map u8v) := by rw [h, List.map_append]
theorem rep_snoc (j : Nat) : (128 : UInt8) :: List.replicate j 0 ++ [0] = 128 :: List.replicate (j + 1) 0 := by rw [List.replicate_succ']; rfl
theorem lenB_snoc (n : Int) (k : Nat) : Sha.lenB n k ++ [u8i (IntKind.u64.wrap (n * 8) / 2 ^ (56 - 8 * k))] = Sha.lenB n (k + 1) := by
  unfold Sha.lenB; rw [Sums.range_take]

attribute [local irreducible] cel celZ own ownM exS Sha.word Sha.lenB

set_option maxRecDepth 100000 in
set_option maxHeartbeats 1000000 in
theorem pad_spec (t : List UInt8) (ht : t.length ≤ 100000000) : Spec Tryz.prog 47 #[str t] [] (Ret fun v hl => hl = [ownM 5 v (t ++ Sha.padded t.length (0 + (t.length : Int))).length ((t ++ Sha.padded t.length (0 + (t.length : Int))).map u8v)]) := by
 refine Spec.enter Tryz.func47 rfl rfl rfl (fun F w0 => ?_)
 dsimp only [argL, List.cons_append, List.nil_append]
 refine CG.sr (G.as ?_)
 refine G.nil (EN.tsr (G.mv ?_))
 refine G.e rfl rfl rfl rfl (e_s2b rfl rfl sB_9_80_F32 oM) (fun _ _ _ _ _ _ => trivial) ?_
 rintro _ _ rfl
 refine G.e rfl rfl rfl rfl (e_bslice rfl rfl (bs_80_1_all_F2 _)) (fun _ _ _ _ _ _ => trivial) ?_
 rintro _ _ ⟨b8, rfl, rfl⟩
 refine G.e rfl rfl rfl rfl (e_appendM rfl rfl rfl se_80_F2 nf_5_F2 rfl tK1 (src_one se_80_F2 mB rfl) (by decide) oM) (fun _ _ _ _ _ _ => trivial) ?_
 rintro _ _ rfl
 rw [show ([Value.int .u8 128] : List Value) = [(128 : UInt8)].map u8v from rfl, ownM_app (by simp)]
 refine G.factM tK1 (fun ad3 c3 e3 => ?_)
 subst e3
 refine G.as ?_
 refine G.nil (EN.ts (CG.block (CG.loopI (fun m L H => ∃ (j : Nat) (v : Value), j ≤ Sha.padN t.length ∧ m = Sha.padN t.length - j ∧ L = [(0, str t), (3, v)] ∧ H = [ownM 5 v (t ++ (128 :: List.replicate j 0)).length ((t ++ (128 :: List.replicate j 0)).map u8v)] ++ F) (Sha.padN t.length - 0) (hl := [_]) (⟨0, _, Nat.zero_le _, rfl, rfl, rfl⟩) sB rfl tK sF ?_)))
 rintro m L H ⟨j, v, hj, rfl, rfl, rfl⟩
 try dsimp only [List.cons_append, List.nil_append]
 refine CG.factM tK1 (fun ad c e => ?_)
 subst e
 have hpl : (t ++ (128 :: List.replicate j 0)).length = t.length + 1 + j := by simp; omega
 have hj64 : Sha.padN t.length ≤ 63 := by unfold Sha.padN; omega
 have hpd : (t.length + 1 + Sha.padN t.length) % 64 = 56 := by unfold Sha.padN; omega
 refine CG.seq (CG.sr (G.mv ?_))
 refine G.q rfl rfl rfl rfl (q_len_sl rfl rfl se_80_F2) ?_
 rw [hpl]
 refine G.q rfl rfl rfl rfl (q_rem_n rfl rfl rfl oM) (G.q rfl rfl rfl rfl (q_neq rfl rfl rfl) (G.nil (EN.then ?_)))
 refine CG.cond rfl (fun h13 => ?_) (fun h13 => ?_)
 ·
  have hj2 : j < Sha.padN t.length := by unfold Sha.padN at *; omega
  refine CG.skip (EN.then (CG.block (CG.reg (G.mv ?_))))
  refine G.e rfl rfl rfl rfl (e_bslice rfl rfl (bs_80_1_all_F2 _)) (fun _ _ _ _ _ _ => trivial) ?_
  rintro _ _ ⟨b15, rfl, rfl⟩
  refine G.e rfl rfl rfl rfl (e_appendM rfl rfl rfl se_80_F2 nf_5_F2 rfl tK1 (src_one se_80_F2 mB rfl) (by decide) oM) (fun _ _ _ _ _ _ => trivial) ?_
  rintro _ _ rfl
  rw [show ([Value.int .u8 0] : List Value) = [(0 : UInt8)].map u8v from rfl, ownM_app (by simp; omega), List.append_assoc t, rep_snoc]
  refine G.as ?_
  refine G.nil (EN.in_normal ?_)
  exact EN.round (hl := [_]) (Sha.padN t.length - (j + 1)) oM (⟨j + 1, _, by omega, rfl, rfl, rfl⟩) sB rfl tK sF
 ·
  obtain rfl : j = Sha.padN t.length := by unfold Sha.padN at *; omega
  rw [← hpl, show t ++ 128 :: List.replicate (Sha.padN t.length) 0 = t ++ 128 :: List.replicate (Sha.padN t.length) 0 ++ Sha.lenB (0 + (t.length : Int)) 0 by unfold Sha.lenB; simp]
  refine CG.exit ?_
  refine EN.then_exit (EN.then_exit (EN.in_here ?_))
  refine EN.tsr (G.mv ?_)
  refine G.q rfl rfl rfl rfl (q_len_str rfl rfl us_9_F1) (G.q rfl rfl rfl rfl (q_conv_in rfl rfl is_3_F4 ik_58_F32 (wrapu_in (b := 64) rfl rfl oM)) (G.q rfl rfl rfl rfl (q_mulw rfl rfl rfl lOm lOm) (G.as ?_)))
  refine G.nil (EN.sub (sC 3 (sC 4 Sub.nil)) ?_)
  refine EN.ts (CG.seq ?_)
  have hn8 : (t.length : Int) * 8 = IntKind.u64.wrap ((0 + (t.length : Int)) * 8) := by
   rw [Int.zero_add]; exact (wrap_lim oM lOm).symm
  rw [hn8]
  refine CG.reg (G.as ?_)
  refine G.nil (EN.then (CG.block (CG.loopI (fun m L H => ∃ (k : Nat) (v : Value), k ≤ 8 ∧ m = 8 - k ∧ L = [(3, v), (4, .int .u64 (IntKind.u64.wrap ((0 + (t.length : Int)) * 8))), (5, .int .i64 (7 - (k : Int)))] ∧ H = [ownM 5 v (t ++ (128 :: List.replicate (Sha.padN t.length) 0) ++ Sha.lenB (0 + (t.length : Int)) k).length ((t ++ (128 :: List.replicate (Sha.padN t.length) 0) ++ Sha.lenB (0 + (t.length : Int)) k).map u8v)] ++ F) (8 - 0) (hl := [_]) (⟨0, _, Nat.zero_le _, rfl, rfl, rfl⟩) sB rfl tK sF ?_)))
  rintro m L H ⟨k, v, hk, rfl, rfl, rfl⟩
  try dsimp only [List.cons_append, List.nil_append]
  have hj64 : Sha.padN t.length ≤ 63 := by unfold Sha.padN; omega
  have hpl : (t ++ (128 :: List.replicate (Sha.padN t.length) 0) ++ Sha.lenB (0 + (t.length : Int)) k).length ≤ 200000000 := by simp [Sha.lenB]; omega
  refine CG.seq (CG.sr (G.mv ?_))
  refine G.q rfl rfl rfl rfl (q_geq rfl rfl rfl) (G.nil (EN.then ?_))
  refine CG.cond rfl (fun h22 => ?_) (fun h22 => ?_)
  ·
   have hk2 : k < 8 := by omega
   have hsh : min (8 * (7 - (k : Int))).toNat IntKind.u64.bits = 56 - 8 * k := by simp only [IntKind.bits]; omega
   refine CG.skip (EN.ts (CG.block (CG.reg (G.mv ?_))))
   refine G.mv ?_
   refine G.mv ?_
   refine G.q rfl rfl rfl rfl (q_mul_i rfl rfl rfl oM) (G.q rfl rfl rfl rfl (q_shr rfl rfl rfl oM) ?_)
   rw [hsh]
   refine G.q rfl rfl rfl rfl (q_conv_u8 rfl rfl is_58_F1 ik_5_F32) (G.e rfl rfl rfl rfl (e_bslice rfl rfl (bs_80_1_all_F2 _)) (fun _ _ _ _ _ _ => trivial) ?_)
   rintro _ _ ⟨b31, rfl, rfl⟩
   refine G.e rfl rfl rfl rfl (e_appendM rfl rfl rfl se_80_F2 nf_5_F2 rfl tK1 (src_one se_80_F2 mB rfl) (by decide) oM) (fun _ _ _ _ _ _ => trivial) ?_
   rintro _ _ rfl
   rw [show ([Value.int .u8 ((u8i (IntKind.u64.wrap ((0 + (t.length : Int)) * 8) / 2 ^ (56 - 8 * k))).toNat : Int)] : List Value) = [u8i (IntKind.u64.wrap ((0 + (t.length : Int)) * 8) / 2 ^ (56 - 8 * k))].map u8v from rfl, ownM_app (by simp; omega), List.append_assoc (t ++ _), lenB_snoc]
   refine G.as ?_
   refine G.nil (EN.sub (sC 3 (sC 4 (sC 5 Sub.nil))) ?_)
   refine EN.in_normal (EN.tr ?_)
   refine G.mv ?_
   refine G.q rfl rfl rfl rfl (q_sub_i rfl rfl rfl oM) (G.as ?_)
   refine G.nil ?_
   rw [show (7 - (k : Int)) - 1 = 7 - ((k + 1 : Nat) : Int) by omega]
   exact EN.round (hl := [_]) (8 - (k + 1)) oM (⟨k + 1, _, by omega, rfl, rfl, rfl⟩) sB rfl tK sF
  ·
   obtain rfl : k = 8 := by omega
   refine CG.exit ?_
   refine EN.then_exit (EN.then_exit (EN.in_here ?_))
   refine EN.tsr (G.mv ?_)
   refine G.as ?_
   refine G.nil (EN.then (CG.ret ?_))
   rw [List.append_assoc t]
   exact fin_ret1 rfl rfl tK sF (rfl) _ (.inl rfl)

end Go.Eng
/-
  The reference (ref02.Sum1).
-/
set_option linter.unusedVariables false
set_option linter.unusedSimpArgs false
namespace Go.Eng
open Go.Proofs
theorem bd_47_F33 : bodied Tryz.prog 47 = true := by kernel_rfl
theorem bd_48_F33 : bodied Tryz.prog 48 = true := by kernel_rfl
theorem bd_49_F33 : bodied Tryz.prog 49 = true := by kernel_rfl
theorem bd_50_F33 : bodied Tryz.prog 50 = true := by kernel_rfl

theorem sched_range (p : List UInt8) : ∀ k, k ≤ 16 → (List.range k).map (Sha.word p) = Sha.sched p k
  | 0, _ => rfl
  | k + 1, h => by rw [List.range_succ, List.map_append, sched_range p k (by omega), Sha.sched, if_pos (by omega)]; rfl
theorem sched_nth1 (p : List UInt8) {k i : Nat} (h : i < k) : nth ((Sha.sched p k).map u32v) (i * 1) = some (.int .u32 ((Sha.sched p k).getD i 0)) := by
  rw [nth_eq, Nat.mul_one, List.getElem?_map, Sha.sched_get p h]; rfl
theorem sched_snoc (p : List UInt8) {k : Nat} (h : 16 ≤ k) : (Sha.sched p k).map u32v ++ [.int .u32 (Sha.next (Sha.sched p k) k)] = (Sha.sched p (k + 1)).map u32v := by
  rw [Sha.sched, if_neg (by omega), List.map_append]; rfl
theorem bits_xor_comm (k : IntKind) (a b : Int) : bits .xor k a b = bits .xor k b a := by unfold bits; simp only [BitVec.xor_comm]
theorem fk_end {i : Nat} {b c d : Int} {p : Int × Int} (h : (i < 20 ∧ p = (bits .or .u32 (bits .and .u32 b c) (bits .and .u32 (bits .xor .u32 4294967295 b) d), 1518500249)) ∨ (¬ i < 20 ∧ p = if i < 40 then (bits .xor .u32 (bits .xor .u32 b c) d, 1859775393) else if i < 60 then (bits .or .u32 (bits .or .u32 (bits .and .u32 b c) (bits .and .u32 b d)) (bits .and .u32 c d), 2400959708) else (bits .xor .u32 (bits .xor .u32 b c) d, 3395469782))) : p = Sha.fk i b c d := by
  rcases h with ⟨h1, h⟩ | ⟨h1, h⟩
  · rw [h, Sha.fk0 (by omega)]
  · rw [h]
    split
    · rw [Sha.fk1 (by omega)]
    · split
      · rw [Sha.fk2 (by omega)]
      · rw [Sha.fk3 (by omega)]
theorem blocks_nil (h : Sha.S5) : Sha.blocks h [] = (h, []) := by rw [Sha.blocks, dif_neg (by simp)]
theorem blocks_app : ∀ (n : Nat) (h : Sha.S5) (t q : List UInt8), t.length ≤ n → Sha.blocks (Sha.blocks h t).1 ((Sha.blocks h t).2 ++ q) = Sha.blocks h (t ++ q)
  | 0, h, t, q, hn => by
    obtain rfl : t = [] := List.eq_nil_of_length_eq_zero (by omega)
    rw [blocks_nil]
  | n + 1, h, t, q, hn => by
    by_cases h64 : 64 ≤ t.length
    · rw [show Sha.blocks h t = Sha.blocks (Sha.block h (t.take 64)) (t.drop 64) from by rw [Sha.blocks, dif_pos h64]]
      rw [blocks_app n _ _ q (by simp; omega)]
      conv => rhs; rw [Sha.blocks, dif_pos (by simp; omega)]
      rw [List.take_append_of_le_length h64, List.drop_append_of_le_length h64]
    · rw [show Sha.blocks h t = (h, t) from by rw [Sha.blocks, dif_neg h64]]
theorem blocks_mod (n : Nat) : ∀ (h : Sha.S5) (t : List UInt8), t.length ≤ n → (Sha.blocks h t).2.length % 64 = t.length % 64 := by
  induction n with
  | zero => intro h t hn; rw [Sha.blocks, dif_neg (by omega)]
  | succ n ih =>
    intro h t hn
    by_cases h64 : 64 ≤ t.length
    · rw [Sha.blocks, dif_pos h64, ih _ _ (by simp; omega), List.length_drop]; omega
    · rw [Sha.blocks, dif_neg h64]
theorem padded_mod {a b : Nat} (n : Int) (h : a % 64 = b % 64) : Sha.padded a n = Sha.padded b n := by unfold Sha.padded Sha.padN; rw [h]
theorem sum1_whole (t : List UInt8) : Sha.sum1 t = Sha.outB (Sha.blocks Sha.start1 (t ++ Sha.padded t.length (0 + (t.length : Int)))).1 := by
  unfold Sha.sum1
  rw [blocks_app t.length _ _ _ (Nat.le_refl _), padded_mod _ (blocks_mod t.length Sha.start1 t (Nat.le_refl _))]
theorem padded_len (t : List UInt8) (n : Int) : (t ++ Sha.padded t.length n).length % 64 = 0 := by
  simp [Sha.padded, Sha.lenB, Sha.padN]; omega
theorem drop_add64 (P : List UInt8) (q : Nat) : (P.drop (64 * q)).drop 64 = P.drop (64 * (q + 1)) := by rw [List.drop_drop]; rfl
theorem cur_byte {cur : List Value} {P : List UInt8} {N q : Nat} (hct : cur.take N = P.map u8v) (hN : P.length = N) (i : Nat) (x : UInt8) (h : ((P.drop (64 * q)).take 64)[i]? = some x) : nth cur (0 + 64 * q * 1 + i * 1) = some (u8v x) := by
  rw [List.getElem?_take] at h
  split at h
  · rw [List.getElem?_drop] at h
    rw [Nat.zero_add, Nat.mul_one, Nat.mul_one]
    refine nth_take (n := N) (xs := P.map u8v) (by rw [Nat.mul_one]; exact hct) ?_
    rw [List.getElem?_map, h]; rfl
  · cases h

attribute [local irreducible] cel celZ own ownM ownG exS Sha.word Sha.lenB Sha.sched

set_option maxRecDepth 100000 in
set_option maxHeartbeats 1000000 in
theorem rsum1_spec (t : List UInt8) (ht : t.length ≤ 100000000) : Spec Tryz.prog 22 #[str t] [] (Ret fun v hl => v = str (Sha.sum1 t) ∧ hl = []) := by
 refine Spec.enter Tryz.func22 rfl rfl rfl (fun F w0 => ?_)
 dsimp only [argL, List.cons_append, List.nil_append]
 refine CG.sr (G.as ?_)
 refine G.nil (EN.tsr (G.mv ?_))
 refine G.call (xs := [_]) rfl rfl (pad_spec t ht) bd_47_F33 rfl rfl rfl rfl tK (fun _ _ _ _ _ _ => trivial) ?_
 rintro v hl rfl
 try dsimp only [List.cons_append, List.nil_append]
 refine G.as ?_
 refine G.nil (EN.ts ?_)
 obtain ⟨P, hP⟩ : ∃ P, t ++ Sha.padded t.length (0 + (t.length : Int)) = P := ⟨_, rfl⟩
 have hsum := sum1_whole t
 have hmod := padded_len t (0 + (t.length : Int))
 rw [hP] at hsum hmod ⊢
 have hPl : P.length ≤ 200000000 := by
  rw [← hP]; simp [Sha.padded, Sha.lenB, Sha.padN]; omega
 obtain ⟨N, hN⟩ : ∃ N, P.length = N := ⟨_, rfl⟩
 rw [hN] at hmod hPl ⊢
 refine CG.openM tK1 (fun g cap cur z hv0 hl0 hok hnc hcm hcl hct => ?_)
 subst hv0
 refine CG.reg (G.e rfl rfl rfl rfl (e_bslice rfl rfl (bs_90_5_all_F10 _ _ _ _ _)) (fun _ _ _ _ _ _ => trivial) ?_)
 rintro _ _ ⟨b19, rfl, rfl⟩
 refine G.as ?_
 refine G.nil (EN.ts (CG.sr (G.as ?_)))
 refine G.nil (EN.then (CG.block (CG.loopI (fun m L H => ∃ (q : Nat) (h : Sha.S5) (g4 : Nat), 64 * q ≤ N ∧ m = N / 64 - q ∧ Sha.blocks h (P.drop (64 * q)) = Sha.blocks Sha.start1 P ∧ L = [(3, .slice (some ⟨g, 0, none⟩) N cap), (4, .slice (some ⟨g4, 0, none⟩) 5 5), (5, .int .i64 ((64 * q : Nat) : Int))] ∧ H = [cel g4 28 (Sha.cells h), celZ g 5 z cur] ++ F) (N / 64 - 0) (hl := [_, _]) (⟨0, Sha.start1, b19, Nat.zero_le _, rfl, rfl, rfl, rfl⟩) sB rfl tK sF ?_)))
 rintro m L H ⟨q, h, g4, hq, rfl, hgo, rfl, rfl⟩
 try dsimp only [List.cons_append, List.nil_append]
 refine CG.seq (CG.sr (G.mv ?_))
 refine G.mv ?_
 refine G.q rfl rfl rfl rfl (q_len_sl rfl rfl se_80_F2) (G.q rfl rfl rfl rfl (q_lss rfl rfl rfl) (G.nil (EN.then ?_)))
 refine CG.cond rfl (fun h23 => ?_) (fun h23 => ?_)
 ·
  have hq2 : 64 * q + 64 ≤ N := by omega
  obtain ⟨bl, hbl⟩ : ∃ bl, (P.drop (64 * q)).take 64 = bl := ⟨_, rfl⟩
  have hbll : bl.length = 64 := by rw [← hbl]; simp; omega
  have hgo2 : Sha.blocks (Sha.block h bl) (P.drop (64 * (q + 1))) = Sha.blocks Sha.start1 P := by
   rw [← hgo]; conv => rhs; rw [Sha.blocks, dif_pos (by simp; omega)]
   rw [hbl, drop_add64]
  refine CG.skip (EN.ts (CG.block (CG.sr (G.mv ?_))))
  refine G.mv ?_
  refine G.mv ?_
  refine G.q rfl rfl rfl rfl (q_add_i rfl rfl rfl oM) ?_
  rw [show ((64 * q : Nat) : Int) + 64 = ((64 * q + 64 : Nat) : Int) by omega]
  refine G.q rfl rfl rfl rfl (q_slsl_lh rfl rfl rfl rfl se_80_F2 sz_5_F6 oM) (G.call (xs := [_]) rfl rfl (words_spec g _ _ z cur bl hbll (fun i x hx => cur_byte hct hN i x (by rw [hbl]; exact hx))) bd_48_F33 rfl rfl rfl rfl tK (fun _ _ _ _ _ _ => trivial) ?_)
  rintro v hl rfl
  rw [sched_range bl 16 (Nat.le_refl _), own_eq]
  try dsimp only [List.cons_append, List.nil_append]
  refine G.as ?_
  refine G.nil (EN.sub (sC 3 (sC 4 (sC 5 (sC 6 Sub.nil)))) ?_)
  refine EN.ts (CG.sr (G.as ?_))
  refine G.nil (EN.then (CG.block (CG.loopI (fun m L H => ∃ (k : Nat) (v : Value), 16 ≤ k ∧ k ≤ 80 ∧ m = 80 - k ∧ L = [(3, .slice (some ⟨g, 0, none⟩) N cap), (4, .slice (some ⟨g4, 0, none⟩) 5 5), (5, .int .i64 ((64 * q : Nat) : Int)), (6, v), (7, .int .i64 (k : Nat))] ∧ H = [ownG true 28 1 v k ((Sha.sched bl k).map u32v), cel g4 28 (Sha.cells h), celZ g 5 z cur] ++ F) (80 - 16) (hl := [_, _, _]) (⟨16, _, Nat.le_refl _, by decide, rfl, rfl, rfl⟩) sB rfl tK sF ?_)))
  rintro m L H ⟨k, v, hk16, hk, rfl, rfl, rfl⟩
  try dsimp only [List.cons_append, List.nil_append]
  have e3 : (k : Int) - 3 = ((k - 3 : Nat) : Int) := by omega
  have e8 : (k : Int) - 8 = ((k - 8 : Nat) : Int) := by omega
  have e14 : (k : Int) - 14 = ((k - 14 : Nat) : Int) := by omega
  have e16 : (k : Int) - 16 = ((k - 16 : Nat) : Int) := by omega
  refine CG.fact (α := ∃ ad c, v = .slice ad k c) tK1 (fun _ hh => by obtain ⟨_, _, ad, c, h, _⟩ := ownG_shape hh; exact ⟨ad, c, h⟩) (fun ⟨ad, cw, hv⟩ => ?_)
  subst hv
  refine CG.someO tK1 oM (fun gw ow e => ?_)
  subst e
  refine CG.seq (CG.sr (G.mv ?_))
  refine G.q rfl rfl rfl rfl (q_lss rfl rfl rfl) (G.nil (EN.then ?_))
  refine CG.cond rfl (fun h33 => ?_) (fun h33 => ?_)
  ·
   have hk2 : k < 80 := by omega
   refine CG.skip (EN.ts (CG.block ?_))
   refine CG.regT [] mixed (by kernel_rfl) ?_
   refine G.mv ?_
   refine G.mv ?_
   refine G.mv ?_
   refine G.q rfl rfl rfl rfl (q_sub_i rfl rfl rfl oM) ?_
   rw [e3]
   refine G.q rfl rfl rfl rfl (q_ixaddr rfl rfl rfl se_90_F10 sz_28_F3 oM) (G.r rfl rfl rfl rfl (r_loadO (i := (k - 3) * 1) rfl rfl ag_28_F3 mB (sched_nth1 bl oM)) ?_)
   refine G.mv ?_
   refine G.mv ?_
   refine G.q rfl rfl rfl rfl (q_sub_i rfl rfl rfl oM) ?_
   rw [e8]
   refine G.q rfl rfl rfl rfl (q_ixaddr rfl rfl rfl se_90_F10 sz_28_F3 oM) (G.r rfl rfl rfl rfl (r_loadO (i := (k - 8) * 1) rfl rfl ag_28_F3 mB (sched_nth1 bl oM)) ?_)
   refine G.q rfl rfl rfl rfl (q_xor rfl rfl rfl) (G.mv ?_)
   refine G.mv ?_
   refine G.q rfl rfl rfl rfl (q_sub_i rfl rfl rfl oM) ?_
   rw [e14]
   refine G.q rfl rfl rfl rfl (q_ixaddr rfl rfl rfl se_90_F10 sz_28_F3 oM) (G.r rfl rfl rfl rfl (r_loadO (i := (k - 14) * 1) rfl rfl ag_28_F3 mB (sched_nth1 bl oM)) ?_)
   refine G.q rfl rfl rfl rfl (q_xor rfl rfl rfl) (G.mv ?_)
   refine G.mv ?_
   refine G.q rfl rfl rfl rfl (q_sub_i rfl rfl rfl oM) ?_
   rw [e16]
   refine G.q rfl rfl rfl rfl (q_ixaddr rfl rfl rfl se_90_F10 sz_28_F3 oM) (G.r rfl rfl rfl rfl (r_loadO (i := (k - 16) * 1) rfl rfl ag_28_F3 mB (sched_nth1 bl oM)) ?_)
   refine G.q rfl rfl rfl rfl (q_xor rfl rfl rfl) (G.call (xs := [_, _]) rfl rfl (turn_spec _ 1 oM) bd_49_F33 rfl rfl rfl rfl tK (fun _ _ _ _ _ _ => trivial) ?_)
   rintro _ _ ⟨rfl, rfl⟩
   try dsimp only [List.cons_append, List.nil_append]
   refine G.e rfl rfl rfl rfl (e_bslice rfl rfl (bs_90_1_all_F30 _)) (fun _ _ _ _ _ _ => trivial) ?_
   rintro _ _ ⟨b61, rfl, rfl⟩
   refine G.e rfl rfl rfl rfl (e_appendG rfl rfl rfl se_90_F10 nf_28_F11 rfl tK1 (src_one se_90_F10 mB rfl) oM) (fun _ _ _ _ _ _ => trivial) ?_
   rintro _ _ rfl
   rw [show Sha.rot (bits .xor .u32 (bits .xor .u32 (bits .xor .u32 ((Sha.sched bl k).getD (k - 3) 0) ((Sha.sched bl k).getD (k - 8) 0)) ((Sha.sched bl k).getD (k - 14) 0)) ((Sha.sched bl k).getD (k - 16) 0)) 1 = Sha.next (Sha.sched bl k) k from rfl, sched_snoc bl hk16]
   refine G.as ?_
   refine G.nil (EN.sub (sC 3 (sC 4 (sC 5 (sC 6 (sC 7 Sub.nil))))) ?_)
   refine EN.in_normal (EN.tr ?_)
   refine G.mv ?_
   refine G.q rfl rfl rfl rfl (q_add_i rfl rfl rfl oM) (G.as ?_)
   refine G.nil ?_
   exact EN.round (hl := [_, _, _]) (80 - (k + 1)) oM (⟨k + 1, _, by omega, by omega, rfl, rfl, rfl⟩) sB rfl tK sF
  ·
   obtain rfl : k = 80 := by omega
   refine CG.exit ?_
   refine EN.then_exit (EN.then_exit (EN.in_here ?_))
   refine EN.ts ?_
   refine CG.regT [] mixed (by kernel_rfl) ?_
   refine G.mv ?_
   refine G.q rfl rfl rfl rfl (q_ixaddr1 rfl rfl rfl se_90_F10 sz_28_F3 (by decide)) (G.ld ag_28_F3 ?_)
   refine G.mv ?_
   refine G.q rfl rfl rfl rfl (q_ixaddr1 rfl rfl rfl se_90_F10 sz_28_F3 (by decide)) (G.ld ag_28_F3 ?_)
   refine G.mv ?_
   refine G.q rfl rfl rfl rfl (q_ixaddr1 rfl rfl rfl se_90_F10 sz_28_F3 (by decide)) (G.ld ag_28_F3 ?_)
   refine G.mv ?_
   refine G.q rfl rfl rfl rfl (q_ixaddr1 rfl rfl rfl se_90_F10 sz_28_F3 (by decide)) (G.ld ag_28_F3 ?_)
   refine G.mv ?_
   refine G.q rfl rfl rfl rfl (q_ixaddr1 rfl rfl rfl se_90_F10 sz_28_F3 (by decide)) (G.ld ag_28_F3 ?_)
   refine G.as ?_
   refine G.as ?_
   refine G.as ?_
   refine G.as ?_
   refine G.as ?_
   refine G.nil (EN.sub (sC 3 (sC 4 (sC 5 (sC 6 (sC 8 (sC 9 (sC 10 (sC 11 (sC 12 Sub.nil))))))))) ?_)
   refine EN.ts (CG.sr (G.as ?_))
   refine G.nil (EN.then (CG.block ?_))
   rw [show Sha.cells h = [.int .u32 h.a, .int .u32 h.b, .int .u32 h.c, .int .u32 h.d, .int .u32 h.e] from rfl]
   refine CG.loopI (fun m L H => ∃ i : Nat, i ≤ 80 ∧ m = 80 - i ∧ L = [(3, .slice (some ⟨g, 0, none⟩) N cap), (4, .slice (some ⟨g4, 0, none⟩) 5 5), (5, .int .i64 ((64 * q : Nat) : Int)), (6, .slice (some ⟨gw, ow, none⟩) 80 cw), (8, .int .u32 (Sha.comp (Sha.sched bl 80) h i).a), (9, .int .u32 (Sha.comp (Sha.sched bl 80) h i).b), (10, .int .u32 (Sha.comp (Sha.sched bl 80) h i).c), (11, .int .u32 (Sha.comp (Sha.sched bl 80) h i).d), (12, .int .u32 (Sha.comp (Sha.sched bl 80) h i).e), (13, .int .i64 (i : Nat))] ∧ H = [ownG true 28 1 (.slice (some ⟨gw, ow, none⟩) 80 cw) 80 ((Sha.sched bl 80).map u32v), cel g4 28 (Sha.cells h), celZ g 5 z cur] ++ F) (80 - 0) (hl := [_, _, _]) (⟨0, Nat.zero_le _, rfl, rfl, rfl⟩) sB rfl tK sF ?_
   rintro m L H ⟨i, hi, rfl, rfl, rfl⟩
   try dsimp only [List.cons_append, List.nil_append]
   refine CG.seq (CG.sr (G.mv ?_))
   refine G.q rfl rfl rfl rfl (q_lss rfl rfl rfl) (G.nil (EN.then ?_))
   refine CG.cond rfl (fun h79 => ?_) (fun h79 => ?_)
   ·
    have hi2 : i < 80 := by omega
    refine CG.skip (EN.ts (CG.block (CG.sr (G.mv ?_))))
    refine G.mv ?_
    refine G.q rfl rfl rfl rfl (q_xor rfl rfl rfl) (G.mv ?_)
    refine G.q rfl rfl rfl rfl (q_xor rfl rfl rfl) (G.as ?_)
    refine G.as ?_
    refine G.nil (EN.then ?_)
    refine CG.cut (fun L H => ∃ f kk : Int, (f, kk) = (if i < 60 then (bits .or .u32 (bits .or .u32 (bits .and .u32 (Sha.comp (Sha.sched bl 80) h i).b (Sha.comp (Sha.sched bl 80) h i).c) (bits .and .u32 (Sha.comp (Sha.sched bl 80) h i).b (Sha.comp (Sha.sched bl 80) h i).d)) (bits .and .u32 (Sha.comp (Sha.sched bl 80) h i).c (Sha.comp (Sha.sched bl 80) h i).d), (2400959708 : Int)) else (bits .xor .u32 (bits .xor .u32 (Sha.comp (Sha.sched bl 80) h i).b (Sha.comp (Sha.sched bl 80) h i).c) (Sha.comp (Sha.sched bl 80) h i).d, (3395469782 : Int))) ∧ L = [(3, .slice (some ⟨g, 0, none⟩) N cap), (4, .slice (some ⟨g4, 0, none⟩) 5 5), (5, .int .i64 ((64 * q : Nat) : Int)), (6, .slice (some ⟨gw, ow, none⟩) 80 cw), (8, .int .u32 (Sha.comp (Sha.sched bl 80) h i).a), (9, .int .u32 (Sha.comp (Sha.sched bl 80) h i).b), (10, .int .u32 (Sha.comp (Sha.sched bl 80) h i).c), (11, .int .u32 (Sha.comp (Sha.sched bl 80) h i).d), (12, .int .u32 (Sha.comp (Sha.sched bl 80) h i).e), (13, .int .i64 (i : Nat)), (14, .int .u32 f), (15, .int .u32 kk)] ∧ H = [ownG true 28 1 (.slice (some ⟨gw, ow, none⟩) 80 cw) 80 ((Sha.sched bl 80).map u32v), cel g4 28 (Sha.cells h), celZ g 5 z cur] ++ F) ?_ ?_
    ·
     refine CG.sr (G.mv ?_)
     refine G.q rfl rfl rfl rfl (q_lss rfl rfl rfl) (G.nil (EN.then ?_))
     refine CG.cond rfl (fun h88 => ?_) (fun h88 => ?_)
     ·
      have hf1 : (bits .or .u32 (bits .or .u32 (bits .and .u32 (Sha.comp (Sha.sched bl 80) h i).b (Sha.comp (Sha.sched bl 80) h i).c) (bits .and .u32 (Sha.comp (Sha.sched bl 80) h i).b (Sha.comp (Sha.sched bl 80) h i).d)) (bits .and .u32 (Sha.comp (Sha.sched bl 80) h i).c (Sha.comp (Sha.sched bl 80) h i).d), (2400959708 : Int)) = (if i < 60 then (bits .or .u32 (bits .or .u32 (bits .and .u32 (Sha.comp (Sha.sched bl 80) h i).b (Sha.comp (Sha.sched bl 80) h i).c) (bits .and .u32 (Sha.comp (Sha.sched bl 80) h i).b (Sha.comp (Sha.sched bl 80) h i).d)) (bits .and .u32 (Sha.comp (Sha.sched bl 80) h i).c (Sha.comp (Sha.sched bl 80) h i).d), (2400959708 : Int)) else (bits .xor .u32 (bits .xor .u32 (Sha.comp (Sha.sched bl 80) h i).b (Sha.comp (Sha.sched bl 80) h i).c) (Sha.comp (Sha.sched bl 80) h i).d, (3395469782 : Int))) := (if_pos oM).symm
      refine CG.sr (G.mv ?_)
      refine G.mv ?_
      refine G.q rfl rfl rfl rfl (q_and rfl rfl rfl) (G.mv ?_)
      refine G.mv ?_
      refine G.q rfl rfl rfl rfl (q_and rfl rfl rfl) (G.q rfl rfl rfl rfl (q_or rfl rfl rfl) (G.mv ?_))
      refine G.mv ?_
      refine G.q rfl rfl rfl rfl (q_and rfl rfl rfl) (G.q rfl rfl rfl rfl (q_or rfl rfl rfl) (G.as ?_))
      refine G.nil (EN.sub (sC 3 (sC 4 (sC 5 (sC 6 (sC 8 (sC 9 (sC 10 (sC 11 (sC 12 (sC 13 (sC 14 (sC 15 Sub.nil)))))))))))) ?_)
      refine EN.tr ?_
      refine G.as ?_
      refine G.nil ?_
      exact EN.cut (hl := [_, _, _]) (⟨_, _, hf1, rfl, rfl⟩) sB rfl tK sF
     ·
      have hf1 : (bits .xor .u32 (bits .xor .u32 (Sha.comp (Sha.sched bl 80) h i).b (Sha.comp (Sha.sched bl 80) h i).c) (Sha.comp (Sha.sched bl 80) h i).d, (3395469782 : Int)) = (if i < 60 then (bits .or .u32 (bits .or .u32 (bits .and .u32 (Sha.comp (Sha.sched bl 80) h i).b (Sha.comp (Sha.sched bl 80) h i).c) (bits .and .u32 (Sha.comp (Sha.sched bl 80) h i).b (Sha.comp (Sha.sched bl 80) h i).d)) (bits .and .u32 (Sha.comp (Sha.sched bl 80) h i).c (Sha.comp (Sha.sched bl 80) h i).d), (2400959708 : Int)) else (bits .xor .u32 (bits .xor .u32 (Sha.comp (Sha.sched bl 80) h i).b (Sha.comp (Sha.sched bl 80) h i).c) (Sha.comp (Sha.sched bl 80) h i).d, (3395469782 : Int))) := (if_neg oM).symm
      refine CG.skip ?_
      exact EN.cut (hl := [_, _, _]) (⟨_, _, hf1, rfl, rfl⟩) sB rfl tK sF
    ·
     rintro L H ⟨f, kk, hf1, rfl, rfl⟩
     try dsimp only [List.cons_append, List.nil_append]
     refine CG.cut (fun L H => ∃ f kk : Int, (f, kk) = (if i < 40 then (bits .xor .u32 (bits .xor .u32 (Sha.comp (Sha.sched bl 80) h i).b (Sha.comp (Sha.sched bl 80) h i).c) (Sha.comp (Sha.sched bl 80) h i).d, (1859775393 : Int)) else if i < 60 then (bits .or .u32 (bits .or .u32 (bits .and .u32 (Sha.comp (Sha.sched bl 80) h i).b (Sha.comp (Sha.sched bl 80) h i).c) (bits .and .u32 (Sha.comp (Sha.sched bl 80) h i).b (Sha.comp (Sha.sched bl 80) h i).d)) (bits .and .u32 (Sha.comp (Sha.sched bl 80) h i).c (Sha.comp (Sha.sched bl 80) h i).d), (2400959708 : Int)) else (bits .xor .u32 (bits .xor .u32 (Sha.comp (Sha.sched bl 80) h i).b (Sha.comp (Sha.sched bl 80) h i).c) (Sha.comp (Sha.sched bl 80) h i).d, (3395469782 : Int))) ∧ L = [(3, .slice (some ⟨g, 0, none⟩) N cap), (4, .slice (some ⟨g4, 0, none⟩) 5 5), (5, .int .i64 ((64 * q : Nat) : Int)), (6, .slice (some ⟨gw, ow, none⟩) 80 cw), (8, .int .u32 (Sha.comp (Sha.sched bl 80) h i).a), (9, .int .u32 (Sha.comp (Sha.sched bl 80) h i).b), (10, .int .u32 (Sha.comp (Sha.sched bl 80) h i).c), (11, .int .u32 (Sha.comp (Sha.sched bl 80) h i).d), (12, .int .u32 (Sha.comp (Sha.sched bl 80) h i).e), (13, .int .i64 (i : Nat)), (14, .int .u32 f), (15, .int .u32 kk)] ∧ H = [ownG true 28 1 (.slice (some ⟨gw, ow, none⟩) 80 cw) 80 ((Sha.sched bl 80).map u32v), cel g4 28 (Sha.cells h), celZ g 5 z cur] ++ F) ?_ ?_
     ·
      refine CG.sr (G.mv ?_)
      refine G.q rfl rfl rfl rfl (q_lss rfl rfl rfl) (G.nil (EN.then ?_))
      refine CG.cond rfl (fun h101 => ?_) (fun h101 => ?_)
      ·
       have hf2 : (bits .xor .u32 (bits .xor .u32 (Sha.comp (Sha.sched bl 80) h i).b (Sha.comp (Sha.sched bl 80) h i).c) (Sha.comp (Sha.sched bl 80) h i).d, (1859775393 : Int)) = (if i < 40 then (bits .xor .u32 (bits .xor .u32 (Sha.comp (Sha.sched bl 80) h i).b (Sha.comp (Sha.sched bl 80) h i).c) (Sha.comp (Sha.sched bl 80) h i).d, (1859775393 : Int)) else if i < 60 then (bits .or .u32 (bits .or .u32 (bits .and .u32 (Sha.comp (Sha.sched bl 80) h i).b (Sha.comp (Sha.sched bl 80) h i).c) (bits .and .u32 (Sha.comp (Sha.sched bl 80) h i).b (Sha.comp (Sha.sched bl 80) h i).d)) (bits .and .u32 (Sha.comp (Sha.sched bl 80) h i).c (Sha.comp (Sha.sched bl 80) h i).d), (2400959708 : Int)) else (bits .xor .u32 (bits .xor .u32 (Sha.comp (Sha.sched bl 80) h i).b (Sha.comp (Sha.sched bl 80) h i).c) (Sha.comp (Sha.sched bl 80) h i).d, (3395469782 : Int))) := (if_pos oM).symm
       refine CG.sr (G.mv ?_)
       refine G.mv ?_
       refine G.q rfl rfl rfl rfl (q_xor rfl rfl rfl) (G.mv ?_)
       refine G.q rfl rfl rfl rfl (q_xor rfl rfl rfl) (G.as ?_)
       refine G.nil (EN.tr ?_)
       refine G.as ?_
       refine G.nil ?_
       exact EN.cut (hl := [_, _, _]) (⟨_, _, hf2, rfl, rfl⟩) sB rfl tK sF
      ·
       have hf2 : (f, kk) = (if i < 40 then (bits .xor .u32 (bits .xor .u32 (Sha.comp (Sha.sched bl 80) h i).b (Sha.comp (Sha.sched bl 80) h i).c) (Sha.comp (Sha.sched bl 80) h i).d, (1859775393 : Int)) else if i < 60 then (bits .or .u32 (bits .or .u32 (bits .and .u32 (Sha.comp (Sha.sched bl 80) h i).b (Sha.comp (Sha.sched bl 80) h i).c) (bits .and .u32 (Sha.comp (Sha.sched bl 80) h i).b (Sha.comp (Sha.sched bl 80) h i).d)) (bits .and .u32 (Sha.comp (Sha.sched bl 80) h i).c (Sha.comp (Sha.sched bl 80) h i).d), (2400959708 : Int)) else (bits .xor .u32 (bits .xor .u32 (Sha.comp (Sha.sched bl 80) h i).b (Sha.comp (Sha.sched bl 80) h i).c) (Sha.comp (Sha.sched bl 80) h i).d, (3395469782 : Int))) := by rw [if_neg oM]; exact hf1
       refine CG.skip ?_
       exact EN.cut (hl := [_, _, _]) (⟨_, _, hf2, rfl, rfl⟩) sB rfl tK sF
     ·
      rintro L H ⟨f, kk, hf2, rfl, rfl⟩
      try dsimp only [List.cons_append, List.nil_append]
      refine CG.cut (fun L H => ∃ f kk : Int, (f, kk) = (Sha.fk i (Sha.comp (Sha.sched bl 80) h i).b (Sha.comp (Sha.sched bl 80) h i).c (Sha.comp (Sha.sched bl 80) h i).d) ∧ L = [(3, .slice (some ⟨g, 0, none⟩) N cap), (4, .slice (some ⟨g4, 0, none⟩) 5 5), (5, .int .i64 ((64 * q : Nat) : Int)), (6, .slice (some ⟨gw, ow, none⟩) 80 cw), (8, .int .u32 (Sha.comp (Sha.sched bl 80) h i).a), (9, .int .u32 (Sha.comp (Sha.sched bl 80) h i).b), (10, .int .u32 (Sha.comp (Sha.sched bl 80) h i).c), (11, .int .u32 (Sha.comp (Sha.sched bl 80) h i).d), (12, .int .u32 (Sha.comp (Sha.sched bl 80) h i).e), (13, .int .i64 (i : Nat)), (14, .int .u32 f), (15, .int .u32 kk)] ∧ H = [ownG true 28 1 (.slice (some ⟨gw, ow, none⟩) 80 cw) 80 ((Sha.sched bl 80).map u32v), cel g4 28 (Sha.cells h), celZ g 5 z cur] ++ F) ?_ ?_
      ·
       refine CG.sr (G.mv ?_)
       refine G.q rfl rfl rfl rfl (q_lss rfl rfl rfl) (G.nil (EN.then ?_))
       refine CG.cond rfl (fun h108 => ?_) (fun h108 => ?_)
       ·
        have hfk : (bits .or .u32 (bits .and .u32 (Sha.comp (Sha.sched bl 80) h i).b (Sha.comp (Sha.sched bl 80) h i).c) (bits .and .u32 (bits .xor .u32 (Sha.comp (Sha.sched bl 80) h i).b 4294967295) (Sha.comp (Sha.sched bl 80) h i).d), (1518500249 : Int)) = Sha.fk i (Sha.comp (Sha.sched bl 80) h i).b (Sha.comp (Sha.sched bl 80) h i).c (Sha.comp (Sha.sched bl 80) h i).d := fk_end (.inl ⟨by omega, by rw [bits_xor_comm _ _ 4294967295]⟩)
        refine CG.sr (G.mv ?_)
        refine G.mv ?_
        refine G.q rfl rfl rfl rfl (q_and rfl rfl rfl) (G.mv ?_)
        refine G.q rfl rfl rfl rfl (q_xor rfl rfl rfl) (G.mv ?_)
        refine G.q rfl rfl rfl rfl (q_and rfl rfl rfl) (G.q rfl rfl rfl rfl (q_or rfl rfl rfl) (G.as ?_))
        refine G.nil (EN.sub (sC 3 (sC 4 (sC 5 (sC 6 (sC 8 (sC 9 (sC 10 (sC 11 (sC 12 (sC 13 (sC 14 (sC 15 Sub.nil)))))))))))) ?_)
        refine EN.tr ?_
        refine G.as ?_
        refine G.nil ?_
        exact EN.cut (hl := [_, _, _]) (⟨_, _, hfk, rfl, rfl⟩) sB rfl tK sF
       ·
        have hfk : (f, kk) = Sha.fk i (Sha.comp (Sha.sched bl 80) h i).b (Sha.comp (Sha.sched bl 80) h i).c (Sha.comp (Sha.sched bl 80) h i).d := fk_end (.inr ⟨by omega, hf2⟩)
        refine CG.skip ?_
        exact EN.cut (hl := [_, _, _]) (⟨_, _, hfk, rfl, rfl⟩) sB rfl tK sF
      ·
       rintro L H ⟨f, kk, hfk, rfl, rfl⟩
       try dsimp only [List.cons_append, List.nil_append]
       have hA : IntKind.u32.wrap (IntKind.u32.wrap (IntKind.u32.wrap (IntKind.u32.wrap (Sha.rot (Sha.comp (Sha.sched bl 80) h i).a 5 + f) + (Sha.comp (Sha.sched bl 80) h i).e) + kk) + (Sha.sched bl 80).getD i 0) = (Sha.comp (Sha.sched bl 80) h (i + 1)).a := by
         rw [Sha.comp]; unfold Sha.step; rw [← hfk]; rfl
       refine CG.seq ?_
       refine CG.regC [128] (Keeps _ [ownG true 28 1 (.slice (some ⟨gw, ow, none⟩) 80 cw) 80 ((Sha.sched bl 80).map u32v)]) mixed (by kernel_rfl) (fun w hw => Keeps.of hw tK) ?_
       refine G.mv ?_
       refine G.call (xs := [_, _]) rfl rfl (turn_spec _ 5 oM) bd_49_F33 rfl rfl rfl rfl tK (fun _ _ _ w hR hw => by obtain ⟨_, rfl⟩ := hR; exact Keeps.of hw tK) ?_
       rintro _ _ ⟨rfl, rfl⟩
       try dsimp only [List.cons_append, List.nil_append]
       refine G.mv ?_
       refine G.q rfl rfl rfl rfl (q_add rfl rfl rfl) (G.mv ?_)
       refine G.q rfl rfl rfl rfl (q_add rfl rfl rfl) (G.mv ?_)
       refine G.q rfl rfl rfl rfl (q_add rfl rfl rfl) (G.mv ?_)
       refine G.mv ?_
       refine G.q rfl rfl rfl rfl (q_ixaddr rfl rfl rfl se_90_F10 sz_28_F3 oM) (G.rK rfl rfl rfl rfl rfl (fun R => r_loadO (i := i * 1) rfl rfl ag_28_F3 mB (sched_nth1 bl oM)) ?_)
       refine G.q rfl rfl rfl rfl (q_add rfl rfl rfl) (G.as ?_)
       refine G.nil (EN.sub (sC 3 (sC 4 (sC 5 (sC 6 (sC 8 (sC 9 (sC 10 (sC 11 (sC 12 (sC 13 (sC 16 Sub.nil))))))))))) ?_)
       refine EN.tsr (G.mv ?_)
       refine G.as ?_
       refine G.nil (EN.tsr (G.mv ?_))
       refine G.as ?_
       refine G.nil (EN.tsr (G.mv ?_))
       refine G.call (xs := [_, _]) rfl rfl (turn_spec _ 30 oM) bd_49_F33 rfl rfl rfl rfl tK (fun _ _ _ _ _ _ => trivial) ?_
       rintro _ _ ⟨rfl, rfl⟩
       try dsimp only [List.cons_append, List.nil_append]
       refine G.as ?_
       refine G.nil (EN.tsr (G.mv ?_))
       refine G.as ?_
       refine G.nil (EN.tr ?_)
       refine G.mv ?_
       refine G.as ?_
       refine G.nil (EN.in_normal (EN.tr ?_))
       refine G.mv ?_
       refine G.q rfl rfl rfl rfl (q_add_i rfl rfl rfl oM) (G.as ?_)
       refine G.nil ?_
       rw [hA]
       exact EN.round (hl := [_, _, _]) (80 - (i + 1)) oM (⟨i + 1, by omega, rfl, rfl, rfl⟩) sB rfl tK sF
   ·
    obtain rfl : i = 80 := by omega
    refine CG.exit ?_
    refine EN.then_exit (EN.then_exit (EN.in_here ?_))
    refine EN.then ?_
    refine CG.regT [] mixed (by kernel_rfl) ?_
    refine G.mv ?_
    refine G.q rfl rfl rfl rfl (q_ixaddr1 rfl rfl rfl se_90_F10 sz_28_F3 (by decide)) (G.ld ag_28_F3 ?_)
    refine G.mv ?_
    refine G.q rfl rfl rfl rfl (q_add rfl rfl rfl) (G.mv ?_)
    refine G.q rfl rfl rfl rfl (q_ixaddr1 rfl rfl rfl se_90_F10 sz_28_F3 (by decide)) (G.ld ag_28_F3 ?_)
    refine G.mv ?_
    refine G.q rfl rfl rfl rfl (q_add rfl rfl rfl) (G.mv ?_)
    refine G.q rfl rfl rfl rfl (q_ixaddr1 rfl rfl rfl se_90_F10 sz_28_F3 (by decide)) (G.ld ag_28_F3 ?_)
    refine G.mv ?_
    refine G.q rfl rfl rfl rfl (q_add rfl rfl rfl) (G.mv ?_)
    refine G.q rfl rfl rfl rfl (q_ixaddr1 rfl rfl rfl se_90_F10 sz_28_F3 (by decide)) (G.ld ag_28_F3 ?_)
    refine G.mv ?_
    refine G.q rfl rfl rfl rfl (q_add rfl rfl rfl) (G.mv ?_)
    refine G.q rfl rfl rfl rfl (q_ixaddr1 rfl rfl rfl se_90_F10 sz_28_F3 (by decide)) (G.ld ag_28_F3 ?_)
    refine G.mv ?_
    refine G.q rfl rfl rfl rfl (q_add rfl rfl rfl) (G.e rfl rfl rfl rfl (e_bslice rfl rfl (bs_90_5_all_F10 _ _ _ _ _)) (fun _ _ _ _ _ _ => trivial) ?_)
    rintro _ _ ⟨b161, rfl, rfl⟩
    refine G.as ?_
    refine G.nil (EN.sub (sC 3 (sC 4 (sC 5 Sub.nil))) ?_)
    refine EN.in_normal (EN.tr ?_)
    refine G.mv ?_
    refine G.q rfl rfl rfl rfl (q_add_i rfl rfl rfl oM) (G.as ?_)
    refine G.nil ?_
    rw [show ((64 * q : Nat) : Int) + 64 = ((64 * (q + 1) : Nat) : Int) by omega]
    exact EN.round (hl := [_, _]) (N / 64 - (q + 1)) oM (⟨q + 1, _, b161, by omega, rfl, hgo2, rfl, rfl⟩) sB rfl tK sF
 ·
  have hq3 : 64 * q = N := by omega
  rw [List.drop_of_length_le oM, blocks_nil] at hgo
  have hh : h = (Sha.blocks Sha.start1 P).1 := by rw [← hgo]
  refine CG.closeOwn (g := g4) (sz := 1) (n := 5) (cap := 5) (xs := (Sha.wordsL h).map u32v) tK1 (by decide) (by decide) rfl rfl ?_
  refine CG.exit ?_
  refine EN.then_exit (EN.then_exit (EN.in_here ?_))
  refine EN.tsr (G.mv ?_)
  refine G.call (xs := [_]) rfl rfl (out_spec _ h) bd_50_F33 rfl rfl rfl rfl tK (fun _ _ _ _ _ _ => trivial) ?_
  rintro _ _ ⟨rfl, rfl⟩
  try dsimp only [List.cons_append, List.nil_append]
  refine G.as ?_
  refine G.nil (EN.sub (sC 2 Sub.nil) ?_)
  refine EN.then (CG.ret ?_)
  rw [hsum, ← hh]
  exact fin_ret1 rfl rfl tK sF (⟨rfl, rfl⟩) _ (.inl rfl)

end Go.Eng
/-
  Laws of packs: the reference's Count; PackSums.
-/
set_option linter.unusedVariables false
set_option linter.unusedSimpArgs false
namespace Go.Eng
open Go.Proofs
theorem bd_21_F34 : bodied Tryz.prog 21 = true := by kernel_rfl
theorem bd_22_F34 : bodied Tryz.prog 22 = true := by kernel_rfl
theorem ik_3_F34 : intK Tryz.prog 3 = some .i64 := by kernel_rfl

theorem big4 (a b c d : UInt8) : Sums.fromBig [a, b, c, d] = (a.toNat : Int) * 16777216 + b.toNat * 65536 + c.toNat * 256 + d.toNat := by
  rw [show [a, b, c, d] = [a, b, c] ++ [d] from rfl, Sums.fromBig_snoc, show [a, b, c] = [a, b] ++ [c] from rfl, Sums.fromBig_snoc, show [a, b] = [a] ++ [b] from rfl, Sums.fromBig_snoc, show [a] = [] ++ [a] from rfl, Sums.fromBig_snoc]
  simp only [show Sums.fromBig [] = 0 from rfl]; omega
theorem u8_of {a b : UInt8} (h : (a.toNat : Int) = b.toNat) : a = b := UInt8.toNat_inj.1 (by omega)
theorem head8 {s : List UInt8} (h : 32 ≤ s.length) : s.take 8 ≠ [80, 65, 67, 75, 0, 0, 0, 2] ↔ (s.take 4 ≠ [80, 65, 67, 75] ∨ Sums.fromBig ((s.take 8).drop 4) ≠ 2) := by
  obtain ⟨a0, a1, a2, a3, a4, a5, a6, a7, r, rfl⟩ : ∃ a0 a1 a2 a3 a4 a5 a6 a7 r, s = a0 :: a1 :: a2 :: a3 :: a4 :: a5 :: a6 :: a7 :: r := by
    match s, h with
    | a0 :: a1 :: a2 :: a3 :: a4 :: a5 :: a6 :: a7 :: r, _ => exact ⟨_, _, _, _, _, _, _, _, _, rfl⟩
  rw [show ((a0 :: a1 :: a2 :: a3 :: a4 :: a5 :: a6 :: a7 :: r).take 8).drop 4 = [a4, a5, a6, a7] from rfl, big4]
  have h4 := a4.toNat_lt; have h5 := a5.toNat_lt; have h6 := a6.toNat_lt; have h7 := a7.toNat_lt
  suffices key : (a0 :: a1 :: a2 :: a3 :: a4 :: a5 :: a6 :: a7 :: r).take 8 = [80, 65, 67, 75, 0, 0, 0, 2] ↔ ((a0 :: a1 :: a2 :: a3 :: a4 :: a5 :: a6 :: a7 :: r).take 4 = [80, 65, 67, 75] ∧ (a4.toNat : Int) * 16777216 + a5.toNat * 65536 + a6.toNat * 256 + a7.toNat = 2) by
    rw [Ne, key, Decidable.not_and_iff_or_not]
  constructor
  · intro e; simp at e; obtain ⟨rfl, rfl, rfl, rfl, rfl, rfl, rfl, rfl, _⟩ := e; exact ⟨rfl, rfl⟩
  · rintro ⟨e, e2⟩
    simp at e
    obtain ⟨rfl, rfl, rfl, rfl⟩ := e
    have e4 : a4 = 0 := u8_of (by rw [show ((0 : UInt8).toNat) = 0 from rfl]; omega)
    have e5 : a5 = 0 := u8_of (by rw [show ((0 : UInt8).toNat) = 0 from rfl]; omega)
    have e6 : a6 = 0 := u8_of (by rw [show ((0 : UInt8).toNat) = 0 from rfl]; omega)
    have e7 : a7 = 2 := u8_of (by rw [show ((2 : UInt8).toNat) = 2 from rfl]; omega)
    rw [e4, e5, e6, e7]; rfl
attribute [local irreducible] cel celZ own ownM exS ownG tabH TabI rowR buildE allE countE readE Sha.sum1 Sums.fromBig

set_option maxRecDepth 100000 in
set_option maxHeartbeats 1000000 in
theorem rcount_spec (s : List UInt8) (hs : s.length ≤ 100000000) : Spec Tryz.prog 7 #[str s] [] (Ret fun v hl => v = .tuple #[.int .i64 ((countE s).1 : Nat), .int .i64 ((countE s).2 : Nat)] ∧ hl = []) := by
 refine Spec.enter Tryz.func7 rfl rfl rfl (fun F w0 => ?_)
 dsimp only [argL, List.cons_append, List.nil_append]
 refine CG.sr (G.as ?_)
 refine G.as ?_
 refine G.nil (EN.ts (CG.sr (G.mv ?_)))
 refine G.q rfl rfl rfl rfl (q_len_str rfl rfl us_9_F1) (G.q rfl rfl rfl rfl (q_lss rfl rfl rfl) (G.nil (EN.then ?_)))
 refine CG.cond rfl (fun h7 => ?_) (fun h7 => ?_)
 ·
  have hE : countE s = (0, 6) := by unfold countE; exact if_pos oM
  refine CG.sr (G.as ?_)
  refine G.as ?_
  refine G.nil (EN.then (CG.ret (EN.then_ret ?_)))
  rw [hE]
  try rw [← et]
  exact fin_ret2 rfl rfl rfl tK sF (⟨rfl, rfl⟩) _ (.inl rfl)
 ·
  have h32 : 32 ≤ s.length := by omega
  have h8 : 8 ≤ s.length := by omega
  have h812 : 8 ≤ 12 ∧ 12 ≤ s.length := by omega
  have hb := Sums.fromBig_lt' (s := (s.take 12).drop 8) (j := 4) (by simp; omega)
  have e20 : (s.length : Int) - 20 = ((s.length - 20 : Nat) : Int) := by omega
  refine CG.skip (EN.ts (CG.sr (G.mv ?_)))
  refine G.q rfl rfl rfl rfl (q_slice_hi rfl rfl rfl us_9_F1 (h8)) (G.q rfl rfl rfl rfl (q_neq_s rfl rfl rfl) (G.nil (EN.then ?_)))
  refine CG.cond rfl (fun h10 => ?_) (fun h10 => ?_)
  ·
   have hE : countE s = (0, 3) := by unfold countE; rw [if_neg oM, if_pos ((head8 h32).1 h10)]
   refine CG.sr (G.as ?_)
   refine G.as ?_
   refine G.nil (EN.then (CG.ret (EN.then_ret ?_)))
   rw [hE]
   try rw [← et]
   exact fin_ret2 rfl rfl rfl tK sF (⟨rfl, rfl⟩) _ (.inl rfl)
  ·
   have hn3 := fun h => h10 ((head8 h32).2 h)
   refine CG.skip (EN.tsr (G.mv ?_))
   refine G.q rfl rfl rfl rfl (q_slice_lh rfl rfl rfl rfl us_9_F1 (h812)) (G.call (xs := [_]) rfl rfl (number_spec _ (by simp; omega)) bd_21_F34 rfl rfl rfl rfl tK (fun _ _ _ _ _ _ => trivial) ?_)
   rintro _ _ ⟨rfl, rfl⟩
   try dsimp only [List.cons_append, List.nil_append]
   refine G.as ?_
   refine G.nil (EN.sub (sC 0 (sC 2 (sC 3 (sC 4 Sub.nil)))) ?_)
   refine EN.ts (CG.sr (G.mv ?_))
   refine G.q rfl rfl rfl rfl (q_gtr rfl rfl rfl) (G.nil (EN.then ?_))
   refine CG.cond rfl (fun h15 => ?_) (fun h15 => ?_)
   ·
    have hE : countE s = (0, 2) := by unfold countE; rw [if_neg oM, if_neg hn3, if_pos h15]
    refine CG.sr (G.as ?_)
    refine G.as ?_
    refine G.nil (EN.then (CG.ret (EN.then_ret ?_)))
    rw [hE]
    try rw [← et]
    exact fin_ret2 rfl rfl rfl tK sF (⟨rfl, rfl⟩) _ (.inl rfl)
   ·
    refine CG.skip (EN.ts (CG.seq ?_))
    refine CG.regT [] mixed (by kernel_rfl) ?_
    refine G.mv ?_
    refine G.mv ?_
    refine G.q rfl rfl rfl rfl (q_len_str rfl rfl us_9_F1) (G.q rfl rfl rfl rfl (q_sub_i rfl rfl rfl oM) ?_)
    rw [e20]
    refine G.q rfl rfl rfl rfl (q_slice_hi rfl rfl rfl us_9_F1 oM) (G.call (xs := [_]) rfl rfl (rsum1_spec _ (by simp; omega)) bd_22_F34 rfl rfl rfl rfl tK (fun _ _ _ _ _ _ => trivial) ?_)
    rintro _ _ ⟨rfl, rfl⟩
    try dsimp only [List.cons_append, List.nil_append]
    refine G.mv ?_
    refine G.mv ?_
    refine G.q rfl rfl rfl rfl (q_len_str rfl rfl us_9_F1) (G.q rfl rfl rfl rfl (q_sub_i rfl rfl rfl oM) ?_)
    rw [e20]
    refine G.q rfl rfl rfl rfl (q_slice_lo rfl rfl rfl us_9_F1 oM) (G.q rfl rfl rfl rfl (q_neq_s rfl rfl rfl) (G.nil (EN.sub (sC 2 (sC 3 (sC 4 (sC 27 Sub.nil)))) ?_)))
    refine EN.then ?_
    refine CG.cond rfl (fun h27 => ?_) (fun h27 => ?_)
    ·
     have hE : countE s = (0, 5) := by unfold countE; rw [if_neg oM, if_neg hn3, if_neg h15, if_pos h27]
     refine CG.sr (G.as ?_)
     refine G.as ?_
     refine G.nil (EN.then (CG.ret (EN.then_ret ?_)))
     rw [hE]
     try rw [← et]
     exact fin_ret2 rfl rfl rfl tK sF (⟨rfl, rfl⟩) _ (.inl rfl)
    ·
     have hE : countE s = ((Sums.fromBig ((s.take 12).drop 8)).toNat, 0) := by unfold countE; rw [if_neg oM, if_neg hn3, if_neg h15, if_neg h27]
     have et : Sums.fromBig ((s.take 12).drop 8) = ((Sums.fromBig ((s.take 12).drop 8)).toNat : Nat) := by omega
     refine CG.skip (EN.tsr (G.mv ?_))
     refine G.q rfl rfl rfl rfl (q_conv_in rfl rfl is_58_F1 ik_3_F34 (wrap64_in oM)) (G.as ?_)
     refine G.as ?_
     refine G.nil (EN.then (CG.ret ?_))
     rw [hE]
     try rw [← et]
     exact fin_ret2 rfl rfl rfl tK sF (⟨rfl, rfl⟩) _ (.inl rfl)

end Go.Eng
/-
  The reference (ref01, ref06): numbers, sums, digits; zlib.
-/
set_option linter.unusedVariables false
set_option linter.unusedSimpArgs false
namespace Go.Eng
open Go.Proofs
theorem bT_80_9_F43 : bytesT Tryz.prog 80 9 = some 5 := by kernel_rfl
theorem bd_57_F43 : bodied Tryz.prog 57 = true := by kernel_rfl
theorem bd_58_F43 : bodied Tryz.prog 58 = true := by kernel_rfl
theorem bd_59_F43 : bodied Tryz.prog 59 = true := by kernel_rfl
theorem bd_60_F43 : bodied Tryz.prog 60 = true := by kernel_rfl
theorem bd_89_F43 : bodied Tryz.prog 89 = true := by kernel_rfl
theorem bd_90_F43 : bodied Tryz.prog 90 = true := by kernel_rfl
theorem ik_28_F43 : intK Tryz.prog 28 = some .u32 := by kernel_rfl
theorem ik_3_F43 : intK Tryz.prog 3 = some .i64 := by kernel_rfl
theorem ik_58_F43 : intK Tryz.prog 58 = some .u64 := by kernel_rfl
theorem ik_5_F43 : intK Tryz.prog 5 = some .u8 := by kernel_rfl

def InflLaw : Prop := ∀ (s : List UInt8) (a most : Nat), s.length ≤ 100000000 → a ≤ s.length → most ≤ 65536 → RI.inflate (bb (s.drop a)) most = Infl.inflate s a most
theorem little_0 (x : Int) : Sums.little x 0 = [] := rfl
theorem adlerP_nil : Sums.adlerP [] = (0, 0) := rfl
theorem hex_nil : Sums.hex [] = [] := rfl
theorem u8i_mod256 (x : Int) : u8i (x % 256) = u8i x := by unfold u8i; rw [Int.emod_emod]
theorem quo_u64 {x : Int} (h0 : 0 ≤ x) (h : x < 18446744073709551616) : IntKind.u64.wrap (x.tdiv 256) = x / 256 := by
  rw [Int.tdiv_eq_ediv_of_nonneg h0]; exact wrap_lim (by omega) lOm
theorem quo_u8 {x : Int} (h0 : 0 ≤ x) (h : x < 256) : IntKind.u8.wrap (x.tdiv 16) = x / 16 := by
  rw [Int.tdiv_eq_ediv_of_nonneg h0]; exact wrap_lim (by omega) lOm
theorem own_littleU {e k : Nat} {u : Value} {x : Int} : own e 1 u (k + 1) ((Sums.little x k).map u8v ++ [.int .u8 ((u8i (x / 2 ^ (8 * k))).toNat : Int)]) = own e 1 u (k + 1) ((Sums.little x (k + 1)).map u8v) := by
  unfold Sums.little; rw [Sums.range_take]; simp [u8v]
theorem little_next (x : Int) (k : Nat) : x / 2 ^ (8 * k) / 256 = x / 2 ^ (8 * (k + 1)) := by
  rw [show 8 * (k + 1) = 8 * k + 8 by omega, Int.pow_add, ← Int.ediv_ediv_of_nonneg (Int.le_of_lt (Int.pow_pos (by decide)))]; rfl
theorem div_bd {x : Int} (h0 : 0 ≤ x) (k : Nat) : 0 ≤ x / 2 ^ (8 * k) ∧ x / 2 ^ (8 * k) ≤ x := ⟨Int.ediv_nonneg h0 (Int.le_of_lt (Int.pow_pos (by decide))), Int.ediv_le_self _ h0⟩
theorem little_big (x : Int) (n : Nat) : (Sums.little x n).reverse = Sums.big x n := by
  unfold Sums.little Sums.big
  apply List.ext_getElem?
  intro i
  by_cases hi : i < n
  · rw [List.getElem?_reverse (by simpa using hi), List.getElem?_map, List.getElem?_map]
    simp only [List.length_map, List.length_range]
    rw [List.getElem?_range (by omega), List.getElem?_range hi]
    rfl
  · rw [List.getElem?_eq_none (by simp; omega), List.getElem?_eq_none (by simp; omega)]
theorem rev_snoc {s : List UInt8} {j : Nat} {c : UInt8} (hc : s[s.length - (j + 1)]? = some c) (hj : j < s.length) : (s.drop (s.length - j)).reverse ++ [c] = (s.drop (s.length - (j + 1))).reverse := by
  rw [drop_cons hc, List.reverse_cons, show s.length - (j + 1) + 1 = s.length - j by omega]
theorem own_snocU2 {e n : Nat} {u : Value} {l : List UInt8} {x : UInt8} (h : l.length = n) : own e 1 u (n + 1) (l.map u8v ++ [.int .u8 (x.toNat : Int)]) = own e 1 u (n + 1) ((l ++ [x]).map u8v) := by simp [u8v]
/-- a byte's bits taken into the sum, one at a time -/
def rcBits (t : Int) : Nat → Int → Int
  | 0, c => c
  | n + 1, c => (if bits .and .u32 (bits .xor .u32 (rcBits t n c) (t / 2 ^ n)) 1 = 1 then bits .xor .u32 (rcBits t n c / 2) 3988292384 else rcBits t n c / 2)
theorem bits32 (a b : Nat) (ha : a < 2 ^ 32) (hb : b < 2 ^ 32) : bits .xor .u32 (a : Int) b = ((a ^^^ b : Nat) : Int) := bits_xor_lim (by show _ < 2 ^ 32; exact ha) (by show _ < 2 ^ 32; exact hb)
theorem and32 (a b : Nat) (ha : a < 2 ^ 32) (hb : b < 2 ^ 32) : bits .and .u32 (a : Int) b = ((a &&& b : Nat) : Int) := bits_and_lim (by show _ < 2 ^ 32; exact ha) (by show _ < 2 ^ 32; exact hb)
theorem crcBit_nat {p : Nat} (hp : p < 2 ^ 32) : crcBit (p : Int) = (((p / 2) ^^^ (if p % 2 = 1 then 3988292384 else 0) : Nat) : Int) := by
  unfold crcBit
  have h1 := and32 p 1 hp (by decide)
  rw [Nat.and_one_is_mod] at h1
  rw [show ((1 : Nat) : Int) = 1 from rfl] at h1
  rw [h1, show ((p : Int) / 2) = ((p / 2 : Nat) : Int) by omega]
  have h2 : bits .and .u32 3988292384 (IntKind.u32.wrap (0 - ((p % 2 : Nat) : Int))) = ((if p % 2 = 1 then 3988292384 else 0 : Nat) : Int) := by
    rcases Nat.mod_two_eq_zero_or_one p with h | h <;> rw [h] <;> decide +kernel
  rw [h2, bits32 _ _ (by omega) (by split <;> decide)]
theorem xor_lt32 {a b : Nat} (ha : a < 2 ^ 32) (hb : b < 2 ^ 32) : a ^^^ b < 2 ^ 32 := Nat.xor_lt_two_pow ha hb
theorem rc_step {t : Nat} (ht : t < 256) {c : Nat} (hc : c < 2 ^ 32) : ∀ n, ∃ r : Nat, r < 2 ^ 32 ∧ rcBits t n c = r ∧ crcBits n (bits .xor .u32 (c : Int) t) = ((r ^^^ (t / 2 ^ n) : Nat) : Int)
  | 0 => ⟨c, hc, rfl, by rw [crcBits, bits32 c t hc (by omega), Nat.pow_zero, Nat.div_one]⟩
  | n + 1 => by
    obtain ⟨r, hr, h1, h2⟩ := rc_step ht hc n
    obtain ⟨q, hq⟩ : ∃ q, t / 2 ^ n = q := ⟨_, rfl⟩
    have hql : q < 2 ^ 32 := by rw [← hq]; exact Nat.lt_of_le_of_lt (Nat.div_le_self _ _) (by omega)
    have hq2 : t / 2 ^ (n + 1) = q / 2 := by rw [Nat.pow_succ, ← Nat.div_div_eq_div_mul, hq]
    have hqi : (t : Int) / 2 ^ n = (q : Nat) := by rw [← hq]; simp
    rw [hq] at h2
    have hx : bits .and .u32 (bits .xor .u32 (r : Int) (q : Int)) 1 = (((r ^^^ q) % 2 : Nat) : Int) := by
      rw [bits32 r q hr hql]
      have := and32 (r ^^^ q) 1 (xor_lt32 hr hql) (by decide)
      rw [Nat.and_one_is_mod] at this; exact this
    have hR : rcBits (t : Int) (n + 1) c = (((r / 2) ^^^ (if (r ^^^ q) % 2 = 1 then 3988292384 else 0) : Nat) : Int) := by
      rw [rcBits, h1, hqi, hx, show ((r : Int) / 2) = ((r / 2 : Nat) : Int) by omega]
      rcases Nat.mod_two_eq_zero_or_one (r ^^^ q) with h | h
      · rw [h, if_neg (by decide), if_neg (by decide)]; simp
      · rw [h, if_pos (show ((1 : Nat) : Int) = 1 from rfl), if_pos rfl]; exact bits32 _ _ (by omega) (by decide)
    refine ⟨(r / 2) ^^^ (if (r ^^^ q) % 2 = 1 then 3988292384 else 0), xor_lt32 (by omega) (by split <;> decide), hR, ?_⟩
    rw [crcBits, h2, crcBit_nat (xor_lt32 hr hql), hq2]
    have e : (r ^^^ q) / 2 = (r / 2) ^^^ (q / 2) := by
      apply Nat.eq_of_testBit_eq; intro i
      simp only [Nat.testBit_div_two, Nat.testBit_xor]
    rw [e, Nat.xor_assoc, Nat.xor_assoc, Nat.xor_comm (q / 2)]
theorem rc8 {t : Nat} (ht : t < 256) {c : Nat} (hc : c < 2 ^ 32) : ∃ r : Nat, r < 2 ^ 32 ∧ rcBits t 8 c = r ∧ crcBits 8 (bits .xor .u32 (c : Int) t) = r := by
  obtain ⟨r, h1, h2, h3⟩ := rc_step ht hc 8
  refine ⟨r, h1, h2, ?_⟩
  rw [h3, show t / 2 ^ 8 = 0 by omega, Nat.xor_zero]
theorem adler_ref {s : List UInt8} {c : UInt8} {k : Nat} (h : s.take (k + 1) = s.take k ++ [c]) : (((Sums.adlerP (s.take k)).1 + 1) % 65521 + c.toNat) % 65521 = ((Sums.adlerP (s.take (k + 1))).1 + 1) % 65521 ∧ ((Sums.adlerP (s.take k)).2 + ((Sums.adlerP (s.take (k + 1))).1 + 1) % 65521) % 65521 = (Sums.adlerP (s.take (k + 1))).2 := by
  rw [h, Sums.adlerP_snoc]; unfold Sums.adlerStep; simp only; omega
theorem hex_digit {n : Nat} (h : n < 16) : (([48, 49, 50, 51, 52, 53, 54, 55, 56, 57, 97, 98, 99, 100, 101, 102] : List UInt8).take (n + 1)).drop n = [Sums.hexDigit n] := by
  have := Sums.hexDigit_get h
  rw [take_snoc this, List.drop_append_of_le_length (by simp; omega), List.drop_eq_nil_of_le (by simp; omega)]; rfl
theorem head06 (c f : UInt8) : decide ((f.toNat : Int) / 32 % 2 = 0) = decide (bits .and .u8 (f.toNat : Int) 32 = 0) := by
  have := bits_and_lim (k := .u8) (a := f.toNat) (b := 32) (by show _ < 2 ^ 8; exact f.toNat_lt) (by decide)
  rw [show ((32 : Nat) : Int) = 32 from rfl] at this
  rw [this]
  have h32 : f.toNat &&& 32 = 32 * (f.toNat / 32 % 2) := by
    have := f.toNat_lt
    revert this; generalize f.toNat = n; revert n; decide +kernel
  rw [h32]
  by_cases h : f.toNat / 32 % 2 = 0
  · rw [decide_eq_true (by omega), decide_eq_true (by omega)]
  · rw [decide_eq_false (by omega), decide_eq_false (by omega)]
theorem big_inv {l : List UInt8} (h : l.length = 4) {x : Int} (h0 : 0 ≤ x) (hx : x < 4294967296) : l = Sums.big x 4 ↔ Sums.fromBig l = x := by
  match l, h with
  | [a, b, c, d], _ =>
    have ha := a.toNat_lt; have hb := b.toNat_lt; have hc := c.toNat_lt; have hd := d.toNat_lt
    have hB : Sums.big x 4 = [u8i (x / 16777216), u8i (x / 65536), u8i (x / 256), u8i (x / 1)] := by unfold Sums.big; rfl
    rw [hB, big4]
    have e : ∀ y : Int, ((u8i y).toNat : Int) = y % 256 := fun y => by rw [← wrap_u8]; rfl
    constructor
    · intro h
      simp only [List.cons.injEq, and_true] at h
      obtain ⟨rfl, rfl, rfl, rfl⟩ := h
      rw [e, e, e, e]; omega
    · intro h
      have k1 : a = u8i (x / 16777216) := u8_of (by rw [e]; omega)
      have k2 : b = u8i (x / 65536) := u8_of (by rw [e]; omega)
      have k3 : c = u8i (x / 256) := u8_of (by rw [e]; omega)
      have k4 : d = u8i (x / 1) := u8_of (by rw [e]; omega)
      rw [← k1, ← k2, ← k3, ← k4]
theorem infl_used2 (s : List UInt8) (hs : s.length ≤ 140737488351232) (a most : Nat) (ha : a ≤ s.length) : (Infl.inflate s a most).2.1 ≤ s.length - a := by
  have hk : ∀ (g : Nat) (r : RD) (out : List UInt8), (Infl.run most g r out).1.frm = r.frm ∧ (Infl.run most g r out).1.s = r.s := run_frm most
  have h1 := (Infl.run_okk most ((RD.new s a).left + 1) (RD.new s a) [] (RD.new_ok hs a) (by simp)).1
  have h2 := hk ((RD.new s a).left + 1) (RD.new s a) []
  have hp := h1.pos
  rw [h2.2] at hp
  unfold Infl.inflate
  dsimp only
  split
  · simp
  · simp only [RD.used]
    rw [h2.1]
    have : (RD.new s a).frm = min a s.length := rfl
    have h3 : (RD.new s a).s = s := rfl
    rw [h3] at hp
    omega

attribute [local irreducible] cel celZ own ownM ownG exS Sums.little Sums.big Sums.adlerP Sums.hex crcW Infl.inflate RI.inflate Sums.adler Sums.fromBig zread

set_option maxRecDepth 100000 in
set_option maxHeartbeats 1000000 in
theorem little01_spec (x : Int) (n : Nat) (h0 : 0 ≤ x) (hx : x < 18446744073709551616) (hn : n ≤ 8) : Spec Tryz.prog 90 #[.int .u64 x, .int .i64 n] [] (Ret fun v hl => v = str (Sums.little x n) ∧ hl = []) := by
 refine Spec.enter Tryz.func90 rfl rfl rfl (fun F w0 => ?_)
 dsimp only [argL, List.cons_append, List.nil_append]
 refine CG.sr (G.as ?_)
 refine G.nil (EN.tsr (G.e rfl rfl rfl rfl (e_bslice rfl rfl (bs_80_0_all_F31)) (fun _ _ _ _ _ _ => trivial) ?_))
 rintro _ _ ⟨b7, rfl, rfl⟩
 refine G.as ?_
 refine G.nil (EN.ts (CG.sr (G.as ?_)))
 refine G.nil (EN.then (CG.block (CG.closeOwn (g := b7) (sz := 1) (n := 0) (cap := 0) (xs := []) tK1 (by decide) (by decide) rfl rfl ?_)))
 refine CG.loopI (fun m L H => ∃ (k : Nat) (v : Value), k ≤ n ∧ m = n - k ∧ L = [(0, .int .u64 (x / 2 ^ (8 * k))), (1, .int .i64 n), (5, v), (6, .int .i64 (k : Nat))] ∧ H = [own 5 1 v k ((Sums.little x k).map u8v)] ++ F) (n - 0) (hl := [_]) (⟨0, _, Nat.zero_le _, rfl, by rw [Nat.mul_zero, Int.pow_zero, Int.ediv_one], by rw [little_0]⟩) sB rfl tK sF ?_
 rintro m L H ⟨k, v, hk, rfl, rfl, rfl⟩
 try dsimp only [List.cons_append, List.nil_append]
 have hdb := div_bd h0 k
 generalize hy : x / 2 ^ (8 * k) = y at hdb ⊢
 refine CG.seq (CG.sr (G.mv ?_))
 refine G.mv ?_
 refine G.q rfl rfl rfl rfl (q_lss rfl rfl rfl) (G.nil (EN.then ?_))
 refine CG.cond rfl (fun h10 => ?_) (fun h10 => ?_)
 ·
  refine CG.skip (EN.ts (CG.block (CG.sr (G.mv ?_))))
  refine G.mv ?_
  refine G.q rfl rfl rfl rfl (q_rem_n rfl rfl rfl oM) (G.q rfl rfl rfl rfl (q_conv_u8 rfl rfl is_58_F1 ik_5_F43) ?_)
  rw [u8i_mod256, ← hy]
  refine G.e rfl rfl rfl rfl (e_bslice rfl rfl (bs_80_1_all_F2 _)) (fun _ _ _ _ _ _ => trivial) ?_
  rintro _ _ ⟨b17, rfl, rfl⟩
  refine G.e rfl rfl rfl rfl (e_append rfl rfl rfl se_80_F2 nf_5_F2 rfl tK1 mB (by rfl) (by simp [Value.oneCell', str]) oM) (fun _ _ _ _ _ _ => trivial) ?_
  rintro _ _ rfl
  rw [own_littleU, hy]
  refine G.as ?_
  refine G.nil (EN.sub (sC 0 (sC 1 (sC 5 (sC 6 Sub.nil)))) ?_)
  refine EN.tr ?_
  refine G.mv ?_
  refine G.q rfl rfl rfl rfl (q_quo rfl rfl rfl oM) (G.as ?_)
  refine G.nil (EN.in_normal (EN.tr ?_))
  refine G.mv ?_
  refine G.q rfl rfl rfl rfl (q_add_i rfl rfl rfl oM) (G.as ?_)
  refine G.nil ?_
  rw [quo_u64 (x := y) oM oM, show y / 256 = x / 2 ^ (8 * (k + 1)) by rw [← hy]; exact little_next x k]
  exact EN.round (hl := [_]) (n - (k + 1)) oM (⟨k + 1, _, by omega, rfl, rfl, rfl⟩) sB rfl tK sF
 ·
  obtain rfl : k = n := by omega
  refine CG.exit ?_
  refine EN.then_exit (EN.then_exit (EN.in_here ?_))
  refine EN.tsr (G.mv ?_)
  rw [show own 5 1 v k ((Sums.little x k).map u8v) = own 5 1 v k ((Sums.little x k).map u8v) from rfl]
  refine G.r rfl rfl rfl rfl (r_b2s rfl rfl bT_80_9_F43 mB) ?_
  refine G.as ?_
  refine G.nil (EN.sub (sC 4 Sub.nil) ?_)
  refine EN.then (CG.ret ?_)
  exact fin_ret1 rfl rfl tK sF (⟨rfl, rfl⟩) _ (.inl rfl)

set_option maxRecDepth 100000 in
set_option maxHeartbeats 1000000 in
theorem turn01_spec (s : List UInt8) (hs : s.length ≤ 100000) : Spec Tryz.prog 89 #[str s] [] (Ret fun v hl => v = str s.reverse ∧ hl = []) := by
 refine Spec.enter Tryz.func89 rfl rfl rfl (fun F w0 => ?_)
 dsimp only [argL, List.cons_append, List.nil_append]
 refine CG.sr (G.as ?_)
 refine G.nil (EN.tsr (G.e rfl rfl rfl rfl (e_bslice rfl rfl (bs_80_0_all_F31)) (fun _ _ _ _ _ _ => trivial) ?_))
 rintro _ _ ⟨b5, rfl, rfl⟩
 refine G.as ?_
 refine G.nil (EN.ts (CG.sr (G.mv ?_)))
 refine G.q rfl rfl rfl rfl (q_len_str rfl rfl us_9_F1) (G.q rfl rfl rfl rfl (q_sub_i rfl rfl rfl oM) (G.as ?_))
 refine G.nil (EN.then (CG.block (CG.closeOwn (g := b5) (sz := 1) (n := 0) (cap := 0) (xs := []) tK1 (by decide) (by decide) rfl rfl ?_)))
 rw [show (s.length : Int) - 1 = (s.length : Int) - 1 - (0 : Nat) by omega]
 refine CG.loopI (fun m L H => ∃ (j : Nat) (v : Value), j ≤ s.length ∧ m = s.length - j ∧ L = [(0, str s), (3, v), (4, .int .i64 ((s.length : Int) - 1 - j))] ∧ H = [own 5 1 v j ((s.drop (s.length - j)).reverse.map u8v)] ++ F) (s.length - 0) (hl := [_]) (⟨0, .slice (some ⟨b5, 0, none⟩) 0 0, Nat.zero_le _, rfl, rfl, by rw [Nat.sub_zero, List.drop_length]⟩) sB rfl tK sF ?_
 rintro m L H ⟨j, v, hj, rfl, rfl, rfl⟩
 try dsimp only [List.cons_append, List.nil_append]
 refine CG.seq (CG.sr (G.mv ?_))
 refine G.q rfl rfl rfl rfl (q_geq rfl rfl rfl) (G.nil (EN.then ?_))
 refine CG.cond rfl (fun h10 => ?_) (fun h10 => ?_)
 ·
  have hj2 : j < s.length := by omega
  obtain ⟨c, hc⟩ := get_some (l := s) (k := s.length - (j + 1)) oM
  rw [show (s.length : Int) - 1 - j = ((s.length - (j + 1) : Nat) : Int) by omega]
  refine CG.skip (EN.ts (CG.block (CG.reg (G.mv ?_))))
  refine G.mv ?_
  refine G.mv ?_
  refine G.q rfl rfl rfl rfl (q_index rfl rfl rfl us_9_F1 (hc)) (G.e rfl rfl rfl rfl (e_bslice rfl rfl (bs_80_1_all_F2 _)) (fun _ _ _ _ _ _ => trivial) ?_)
  rintro _ _ ⟨b17, rfl, rfl⟩
  refine G.e rfl rfl rfl rfl (e_append rfl rfl rfl se_80_F2 nf_5_F2 rfl tK1 mB (by rfl) (by simp [Value.oneCell', str]) oM) (fun _ _ _ _ _ _ => trivial) ?_
  rintro _ _ rfl
  rw [own_snocU2 (by simp; omega), rev_snoc hc hj2]
  refine G.as ?_
  refine G.nil (EN.in_normal (EN.tr ?_))
  refine G.mv ?_
  refine G.q rfl rfl rfl rfl (q_sub_i rfl rfl rfl oM) (G.as ?_)
  refine G.nil ?_
  rw [show ((s.length - (j + 1) : Nat) : Int) - 1 = (s.length : Int) - 1 - ((j + 1 : Nat) : Int) by omega]
  exact EN.round (hl := [_]) (s.length - (j + 1)) oM (⟨j + 1, _, by omega, rfl, rfl, rfl⟩) sB rfl tK sF
 ·
  obtain rfl : j = s.length := by omega
  rw [Nat.sub_self, List.drop_zero]
  refine CG.exit ?_
  refine EN.then_exit (EN.then_exit (EN.in_here ?_))
  refine EN.tsr (G.mv ?_)
  refine G.r rfl rfl rfl rfl (r_b2s rfl rfl bT_80_9_F43 mB) ?_
  refine G.as ?_
  refine G.nil (EN.then (CG.ret ?_))
  exact fin_ret1 rfl rfl tK sF (⟨rfl, rfl⟩) _ (.inl rfl)

set_option maxRecDepth 100000 in
set_option maxHeartbeats 1000000 in
theorem big01_spec (x : Int) (n : Nat) (h0 : 0 ≤ x) (hx : x < 18446744073709551616) (hn : n ≤ 8) : Spec Tryz.prog 59 #[.int .u64 x, .int .i64 n] [] (Ret fun v hl => v = str (Sums.big x n) ∧ hl = []) := by
 refine Spec.enter Tryz.func59 rfl rfl rfl (fun F w0 => ?_)
 dsimp only [argL, List.cons_append, List.nil_append]
 refine CG.sr (G.as ?_)
 refine G.nil (EN.tsr (G.mv ?_))
 refine G.mv ?_
 refine G.call (xs := [_, _]) rfl rfl (little01_spec x n h0 hx hn) bd_90_F43 rfl rfl rfl rfl tK (fun _ _ _ _ _ _ => trivial) ?_
 rintro _ _ ⟨rfl, rfl⟩
 try dsimp only [List.cons_append, List.nil_append]
 refine G.call (xs := [_]) rfl rfl (turn01_spec (Sums.little x n) (by unfold Sums.little; simp; omega)) bd_89_F43 rfl rfl rfl rfl tK (fun _ _ _ _ _ _ => trivial) ?_
 rintro _ _ ⟨rfl, rfl⟩
 try dsimp only [List.cons_append, List.nil_append]
 refine G.as ?_
 refine G.nil (EN.then (CG.ret ?_))
 rw [little_big]
 exact fin_ret1 rfl rfl tK sF (⟨rfl, rfl⟩) _ (.inl rfl)

set_option maxRecDepth 100000 in
set_option maxHeartbeats 1000000 in
theorem adler01_spec (s : List UInt8) (hs : s.length ≤ 1000000000) : Spec Tryz.prog 60 #[str s] [] (Ret fun v hl => v = .int .u32 (Sums.adler s) ∧ hl = []) := by
 refine Spec.enter Tryz.func60 rfl rfl rfl (fun F w0 => ?_)
 dsimp only [argL, List.cons_append, List.nil_append]
 refine CG.sr (G.as ?_)
 refine G.nil (EN.tsr (G.as ?_))
 refine G.as ?_
 refine G.nil (EN.ts (CG.sr (G.as ?_)))
 refine G.nil (EN.then (CG.block (CG.loopI (fun m L H => ∃ k : Nat, k ≤ s.length ∧ m = s.length - k ∧ L = [(0, str s), (3, .int .i64 (((Sums.adlerP (s.take k)).1 + 1) % 65521)), (4, .int .i64 (Sums.adlerP (s.take k)).2), (5, .int .i64 k)] ∧ H = F) (s.length - 0) (⟨0, Nat.zero_le _, rfl, by rw [List.take_zero, adlerP_nil], rfl⟩) sB rfl tK sF ?_)))
 rintro m L H ⟨k, hk, rfl, rfl, rfl⟩
 try dsimp only [List.cons_append, List.nil_append]
 have hap := Sums.adlerP_lt (s.take k)
 refine CG.seq (CG.sr (G.mv ?_))
 refine G.mv ?_
 refine G.q rfl rfl rfl rfl (q_len_str rfl rfl us_9_F1) (G.q rfl rfl rfl rfl (q_lss rfl rfl rfl) (G.nil (EN.then ?_)))
 refine CG.cond rfl (fun h9 => ?_) (fun h9 => ?_)
 ·
  obtain ⟨c, hc⟩ := get_some (l := s) (k := k) oM
  have hs2 := take_snoc hc
  have hc8 := u8_lt c
  have hr1 := adler_ref hs2
  have hap2 := Sums.adlerP_lt (s.take (k + 1))
  refine CG.skip (EN.ts (CG.block (CG.sr (G.mv ?_))))
  refine G.mv ?_
  refine G.mv ?_
  refine G.q rfl rfl rfl rfl (q_index rfl rfl rfl us_9_F1 (hc)) (G.q rfl rfl rfl rfl (q_conv_in rfl rfl is_5_F1 ik_3_F43 (wrap64_in oM)) (G.q rfl rfl rfl rfl (q_add_i rfl rfl rfl oM) (G.q rfl rfl rfl rfl (q_rem_n rfl rfl rfl oM) (G.as ?_))))
  refine G.nil (EN.sub (sC 0 (sC 3 (sC 4 (sC 5 Sub.nil)))) ?_)
  refine EN.then ?_
  rw [hr1.1]
  refine CG.reg (G.mv ?_)
  refine G.mv ?_
  refine G.q rfl rfl rfl rfl (q_add_i rfl rfl rfl oM) (G.q rfl rfl rfl rfl (q_rem_n rfl rfl rfl oM) (G.as ?_))
  refine G.nil (EN.in_normal (EN.tr ?_))
  refine G.mv ?_
  refine G.q rfl rfl rfl rfl (q_add_i rfl rfl rfl oM) (G.as ?_)
  refine G.nil ?_
  rw [hr1.2]
  exact EN.round (s.length - (k + 1)) oM (⟨k + 1, by omega, rfl, rfl, rfl⟩) sB rfl tK sF
 ·
  obtain rfl : k = s.length := by omega
  rw [List.take_length] at hap ⊢
  refine CG.exit ?_
  refine EN.then_exit (EN.then_exit (EN.in_here ?_))
  refine EN.tsr (G.mv ?_)
  refine G.q rfl rfl rfl rfl (q_mul_i rfl rfl rfl oM) (G.mv ?_)
  refine G.q rfl rfl rfl rfl (q_add_i rfl rfl rfl oM) (G.q rfl rfl rfl rfl (q_conv_in rfl rfl is_3_F4 ik_28_F43 (wrap_lim oM lOm)) (G.as ?_))
  refine G.nil (EN.sub (sC 2 Sub.nil) ?_)
  refine EN.then (CG.ret ?_)
  rw [show (65536 : Int) * (Sums.adlerP s).2 + ((Sums.adlerP s).1 + 1) % 65521 = Sums.adler s by unfold Sums.adler; omega]
  exact fin_ret1 rfl rfl tK sF (⟨rfl, rfl⟩) _ (.inl rfl)

set_option maxRecDepth 100000 in
set_option maxHeartbeats 1000000 in
theorem crc01_spec (s : List UInt8) (hs : s.length ≤ 1000000000) : Spec Tryz.prog 33 #[str s] [] (Ret fun v hl => v = .int .u32 (crc32 s) ∧ hl = []) := by
 refine Spec.enter Tryz.func33 rfl rfl rfl (fun F w0 => ?_)
 dsimp only [argL, List.cons_append, List.nil_append]
 refine CG.sr (G.as ?_)
 refine G.nil (EN.tsr (G.as ?_))
 refine G.nil (EN.ts (CG.sr (G.as ?_)))
 refine G.nil (EN.then (CG.block (CG.loopI (fun m L H => ∃ (k r : Nat), k ≤ s.length ∧ m = s.length - k ∧ r < 2 ^ 32 ∧ crcW (crcNot 0) (s.take k) = r ∧ L = [(0, str s), (3, .int .u32 (r : Nat)), (4, .int .i64 k)] ∧ H = F) (s.length - 0) (⟨0, 4294967295, Nat.zero_le _, rfl, by decide, by rw [List.take_zero]; unfold crcW; decide +kernel, rfl, rfl⟩) sB rfl tK sF ?_)))
 rintro m L H ⟨k, r, hk, rfl, hr, hcr, rfl, rfl⟩
 try dsimp only [List.cons_append, List.nil_append]
 refine CG.seq (CG.sr (G.mv ?_))
 refine G.mv ?_
 refine G.q rfl rfl rfl rfl (q_len_str rfl rfl us_9_F1) (G.q rfl rfl rfl rfl (q_lss rfl rfl rfl) (G.nil (EN.then ?_)))
 refine CG.cond rfl (fun h10 => ?_) (fun h10 => ?_)
 ·
  obtain ⟨c, hc⟩ := get_some (l := s) (k := k) oM
  have hs2 := take_snoc hc
  have hc8 := u8_lt c
  obtain ⟨q8, hq1, hq2, hq4⟩ := rc8 (t := c.toNat) c.toNat_lt hr
  have hq3 : crcW (crcNot 0) (s.take (k + 1)) = q8 := by rw [hs2, crcW_snoc, hcr]; exact hq4
  refine CG.skip (EN.ts (CG.block (CG.sr (G.as ?_))))
  refine G.nil (EN.then (CG.block (CG.loopI (fun m L H9 => ∃ (j : Nat), j ≤ 8 ∧ m = 8 - j ∧ L = [(0, str s), (3, .int .u32 (rcBits c.toNat j r)), (4, .int .i64 k), (5, .int .i64 j)] ∧ H9 = H) (8 - 0) (⟨0, Nat.zero_le _, rfl, rfl, rfl⟩) sB rfl tK sF ?_)))
  rintro m L H9 ⟨j, hj, rfl, rfl, rfl⟩
  try dsimp only [List.cons_append, List.nil_append]
  obtain ⟨rj, hj1, hj2, _⟩ := rc_step c.toNat_lt hr j
  refine CG.seq (CG.sr (G.mv ?_))
  refine G.q rfl rfl rfl rfl (q_lss rfl rfl rfl) (G.nil (EN.then ?_))
  refine CG.cond rfl (fun h14 => ?_) (fun h14 => ?_)
  ·
   have hjj : j < 8 := by omega
   have hmn : min ((j : Nat) : Int).toNat IntKind.u8.bits = j := by simp only [IntKind.bits]; omega
   have hstep : rcBits (c.toNat : Int) (j + 1) r = (if bits .and .u32 (bits .xor .u32 (rcBits c.toNat j r) ((c.toNat : Int) / 2 ^ j)) 1 = 1 then bits .xor .u32 (rcBits c.toNat j r / 2) 3988292384 else rcBits c.toNat j r / 2) := rfl
   have hdv : (c.toNat : Int) / 2 ^ j = ((c.toNat / 2 ^ j : Nat) : Int) := by simp
   have hdl : c.toNat / 2 ^ j ≤ c.toNat := Nat.div_le_self _ _
   refine CG.skip (EN.ts (CG.block (CG.sr (G.mv ?_))))
   refine G.mv ?_
   refine G.mv ?_
   refine G.q rfl rfl rfl rfl (q_index rfl rfl rfl us_9_F1 (hc)) (G.mv ?_)
   refine G.q rfl rfl rfl rfl (q_shr rfl rfl rfl oM) ?_
   rw [hmn, hdv]
   rw [hdv] at hstep
   generalize c.toNat / 2 ^ j = y at hdl hstep ⊢
   refine G.q rfl rfl rfl rfl (q_conv_in rfl rfl is_5_F1 ik_28_F43 (wrap_lim oM lOm)) (G.q rfl rfl rfl rfl (q_xor rfl rfl rfl) (G.q rfl rfl rfl rfl (q_and rfl rfl rfl) (G.q rfl rfl rfl rfl (q_eql rfl rfl rfl) (G.as ?_))))
   refine G.nil (EN.sub (sC 0 (sC 3 (sC 4 (sC 5 (sC 6 Sub.nil))))) ?_)
   refine EN.tsr (G.mv ?_)
   refine G.q rfl rfl rfl rfl (q_shrc (d := 2) rfl rfl rfl (by decide) (by decide)) (G.as ?_)
   refine G.nil (EN.ts ?_)
   rw [hj2] at hstep ⊢
   refine CG.reg (G.mv ?_)
   refine G.nil (EN.then ?_)
   refine CG.cond rfl (fun h29 => ?_) (fun h29 => ?_)
   ·
    rw [if_pos h29] at hstep
    have hst := hstep.symm
    refine CG.reg (G.mv ?_)
    refine G.q rfl rfl rfl rfl (q_xor rfl rfl rfl) (G.as ?_)
    refine G.nil (EN.in_normal (EN.tr ?_))
    refine G.mv ?_
    refine G.q rfl rfl rfl rfl (q_add_i rfl rfl rfl oM) (G.as ?_)
    refine G.nil ?_
    rw [hst]
    exact EN.round (8 - (j + 1)) oM (⟨j + 1, by omega, rfl, rfl, rfl⟩) sB rfl tK sF
   ·
    rw [if_neg h29] at hstep
    have hst := hstep.symm
    refine CG.skip (EN.in_normal (EN.tr ?_))
    refine G.mv ?_
    refine G.q rfl rfl rfl rfl (q_add_i rfl rfl rfl oM) (G.as ?_)
    refine G.nil ?_
    rw [hst]
    exact EN.round (8 - (j + 1)) oM (⟨j + 1, by omega, rfl, rfl, rfl⟩) sB rfl tK sF
  ·
   obtain rfl : j = 8 := by omega
   rw [hq2]
   refine CG.exit ?_
   refine EN.then_exit (EN.then_exit (EN.in_here ?_))
   refine EN.in_normal (EN.tr ?_)
   refine G.mv ?_
   refine G.q rfl rfl rfl rfl (q_add_i rfl rfl rfl oM) (G.as ?_)
   refine G.nil ?_
   exact EN.round (s.length - (k + 1)) oM (⟨k + 1, q8, by omega, rfl, hq1, hq3, rfl, rfl⟩) sB rfl tK sF
 ·
  obtain rfl : k = s.length := by omega
  rw [List.take_length] at hcr
  refine CG.exit ?_
  refine EN.then_exit (EN.then_exit (EN.in_here ?_))
  refine EN.tsr (G.mv ?_)
  refine G.q rfl rfl rfl rfl (q_xor rfl rfl rfl) (G.as ?_)
  refine G.nil (EN.sub (sC 2 Sub.nil) ?_)
  refine EN.then (CG.ret ?_)
  rw [show bits .xor .u32 (r : Int) 4294967295 = crc32 s by unfold crc32; rw [hcr]; exact bits_xor_comm _ _ _]
  exact fin_ret1 rfl rfl tK sF (⟨rfl, rfl⟩) _ (.inl rfl)

set_option maxRecDepth 100000 in
set_option maxHeartbeats 1000000 in
theorem hex01_spec (s : List UInt8) (hs : s.length ≤ 100000000) : Spec Tryz.prog 31 #[str s] [] (Ret fun v hl => v = str (Sums.hex s) ∧ hl = []) := by
 refine Spec.enter Tryz.func31 rfl rfl rfl (fun F w0 => ?_)
 dsimp only [argL, List.cons_append, List.nil_append]
 refine CG.sr (G.as ?_)
 refine G.nil (EN.tsr (G.as ?_))
 refine G.nil (EN.ts (CG.sr (G.as ?_)))
 refine G.nil (EN.then (CG.block (CG.loopI (fun m L H => ∃ k : Nat, k ≤ s.length ∧ m = s.length - k ∧ L = [(0, str s), (3, str (Sums.hex (s.take k))), (4, .int .i64 k)] ∧ H = F) (s.length - 0) (⟨0, Nat.zero_le _, rfl, by rw [List.take_zero, hex_nil], rfl⟩) sB rfl tK sF ?_)))
 rintro m L H ⟨k, hk, rfl, rfl, rfl⟩
 try dsimp only [List.cons_append, List.nil_append]
 refine CG.seq (CG.sr (G.mv ?_))
 refine G.mv ?_
 refine G.q rfl rfl rfl rfl (q_len_str rfl rfl us_9_F1) (G.q rfl rfl rfl rfl (q_lss rfl rfl rfl) (G.nil (EN.then ?_)))
 refine CG.cond rfl (fun h9 => ?_) (fun h9 => ?_)
 ·
  obtain ⟨c, hc⟩ := get_some (l := s) (k := k) oM
  have hs2 := take_snoc hc
  have hc8 := u8_lt c
  have hxl := Sums.hex_len (s.take k)
  rw [List.length_take, Nat.min_eq_left oM] at hxl
  have hd1 := hex_digit (n := c.toNat / 16) oM
  have hd2 := hex_digit (n := c.toNat % 16) oM
  have hxs : Sums.hex (s.take k) ++ ([Sums.hexDigit (c.toNat / 16)] ++ [Sums.hexDigit (c.toNat % 16)]) = Sums.hex (s.take (k + 1)) := by rw [hs2, Sums.hex_snoc]; rfl
  have eq1 : (c.toNat : Int) / 16 = ((c.toNat / 16 : Nat) : Int) := by omega
  have er1 : (c.toNat : Int) % 16 = ((c.toNat % 16 : Nat) : Int) := by omega
  refine CG.skip (EN.ts (CG.block (CG.sr (G.mv ?_))))
  refine G.mv ?_
  refine G.q rfl rfl rfl rfl (q_index rfl rfl rfl us_9_F1 (hc)) (G.as ?_)
  refine G.nil (EN.then ?_)
  refine CG.regT [] mixed (by kernel_rfl) ?_
  refine G.mv ?_
  refine G.mv ?_
  refine G.q rfl rfl rfl rfl (q_quo rfl rfl rfl oM) (G.mv ?_)
  refine G.q rfl rfl rfl rfl (q_quo rfl rfl rfl oM) ?_
  rw [quo_u8 (x := c.toNat) oM oM, eq1]
  refine G.q rfl rfl rfl rfl (q_addw rfl rfl rfl lOm lOm) ?_
  rw [show ((c.toNat / 16 : Nat) : Int) + 1 = ((c.toNat / 16 + 1 : Nat) : Int) by omega]
  refine G.q rfl rfl rfl rfl (q_slice_lh rfl rfl rfl rfl us_9_F1 (by simp; omega)) (G.mv ?_)
  refine G.q rfl rfl rfl rfl (q_rem_n rfl rfl rfl oM) (G.mv ?_)
  refine G.q rfl rfl rfl rfl (q_rem_n rfl rfl rfl oM) ?_
  rw [er1]
  refine G.q rfl rfl rfl rfl (q_addw rfl rfl rfl lOm lOm) ?_
  rw [show ((c.toNat % 16 : Nat) : Int) + 1 = ((c.toNat % 16 + 1 : Nat) : Int) by omega]
  refine G.q rfl rfl rfl rfl (q_slice_lh rfl rfl rfl rfl us_9_F1 (by simp; omega)) ?_
  rw [hd1, hd2]
  refine G.q rfl rfl rfl rfl (q_add_s rfl rfl rfl (by simp)) (G.q rfl rfl rfl rfl (q_add_s rfl rfl rfl (by simp [Sums.hex_len]; omega)) (G.as ?_))
  refine G.nil (EN.sub (sC 0 (sC 3 (sC 4 Sub.nil))) ?_)
  refine EN.in_normal (EN.tr ?_)
  refine G.mv ?_
  refine G.q rfl rfl rfl rfl (q_add_i rfl rfl rfl oM) (G.as ?_)
  refine G.nil ?_
  rw [hxs]
  exact EN.round (s.length - (k + 1)) oM (⟨k + 1, by omega, rfl, rfl, rfl⟩) sB rfl tK sF
 ·
  obtain rfl : k = s.length := by omega
  rw [List.take_length]
  refine CG.exit ?_
  refine EN.then_exit (EN.then_exit (EN.in_here ?_))
  refine EN.tsr (G.mv ?_)
  refine G.as ?_
  refine G.nil (EN.then (CG.ret ?_))
  exact fin_ret1 rfl rfl tK sF (⟨rfl, rfl⟩) _ (.inl rfl)

set_option maxRecDepth 100000 in
set_option maxHeartbeats 1000000 in
theorem head06_spec (c f : UInt8) : Spec Tryz.prog 57 #[.int .i64 c.toNat, .int .i64 f.toNat] [] (Ret fun v hl => v = .bool (zhead c f) ∧ hl = []) := by
 have hc := u8_lt c
 have hf := u8_lt f
 refine Spec.enter Tryz.func57 rfl rfl rfl (fun F w0 => ?_)
 dsimp only [argL, List.cons_append, List.nil_append]
 refine CG.sr (G.as ?_)
 refine G.nil (EN.tsr (G.mv ?_))
 refine G.q rfl rfl rfl rfl (q_rem_n rfl rfl rfl oM) (G.q rfl rfl rfl rfl (q_eql rfl rfl rfl) (G.mv ?_))
 refine G.split (t := 8) rfl (fun g8 => ?_) (fun g8 => ?_)
 ·
  refine G.mv ?_
  refine G.q rfl rfl rfl rfl (q_quo_i rfl rfl rfl oM) (G.q rfl rfl rfl rfl (q_leq rfl rfl rfl) (G.q rfl rfl rfl rfl (q_pick_t rfl rfl rfl) (G.mv ?_)))
  refine G.split (t := 13) rfl (fun g13 => ?_) (fun g13 => ?_)
  ·
   refine G.mv ?_
   refine G.q rfl rfl rfl rfl (q_mul_i rfl rfl rfl oM) (G.mv ?_)
   refine G.q rfl rfl rfl rfl (q_add_i rfl rfl rfl oM) (G.q rfl rfl rfl rfl (q_rem_n rfl rfl rfl oM) (G.q rfl rfl rfl rfl (q_eql rfl rfl rfl) (G.q rfl rfl rfl rfl (q_pick_t rfl rfl rfl) (G.mv ?_))))
   refine G.split (t := 21) rfl (fun g21 => ?_) (fun g21 => ?_)
   ·
    refine G.mv ?_
    refine G.q rfl rfl rfl rfl (q_quo_i rfl rfl rfl oM) (G.q rfl rfl rfl rfl (q_rem_n rfl rfl rfl oM) (G.q rfl rfl rfl rfl (q_eql rfl rfl rfl) (G.q rfl rfl rfl rfl (q_pick_t rfl rfl rfl) (G.as ?_))))
    refine G.nil (EN.sub (sC 4 Sub.nil) ?_)
    refine EN.then (CG.ret ?_)
    have e := (head06 c f).trans (zhead_t g8 g13 oM)
    exact fin_ret1 rfl rfl tK sF (⟨congrArg Value.bool e, rfl⟩) _ (.inl rfl)
   ·
    refine G.skip rfl rfl rfl (G.skip rfl rfl rfl (G.skip rfl rfl rfl (G.skip rfl rfl rfl (G.q rfl rfl rfl rfl (q_pick_f rfl rfl rfl) (G.as ?_)))))
    refine G.nil (EN.sub (sC 4 Sub.nil) ?_)
    refine EN.then (CG.ret ?_)
    have e := zhead_f (c := c) (f := f) oM
    exact fin_ret1 rfl rfl tK sF (⟨congrArg Value.bool e, rfl⟩) _ (.inl rfl)
  ·
   refine G.skip rfl rfl rfl (G.skip rfl rfl rfl (G.skip rfl rfl rfl (G.skip rfl rfl rfl (G.skip rfl rfl rfl (G.skip rfl rfl rfl ?_)))))
   refine G.q rfl rfl rfl rfl (q_pick_f rfl rfl rfl) (G.mv ?_)
   refine G.skip rfl rfl rfl (G.skip rfl rfl rfl (G.skip rfl rfl rfl (G.skip rfl rfl rfl (G.q rfl rfl rfl rfl (q_pick_f rfl rfl rfl) (G.as ?_)))))
   refine G.nil (EN.sub (sC 4 Sub.nil) ?_)
   refine EN.then (CG.ret ?_)
   have e := zhead_f (c := c) (f := f) oM
   exact fin_ret1 rfl rfl tK sF (⟨congrArg Value.bool e, rfl⟩) _ (.inl rfl)
 ·
  refine G.skip rfl rfl rfl (G.skip rfl rfl rfl (G.skip rfl rfl rfl (G.q rfl rfl rfl rfl (q_pick_f rfl rfl rfl) (G.mv ?_))))
  refine G.skip rfl rfl rfl (G.skip rfl rfl rfl (G.skip rfl rfl rfl (G.skip rfl rfl rfl (G.skip rfl rfl rfl (G.skip rfl rfl rfl ?_)))))
  refine G.q rfl rfl rfl rfl (q_pick_f rfl rfl rfl) (G.mv ?_)
  refine G.skip rfl rfl rfl (G.skip rfl rfl rfl (G.skip rfl rfl rfl (G.skip rfl rfl rfl (G.q rfl rfl rfl rfl (q_pick_f rfl rfl rfl) (G.as ?_)))))
  refine G.nil (EN.sub (sC 4 Sub.nil) ?_)
  refine EN.then (CG.ret ?_)
  have e := zhead_f (c := c) (f := f) oM
  exact fin_ret1 rfl rfl tK sF (⟨congrArg Value.bool e, rfl⟩) _ (.inl rfl)

set_option maxRecDepth 100000 in
set_option maxHeartbeats 1000000 in
theorem read06_spec (hL : InflLaw) (s : List UInt8) (at_ most : Nat) (hs : s.length ≤ 100000000) (ha : at_ ≤ s.length) (hm : most ≤ 65536) : Spec Tryz.prog 32 #[str s, .int .i64 at_, .int .i64 most] [] (Ret fun v hl => v = inflV (zread s at_ most) ∧ hl = []) := by
 obtain ⟨Z, hZ⟩ : ∃ Z, zread s at_ most = Z := ⟨_, rfl⟩
 have hE := hZ
 rw [hZ]
 unfold zread at hE
 refine Spec.enter Tryz.func32 rfl rfl rfl (fun F w0 => ?_)
 dsimp only [argL, List.cons_append, List.nil_append]
 refine CG.sr (G.as ?_)
 refine G.as ?_
 refine G.as ?_
 refine G.nil (EN.ts (CG.sr (G.mv ?_)))
 refine G.q rfl rfl rfl rfl (q_lss rfl rfl rfl) (G.mv ?_)
 refine G.split (t := 15) rfl (fun g15 => absurd g15 oM) (fun g15 => ?_)
 refine G.mv ?_
 refine G.mv ?_
 refine G.q rfl rfl rfl rfl (q_len_str rfl rfl us_9_F1) (G.q rfl rfl rfl rfl (q_gtr rfl rfl rfl) (G.q rfl rfl rfl rfl (q_pick_f rfl rfl rfl) (G.mv ?_)))
 refine G.split (t := 21) rfl (fun g21 => absurd g21 oM) (fun g21 => ?_)
 refine G.mv ?_
 refine G.q rfl rfl rfl rfl (q_lss rfl rfl rfl) (G.q rfl rfl rfl rfl (q_pick_f rfl rfl rfl) (G.mv ?_))
 refine G.split (t := 25) rfl (fun g25 => absurd g25 oM) (fun g25 => ?_)
 refine G.mv ?_
 refine G.q rfl rfl rfl rfl (q_gtr rfl rfl rfl) (G.q rfl rfl rfl rfl (q_pick_f rfl rfl rfl) (G.nil (EN.sub (sC 0 (sC 1 (sC 2 (sC 6 (sC 7 (sC 8 (sC 28 Sub.nil))))))) ?_)))
 refine EN.then ?_
 refine CG.cond rfl (fun h28 => absurd h28 oM) (fun h28 => ?_)
 refine CG.skip (EN.ts (CG.sr (G.mv ?_)))
 refine G.q rfl rfl rfl rfl (q_len_str rfl rfl us_9_F1) (G.mv ?_)
 refine G.q rfl rfl rfl rfl (q_sub_i rfl rfl rfl oM) (G.q rfl rfl rfl rfl (q_lss rfl rfl rfl) (G.nil (EN.then ?_)))
 refine CG.cond rfl (fun h33 => ?_) (fun h33 => ?_)
 ·
  rw [if_pos oM] at hE
  refine CG.sr (G.as ?_)
  refine G.as ?_
  refine G.as ?_
  refine G.nil (EN.then (CG.ret (EN.then_ret ?_)))
  rw [← hE]
  try unfold inflV
  try dsimp only
  exact fin_ret3 rfl rfl rfl rfl tK sF (⟨rfl, rfl⟩) _ (.inl rfl)
 ·
  rw [if_neg oM] at hE
  have h0 := getD_u8 (S := s) (i := at_) oM
  have h1 := getD_u8 (S := s) (i := at_ + 1) oM
  have e1 : ((at_ : Int) + 1) = ((at_ + 1 : Nat) : Int) := by omega
  have e2 : ((at_ : Int) + 2) = ((at_ + 2 : Nat) : Int) := by omega
  have hx0 := hL s (at_ + 2) most hs oM hm
  have hxu : (Infl.inflate s (at_ + 2) most).2.1 ≤ s.length - (at_ + 2) := infl_used2 s oM (at_ + 2) most oM
  have hxl := Infl.inflate_len s oM (at_ + 2) most
  obtain ⟨x, hx⟩ : ∃ x, Infl.inflate s (at_ + 2) most = x := ⟨_, rfl⟩
  rw [hx] at hE hxl hxu hx0
  obtain ⟨c0, hc0⟩ : ∃ c, s.getD at_ 0 = c := ⟨_, rfl⟩
  obtain ⟨c1, hc1⟩ : ∃ c, s.getD (at_ + 1) 0 = c := ⟨_, rfl⟩
  rw [hc0] at h0 hE
  rw [hc1] at h1 hE
  have hb0 := u8_lt c0
  have hb1 := u8_lt c1
  refine CG.skip (EN.ts (CG.seq ?_))
  refine CG.regT [37, 42] mixed (by kernel_rfl) ?_
  refine G.mv ?_
  refine G.mv ?_
  refine G.q rfl rfl rfl rfl (q_index rfl rfl rfl us_9_F1 (h0)) (G.q rfl rfl rfl rfl (q_conv_in rfl rfl is_5_F1 ik_3_F43 (wrap64_in oM)) (G.mv ?_))
  refine G.mv ?_
  refine G.q rfl rfl rfl rfl (q_add_i rfl rfl rfl oM) ?_
  rw [e1]
  refine G.q rfl rfl rfl rfl (q_index rfl rfl rfl us_9_F1 (h1)) (G.q rfl rfl rfl rfl (q_conv_in rfl rfl is_5_F1 ik_3_F43 (wrap64_in oM)) (G.call (xs := [_, _]) rfl rfl (head06_spec c0 c1) bd_57_F43 rfl rfl rfl rfl tK (fun _ _ _ _ _ _ => trivial) ?_))
  rintro _ _ ⟨rfl, rfl⟩
  try dsimp only [List.cons_append, List.nil_append]
  refine G.q rfl rfl rfl rfl (q_not rfl rfl) (G.nil (EN.sub (sC 0 (sC 1 (sC 2 (sC 6 (sC 7 (sC 8 (sC 44 Sub.nil))))))) ?_))
  refine EN.then ?_
  refine CG.condB rfl (fun h44 => ?_) (fun h44 => ?_)
  ·
   rw [if_pos (by simpa using h44)] at hE
   refine CG.sr (G.as ?_)
   refine G.as ?_
   refine G.as ?_
   refine G.nil (EN.then (CG.ret (EN.then_ret ?_)))
   rw [← hE]
   try unfold inflV
   try dsimp only
   exact fin_ret3 rfl rfl rfl rfl tK sF (⟨rfl, rfl⟩) _ (.inl rfl)
  ·
   rw [if_neg (by simpa using h44)] at hE
   refine CG.skip (EN.tsr (G.mv ?_))
   refine G.mv ?_
   refine G.q rfl rfl rfl rfl (q_add_i rfl rfl rfl oM) (G.mv ?_)
   rw [e2]
   refine G.call (xs := [_, _, _]) rfl rfl (rinflate_spec s (at_ + 2) most hs oM hm) bd_58_F43 rfl rfl rfl rfl tK (fun _ _ _ _ _ _ => trivial) ?_
   rintro _ _ ⟨rfl, rfl⟩
   rw [hx0]
   try dsimp only [List.cons_append, List.nil_append]
   refine G.mv ?_
   refine G.q rfl rfl rfl rfl (q_extract rfl rfl rfl) (G.q rfl rfl rfl rfl (q_extract rfl rfl rfl) (G.q rfl rfl rfl rfl (q_extract rfl rfl rfl) (G.as ?_)))
   refine G.as ?_
   refine G.as ?_
   refine G.nil (EN.sub (sC 0 (sC 1 (sC 6 (sC 7 (sC 8 (sC 9 (sC 10 (sC 11 Sub.nil)))))))) ?_)
   refine EN.ts (CG.sr (G.mv ?_))
   refine G.q rfl rfl rfl rfl (q_neq rfl rfl rfl) (G.nil (EN.then ?_))
   refine CG.cond rfl (fun h55 => ?_) (fun h55 => ?_)
   ·
    rw [if_pos oM] at hE
    refine CG.sr (G.mv ?_)
    refine G.as ?_
    refine G.as ?_
    refine G.as ?_
    refine G.nil (EN.then (CG.ret (EN.then_ret ?_)))
    rw [← hE]
    try unfold inflV
    try dsimp only
    exact fin_ret3 rfl rfl rfl rfl tK sF (⟨rfl, rfl⟩) _ (.inl rfl)
   ·
    rw [if_neg oM] at hE
    have e12 : ((at_ : Int) + 2 + x.2.1) = ((at_ + 2 + x.2.1 : Nat) : Int) := by omega
    have hal := Sums.adler_lt x.1
    refine CG.skip (EN.tsr (G.mv ?_))
    refine G.mv ?_
    refine G.q rfl rfl rfl rfl (q_add_i rfl rfl rfl oM) (G.mv ?_)
    refine G.q rfl rfl rfl rfl (q_add_i rfl rfl rfl oM) ?_
    rw [e12]
    refine G.q rfl rfl rfl rfl (q_slice_lo rfl rfl rfl us_9_F1 oM) (G.as ?_)
    refine G.nil (EN.sub (sC 6 (sC 7 (sC 8 (sC 9 (sC 10 (sC 12 Sub.nil)))))) ?_)
    refine EN.ts (CG.sr (G.mv ?_))
    refine G.q rfl rfl rfl rfl (q_len_str rfl rfl us_9_F1) (G.q rfl rfl rfl rfl (q_lss rfl rfl rfl) (G.nil (EN.then ?_)))
    refine CG.cond rfl (fun h65 => ?_) (fun h65 => ?_)
    ·
     rw [List.length_drop] at h65
     rw [if_pos oM] at hE
     refine CG.sr (G.as ?_)
     refine G.as ?_
     refine G.as ?_
     refine G.nil (EN.then (CG.ret (EN.then_ret ?_)))
     rw [← hE]
     try unfold inflV
     try dsimp only
     exact fin_ret3 rfl rfl rfl rfl tK sF (⟨rfl, rfl⟩) _ (.inl rfl)
    ·
     rw [List.length_drop] at h65
     rw [if_neg oM] at hE
     have hbi := big_inv (l := (s.drop (at_ + 2 + x.2.1)).take 4) (by simp; omega) hal.1 hal.2
     have hdt : (s.take (at_ + 2 + x.2.1 + 4)).drop (at_ + 2 + x.2.1) = (s.drop (at_ + 2 + x.2.1)).take 4 := by rw [List.drop_take]; congr 1; omega
     rw [hdt] at hE
     refine CG.skip (EN.ts (CG.seq ?_))
     refine CG.regT [70] mixed (by kernel_rfl) ?_
     refine G.mv ?_
     refine G.q rfl rfl rfl rfl (q_slice_hi rfl rfl rfl us_9_F1 (by simp; omega)) (G.mv ?_)
     refine G.call (xs := [_]) rfl rfl (adler01_spec x.1 oM) bd_60_F43 rfl rfl rfl rfl tK (fun _ _ _ _ _ _ => trivial) ?_
     rintro _ _ ⟨rfl, rfl⟩
     try dsimp only [List.cons_append, List.nil_append]
     refine G.q rfl rfl rfl rfl (q_conv_in rfl rfl is_28_F2 ik_58_F43 (wrap_lim oM lOm)) (G.call (xs := [_, _]) rfl rfl (big01_spec (Sums.adler x.1) 4 hal.1 oM (by decide)) bd_59_F43 rfl rfl rfl rfl tK (fun _ _ _ _ _ _ => trivial) ?_)
     rintro _ _ ⟨rfl, rfl⟩
     try dsimp only [List.cons_append, List.nil_append]
     refine G.q rfl rfl rfl rfl (q_neq_s rfl rfl rfl) (G.nil (EN.sub (sC 6 (sC 7 (sC 8 (sC 9 (sC 10 (sC 72 Sub.nil)))))) ?_))
     refine EN.then ?_
     refine CG.cond rfl (fun h72 => ?_) (fun h72 => ?_)
     ·
      rw [if_pos (fun h => h72 (hbi.2 h))] at hE
      refine CG.sr (G.as ?_)
      refine G.as ?_
      refine G.as ?_
      refine G.nil (EN.then (CG.ret (EN.then_ret ?_)))
      rw [← hE]
      try unfold inflV
      try dsimp only
      exact fin_ret3 rfl rfl rfl rfl tK sF (⟨rfl, rfl⟩) _ (.inl rfl)
     ·
      rw [if_neg (fun h => h (hbi.1 (Decidable.byContradiction fun h2 => h72 h2)))] at hE
      refine CG.skip (EN.tsr (G.mv ?_))
      refine G.mv ?_
      refine G.q rfl rfl rfl rfl (q_add_i rfl rfl rfl oM) (G.as ?_)
      refine G.as ?_
      refine G.as ?_
      refine G.nil (EN.then (CG.ret ?_))
      rw [← hE]
      try unfold inflV
      try dsimp only
      exact fin_ret3 rfl rfl rfl rfl tK sF (⟨rfl, rfl⟩) _ (.inl rfl)

end Go.Eng
/-
  Plain: the reference's inflate gives what the program's gives. No program in sight.
-/
set_option linter.unusedVariables false
set_option linter.unusedSimpArgs false
namespace Go.Eng
namespace Sm
open Dec
section
variable {S : List UInt8} {a : Nat}
theorem cl_sim : ∀ (os : List Nat) (r : RD) (out : List UInt8) (f : List Nat) (s : RI.St), Sim S a r out s →
    ((Infl.clGo os r f).2.2 = true ∧ ∃ s', RI.clGo (bb (S.drop a)) os f s = ((Infl.clGo os r f).2.1, s') ∧ Sim S a (Infl.clGo os r f).1 out s') ∨
    ((Infl.clGo os r f).2.2 = false ∧ ∃ f' s', RI.clGo (bb (S.drop a)) os f s = (f', s') ∧ s'.err = 6)
  | [], r, out, f, s, h => .inl ⟨rfl, s, rfl, h⟩
  | o :: os, r, out, f, s, h => by
    rw [RI.clGo, if_neg (by rw [h.err]; omega), Infl.clGo]
    rcases num h (n := 3) (by omega) with ⟨h1, s', h2, h3, _⟩ | ⟨h1, s', h2, h3⟩
    · rw [h2, h1, if_neg (by simp)]; exact cl_sim os _ out _ s' h3
    · rw [h2, h1, if_pos rfl, clGo_stop (by rw [h3]; omega)]
      exact .inr ⟨rfl, _, s', rfl, h3⟩
theorem cl_len : ∀ (os : List Nat) (r : RD) (f : List Nat), (∀ x ∈ f, x ≤ 15) → (Infl.clGo os r f).2.1.length = f.length ∧ ∀ x ∈ (Infl.clGo os r f).2.1, x ≤ 15
  | [], r, f, h => ⟨rfl, h⟩
  | o :: os, r, f, h => by
    rw [Infl.clGo]
    split
    · exact ⟨rfl, h⟩
    · have hb := RD.bits_lt r 3
      have := cl_len os (r.bits 3).1 (f.set o (r.bits 3).2.1) (by
        intro x hx
        rcases List.mem_or_eq_of_mem_set hx with h1 | h1
        · exact h x h1
        · omega)
      rw [List.length_set] at this; exact this
/-- lengths read alike -/
def LA (S : List UInt8) (a : Nat) (out : List UInt8) (P : RD × List Nat × Nat) (Q : List Nat × RI.St) : Prop :=
  (P.2.2 = 0 ∧ Q.1 = P.2.1 ∧ Sim S a P.1 out Q.2 ∧ ∀ x ∈ P.2.1, x ≤ 15) ∨ (P.2.2 ≠ 0 ∧ Q.2.err = P.2.2)
theorem rep_sim {t : List Nat} {total f : Nat} {out : List UInt8}
    (ih : ∀ (r : RD) (l : List Nat) (s : RI.St), Sim S a r out s → total + 1 ≤ l.length + f → l.length ≤ total → (∀ x ∈ l, x ≤ 15) → LA S a out (Infl.lensGo t total f r l) (RI.lensGo (bb (S.drop a)) (RI.codes t) total f l s))
    {q : RD} {s : RI.St} (h : Sim S a q out s) {l : List Nat} (hf : total + 1 ≤ l.length + (f + 1)) (hl : l.length ≤ total) (hl15 : ∀ x ∈ l, x ≤ 15) {bts least what : Nat} (hb : bts ≤ 32) (hle : 1 ≤ least) (hw : what ≤ 15) :
    LA S a out (Infl.repK total (Infl.lensGo t total f) q l bts least what)
      ((fun (y : Nat × RI.St) => (fun (z : List Nat × RI.St) => RI.lensGo (bb (S.drop a)) (RI.codes t) total f z.1 z.2) (RI.repA total (least + y.1) what l y.2)) (RI.number (bb (S.drop a)) bts s)) := by
  unfold Infl.repK
  rcases num h hb with ⟨h1, s', h2, h3, _⟩ | ⟨h1, s', h2, h3⟩
  · rw [h2, h1, if_neg (by simp)]
    dsimp only
    unfold RI.repA
    by_cases c : total < l.length + least + (q.bits bts).2.1
    · rw [if_pos c, failIf_t ⟨h3.err, by omega⟩, fail_eq h3.err]
      dsimp only
      rw [if_neg (by omega), lensGo_stop (.inr (by simp))]
      exact .inr ⟨by simp, rfl⟩
    · rw [if_neg c, failIf_f (fun x => c (by have := x.2; omega))]
      dsimp only
      rw [if_pos h3.err]
      refine ih _ _ _ h3 (by simp; omega) (by simp; omega) ?_
      intro x hx
      rcases List.mem_append.1 hx with h4 | h4
      · exact hl15 x h4
      · rw [(List.mem_replicate.1 h4).2]; exact hw
  · rw [h2, h1, if_pos rfl]
    dsimp only
    unfold RI.repA
    rw [failIf_f (fun x => by have := x.1; omega)]
    dsimp only
    rw [if_neg (by omega), lensGo_stop (.inr (by omega))]
    exact .inr ⟨by simp, h3⟩
theorem lens_sim {t : List Nat} (hg : Dec.Good t) (ht : t.length = 19) {total : Nat} {out : List UInt8} : ∀ (f : Nat) (r : RD) (l : List Nat) (s : RI.St), Sim S a r out s → total + 1 ≤ l.length + f → l.length ≤ total → (∀ x ∈ l, x ≤ 15) → LA S a out (Infl.lensGo t total f r l) (RI.lensGo (bb (S.drop a)) (RI.codes t) total f l s)
  | 0, r, l, s, _, h1, h2, _ => by omega
  | f + 1, r, l, s, h, hf, hl, hl15 => by
    rw [Infl.lensGo, RI.lensGo]
    by_cases c1 : total ≤ l.length
    · rw [if_pos c1, if_pos (.inl c1)]; exact .inl ⟨rfl, rfl, h, hl15⟩
    · rw [if_neg c1, if_neg (c := total ≤ l.length ∨ s.err ≠ 0) (by rintro (h1 | h1); exact c1 h1; exact h1 h.err)]
      rcases sym hg h with ⟨h1, s', h2, h3⟩ | ⟨h1, s', h2, h3⟩
      · have hv := (symbol_pos (cs := RI.codes t) h.pos).2.2 (by rw [codes_len]; omega)
        rw [h2, codes_len, ht] at hv
        rw [if_neg (c := (Huff.read t r).2.2 ≠ 0) (by omega), h2]
        obtain ⟨v, hve⟩ : ∃ v, (Huff.read t r).2.1 = v := ⟨_, rfl⟩
        rw [hve] at hv ⊢
        dsimp only at hv ⊢
        by_cases c2 : v < 16
        · rw [if_pos c2, if_neg (by omega), if_neg (by omega), if_neg (by omega)]
          unfold RI.repA
          rw [failIf_f (fun x => c1 (by have := x.2; omega))]
          dsimp only
          rw [if_pos h3.err]
          refine lens_sim hg ht f _ _ _ h3 (by simp; omega) (by simp; omega) ?_
          intro x hx
          rcases List.mem_append.1 hx with h4 | h4
          · exact hl15 x h4
          · rw [(List.mem_singleton.1 h4)]; omega
        · rw [if_neg c2]
          by_cases c3 : v = 16
          · rw [if_pos c3, if_pos c3]
            by_cases c4 : l.length = 0
            · rw [if_pos c4, if_pos c4]
              exact .inr ⟨by simp, by rw [fail_eq h3.err]⟩
            · rw [if_neg c4, if_neg c4]
              refine rep_sim (lens_sim hg ht f) h3 hf hl hl15 (by omega) (by omega) ?_
              obtain ⟨x, hx⟩ := get_some (l := l) (k := l.length - 1) (by omega)
              rw [List.getD_eq_getElem?_getD, hx]
              exact hl15 x (List.mem_of_getElem? hx)
          · rw [if_neg c3, if_neg c3]
            by_cases c4 : v = 17
            · rw [if_pos c4, if_pos c4]; exact rep_sim (lens_sim hg ht f) h3 hf hl hl15 (by omega) (by omega) (by omega)
            · rw [if_neg c4, if_neg c4, if_pos (by omega)]; exact rep_sim (lens_sim hg ht f) h3 hf hl hl15 (by omega) (by omega) (by omega)
      · rw [if_pos h1, h2]
        generalize Huff.read t r = x at h1 h2 h3 ⊢
        dsimp only
        rw [if_neg (by omega), if_neg (by omega), if_neg (by omega)]
        unfold RI.repA
        rw [failIf_f (fun x => h1 (by rw [← h3]; exact x.1))]
        dsimp only
        rw [if_neg (by rw [h3]; exact h1), lensGo_stop (.inr (by rw [h3]; exact h1))]
        exact .inr ⟨h1, h3⟩
theorem num_fit {B : List Bool} {s : RI.St} (h : s.err = 0) {n : Nat} (hl : s.pos + n ≤ B.length) : RI.number B n s = (RI.numB ((B.drop s.pos).take n), ⟨s.pos + n, s.out, 0⟩) := by
  unfold RI.number; rw [if_neg (by omega), if_neg (by omega), h]
theorem num_split {B : List Bool} {s : RI.St} (h : s.err = 0) {m n : Nat} (hl : s.pos + (m + n) ≤ B.length) :
    RI.number B m s = ((RI.number B (m + n) s).1 % 2 ^ m, ⟨s.pos + m, s.out, 0⟩) ∧ RI.number B n ⟨s.pos + m, s.out, 0⟩ = ((RI.number B (m + n) s).1 / 2 ^ m, (RI.number B (m + n) s).2) := by
  rw [num_fit h hl, num_fit h (n := m) (by omega), num_fit rfl (by simp only; omega)]
  dsimp only
  have e : (B.drop s.pos).take (m + n) = (B.drop s.pos).take m ++ (B.drop (s.pos + m)).take n := by rw [List.take_add, List.drop_drop]
  have hlen : ((B.drop s.pos).take m).length = m := by simp; omega
  have hlt := numB_lt ((B.drop s.pos).take m)
  rw [hlen] at hlt
  rw [e, numB_app, hlen, Nat.add_mul_mod_self_left, Nat.mod_eq_of_lt hlt, Nat.add_mul_div_left _ _ (Nat.pow_pos (by decide)), Nat.div_eq_of_lt hlt, Nat.zero_add, Nat.add_assoc]
  exact ⟨rfl, rfl⟩
def DA (S : List UInt8) (a : Nat) (out : List UInt8) (P : Infl.Tabs) (Q : RI.Dyn) : Prop :=
  (P.err = 0 ∧ Q.1 = P.lit ∧ Q.2.1 = P.dist ∧ Sim S a P.r out Q.2.2 ∧ Dec.Good P.lit ∧ Dec.Good P.dist) ∨ (P.err ≠ 0 ∧ Q.2.2.err = P.err)
theorem dyn_sim {r : RD} {out : List UInt8} {s : RI.St} (h : Sim S a r out s) : DA S a out (Infl.tables r) (RI.dynamic (bb (S.drop a)) s) := by
  have hp := h.pos
  obtain ⟨B, hB⟩ : ∃ B, bb (S.drop a) = B := ⟨_, rfl⟩
  unfold Infl.tables RI.dynamic
  dsimp only
  rcases num h (n := 14) (by omega) with ⟨h1, s', h2, h3, h4⟩ | ⟨h1, s', h2, h3⟩
  · rw [h1, if_neg (by simp)]
    have hfit : s.pos + 14 ≤ B.length := by have := h3.pos; rw [hB] at this; omega
    rw [failIf_f (fun x => by have := x.2; rw [hB] at this; omega)]
    have hx := RD.bits_lt r 14
    have g1 := num_split (B := B) h.err (m := 5) (n := 9) (by omega)
    have g2 := num_split (B := B) (s := ⟨s.pos + 5, s.out, 0⟩) rfl (m := 5) (n := 4) (by simp only; omega)
    rw [hB] at h2
    rw [show 5 + 9 = 14 from rfl, h2] at g1
    rw [show 5 + 4 = 9 from rfl, g1.2] at g2
    dsimp only at g1 g2
    rw [hB, g1.1]; dsimp only
    rw [g2.1]; dsimp only
    rw [g2.2]; dsimp only
    obtain ⟨x, hxe⟩ : ∃ x, (r.bits 14).2.1 = x := ⟨_, rfl⟩
    rw [hxe] at hx ⊢
    rw [show x / 2 ^ 5 / 2 ^ 5 = x / 1024 by omega, show (2 : Nat) ^ 5 = 32 from rfl]
    unfold RI.dyn1
    by_cases c1 : 286 < x % 32 + 257 ∨ 30 < x / 32 % 32 + 1
    · rw [if_pos c1, failIf_t ⟨h3.err, c1⟩, fail_eq h3.err]
      have key : ∀ (nl nd nc : Nat) (q : RI.St), q.err ≠ 0 → RI.dyn2 B nl nd nc q = ([], [], q) := by
        intro nl nd nc q hq
        unfold RI.dyn2
        rw [clGo_stop hq]; dsimp only
        rw [failIf_f (fun x => hq x.1)]
        unfold RI.dyn3; rw [if_pos hq]
      rw [key _ _ _ _ (by simp)]
      exact .inr ⟨by simp, rfl⟩
    · rw [if_neg c1, failIf_f (fun x => c1 x.2)]
      unfold RI.dyn2
      have hcl := cl_len (Infl.order.take (x / 1024 + 4)) (r.bits 14).1 (List.replicate 19 0) (fun y hy => by rw [(List.mem_replicate.1 hy).2]; omega)
      rw [List.length_replicate] at hcl
      have hcs := cl_sim (Infl.order.take (x / 1024 + 4)) (r.bits 14).1 out (List.replicate 19 0) s' h3
      obtain ⟨y, hy⟩ : ∃ y, Infl.clGo (Infl.order.take (x / 1024 + 4)) (r.bits 14).1 (List.replicate 19 0) = y := ⟨_, rfl⟩
      rw [hy] at hcl hcs ⊢
      rw [hB] at hcs
      rcases hcs with ⟨k1, s2, k2, k3⟩ | ⟨k1, f', s2, k2, k3⟩
      · rw [k1, if_neg (by simp), k2]; dsimp only
        by_cases c2 : Huff.bad y.2.1 = true
        · rw [if_pos c2, failIf_t ⟨k3.err, (chk (by omega) hcl.2).2 c2⟩, fail_eq k3.err]
          unfold RI.dyn3; rw [if_pos (by simp)]
          exact .inr ⟨by simp, rfl⟩
        · rw [if_neg c2, failIf_f (fun z => c2 ((chk (by omega) hcl.2).1 z.2))]
          have hg := good_of hcl.2 (by simpa using c2)
          unfold RI.dyn3
          rw [if_neg (c := s2.err ≠ 0) (by rw [k3.err]; omega)]
          have hL := lens_sim hg hcl.1 (total := x % 32 + 257 + (x / 32 % 32 + 1)) (x % 32 + 257 + (x / 32 % 32 + 1) + 1) y.1 [] s2 k3 (by simp) (by simp) (by simp)
          have hLn := Infl.lensGo_len y.2.1 (x % 32 + 257 + (x / 32 % 32 + 1)) (x % 32 + 257 + (x / 32 % 32 + 1) + 1) y.1 [] (by simp)
          rw [hB] at hL
          generalize Infl.lensGo y.2.1 (x % 32 + 257 + (x / 32 % 32 + 1)) (x % 32 + 257 + (x / 32 % 32 + 1) + 1) y.1 [] = z at hL hLn ⊢
          generalize RI.lensGo B (RI.codes y.2.1) (x % 32 + 257 + (x / 32 % 32 + 1)) (x % 32 + 257 + (x / 32 % 32 + 1) + 1) [] s2 = Z at hL ⊢
          unfold RI.dyn4
          rcases hL with ⟨l1, l2, l3, l4⟩ | ⟨l1, l2⟩
          · rw [if_neg (c := z.2.2 ≠ 0) (by omega), if_neg (c := Z.2.err ≠ 0) (by rw [l3.err]; omega), l2]
            have hn := hLn l1
            have t1 : ∀ w ∈ z.2.1.take (x % 32 + 257), w ≤ 15 := fun w hw => l4 w (List.mem_of_mem_take hw)
            have t2 : ∀ w ∈ z.2.1.drop (x % 32 + 257), w ≤ 15 := fun w hw => l4 w (List.mem_of_mem_drop hw)
            have c1' := chk (l := z.2.1.take (x % 32 + 257)) (by rw [List.length_take]; omega) t1
            have c2' := chk (l := z.2.1.drop (x % 32 + 257)) (by rw [List.length_drop]; omega) t2
            by_cases c3 : z.2.1.getD 256 0 = 0 ∨ Huff.bad (z.2.1.take (x % 32 + 257)) = true ∨ Huff.bad (z.2.1.drop (x % 32 + 257)) = true
            · rw [if_pos c3, if_pos (by rw [c1', c2']; exact c3), fail_eq l3.err]
              exact .inr ⟨by simp, rfl⟩
            · rw [if_neg c3, if_neg (by rw [c1', c2']; exact c3)]
              simp only [not_or] at c3
              exact .inl ⟨rfl, rfl, rfl, l3, good_of t1 (by simpa using c3.2.1), good_of t2 (by simpa using c3.2.2)⟩
          · rw [if_pos l1, if_pos (c := Z.2.err ≠ 0) (by rw [l2]; exact l1)]
            exact .inr ⟨l1, l2⟩
      · rw [k1, if_pos rfl, k2]; dsimp only
        rw [failIf_f (fun z => by have := z.1; omega)]
        unfold RI.dyn3; rw [if_pos (by omega)]
        exact .inr ⟨by simp, k3⟩
  · have hs6 : (bb (S.drop a)).length < s.pos + 14 := by
      rcases Nat.lt_or_ge (bb (S.drop a)).length (s.pos + 14) with c | c
      · exact c
      · rw [num_fit h.err c] at h2
        have := congrArg Prod.snd h2
        dsimp only at this
        rw [← this] at h3; cases h3
    rw [h1, if_pos rfl, failIf_t ⟨h.err, hs6⟩, fail_eq h.err, number_stop (by simp)]; dsimp only
    rw [number_stop (by simp)]; dsimp only
    rw [number_stop (by simp)]; dsimp only
    refine .inr ⟨by simp, ?_⟩
    unfold RI.dyn1
    rw [failIf_f (by simp)]
    unfold RI.dyn2
    rw [clGo_stop (by simp)]; dsimp only
    rw [failIf_f (by simp)]
    unfold RI.dyn3; rw [if_pos (by simp)]
theorem copy_sim {most back : Nat} : ∀ (k : Nat) (out : List UInt8) (s : RI.St), s.err = 0 → s.out = out → out.length ≤ most → (RI.copyR most back k s).err = (Infl.copyGo most back k out).2 ∧ ((Infl.copyGo most back k out).2 = 0 → RI.copyR most back k s = ⟨s.pos, (Infl.copyGo most back k out).1, 0⟩)
  | 0, out, s, h, ho, _ => by
    subst ho; exact ⟨h, fun _ => by show s = ⟨s.pos, s.out, 0⟩; rw [← h]⟩
  | k + 1, out, s, h, ho, hm => by
    rw [RI.copyR, if_neg (by omega), Infl.copyGo]
    unfold RI.put
    rw [if_neg (by omega), ho]
    by_cases c : out.length = most
    · rw [if_pos c, if_pos (by omega), copyR_stop (by simp)]
      exact ⟨rfl, fun h => by cases h⟩
    · rw [if_neg c, if_neg (by omega)]
      exact copy_sim k _ _ h rfl (by simp; omega)
theorem again_sim {ds : List Nat} (hg : Dec.Good ds) {c most : Nat} (hc : 257 ≤ c) {r : RD} {out : List UInt8} {s : RI.St} (h : Sim S a r out s) (ho : out.length ≤ most) :
    Ends S a (Infl.again ds most r out c) (if 285 < c then RI.fail 3 s else (fun (y : Nat × RI.St) => RI.pack3 (bb (S.drop a)) most ((Infl.lengthBase (c - 257)).1 + y.1) (RI.symbol (bb (S.drop a)) (RI.codes ds) y.2)) (RI.number (bb (S.drop a)) (Infl.lengthBase (c - 257)).2 s)) := by
  unfold Infl.again
  by_cases c1 : 285 < c
  · rw [if_pos c1, if_pos c1, fail_eq h.err]; exact ⟨rfl, fun h => by cases h⟩
  · rw [if_neg c1, if_neg c1]
    dsimp only
    have hB := Infl.lengthBase_le (i := c - 257) (by omega)
    obtain ⟨lb, hlb⟩ : ∃ lb, Infl.lengthBase (c - 257) = lb := ⟨_, rfl⟩
    rw [hlb] at hB ⊢
    have stop : ∀ (n : Nat) (q : Nat × RI.St), q.2.err ≠ 0 → (RI.pack3 (bb (S.drop a)) most n q) = q.2 := by
      intro n q hq
      unfold RI.pack3
      rw [failIf_f (fun x => hq x.1)]; dsimp only
      rw [if_pos hq]
    rcases num h (n := lb.2) (by omega) with ⟨h1, s1, h2, h3, _⟩ | ⟨h1, s1, h2, h3⟩
    · rw [h1, if_neg (by simp), h2]; dsimp only
      rcases sym hg h3 with ⟨k1, s2, k2, k3⟩ | ⟨k1, s2, k2, k3⟩
      · rw [if_neg (c := (Huff.read ds (r.bits lb.2).1).2.2 ≠ 0) (by omega), k2]
        generalize Huff.read ds (r.bits lb.2).1 = y at k1 k3 ⊢
        unfold RI.pack3
        by_cases c2 : 29 < y.2.1
        · rw [if_pos c2, failIf_t ⟨k3.err, c2⟩, fail_eq k3.err]; dsimp only
          rw [if_pos (by simp)]
          exact ⟨rfl, fun h => by cases h⟩
        · rw [if_neg c2, failIf_f (fun x => c2 x.2)]; dsimp only
          rw [if_neg (c := s2.err ≠ 0) (by rw [k3.err]; omega)]
          have hD := Infl.distBase_le (i := y.2.1) (by omega)
          obtain ⟨db, hdb⟩ : ∃ db, Infl.distBase y.2.1 = db := ⟨_, rfl⟩
          rw [hdb] at hD ⊢
          rcases num k3 (n := db.2) (by omega) with ⟨l1, s3, l2, l3, _⟩ | ⟨l1, s3, l2, l3⟩
          · rw [l1, if_neg (by simp), l2]; dsimp only
            by_cases c3 : out.length < db.1 + (y.1.bits db.2).2.1
            · rw [if_pos c3, failIf_t ⟨l3.err, by rw [l3.out]; exact c3⟩, fail_eq l3.err, copyR_stop (by simp)]
              exact ⟨rfl, fun h => by cases h⟩
            · rw [if_neg c3, failIf_f (fun x => c3 (by have := x.2; rw [l3.out] at this; exact this))]
              have hcp := copy_sim (most := most) (back := db.1 + (y.1.bits db.2).2.1) (lb.1 + (r.bits lb.2).2.1) out s3 l3.err l3.out ho
              refine ⟨hcp.1.symm, fun h0 => ?_⟩
              rw [hcp.2 h0]
              exact ⟨rfl, rfl, l3.ok, l3.den, l3.pos, l3.src, l3.frm⟩
          · rw [l1, if_pos rfl, l2]; dsimp only
            rw [failIf_f (fun x => by have := x.1; omega), copyR_stop (by omega)]
            exact ⟨l3.symm, fun h => by cases h⟩
      · rw [if_pos k1, k2]
        generalize Huff.read ds (r.bits lb.2).1 = y at k1 k3 ⊢
        rw [stop _ _ (by rw [k3]; exact k1)]
        exact ⟨k3.symm, fun h => absurd h k1⟩
    · rw [h1, if_pos rfl, h2]; dsimp only
      have : RI.symbol (bb (S.drop a)) (RI.codes ds) s1 = (0, s1) := by unfold RI.symbol; rw [if_pos (by omega)]
      rw [this, stop _ _ (by simp only; omega)]
      exact ⟨h3.symm, fun h => by cases h⟩
theorem syms_sim {ls ds : List Nat} (hgl : Dec.Good ls) (hgd : Dec.Good ds) {most : Nat} : ∀ (f : Nat) (r : RD) (out : List UInt8) (s : RI.St), Sim S a r out s → out.length ≤ most → r.left < f →
    Ends S a (Infl.symbols ls ds most f r out) (RI.packedGo (bb (S.drop a)) most (RI.codes ls) (RI.codes ds) f s)
  | 0, r, out, s, _, _, h => by omega
  | f + 1, r, out, s, h, ho, hf => by
    rw [Infl.symbols, RI.packedGo, if_neg (c := s.err ≠ 0) (by rw [h.err]; omega)]
    dsimp only
    have hrd := Huff.read_ok ls h.ok
    rcases sym hgl h with ⟨h1, s1, h2, h3⟩ | ⟨h1, s1, h2, h3⟩
    · rw [if_neg (c := (Huff.read ls r).2.2 ≠ 0) (by omega), h2]; dsimp only
      generalize Huff.read ls r = x at hrd h1 h3 ⊢
      by_cases c1 : x.2.1 = 256
      · rw [if_pos c1, if_pos (.inr c1)]
        exact ⟨h3.err.symm, fun _ => h3⟩
      · rw [if_neg c1, if_neg (c := s1.err ≠ 0 ∨ x.2.1 = 256) (by rintro (z | z); exact z h3.err; exact c1 z)]
        have hlt := hrd.2.2 h1
        by_cases c2 : x.2.1 < 256
        · rw [if_pos c2, if_pos c2]
          unfold RI.put
          rw [if_neg (c := s1.err ≠ 0) (by rw [h3.err]; omega), h3.out]
          by_cases c3 : out.length = most
          · rw [if_pos c3, if_pos (by omega), packedGo_stop (by simp)]
            exact ⟨rfl, fun h => by cases h⟩
          · rw [if_neg c3, if_neg (by omega)]
            exact syms_sim hgl hgd f _ _ _ ⟨h3.err, rfl, h3.ok, h3.den, h3.pos, h3.src, h3.frm⟩ (by simp; omega) (by omega)
        · rw [if_neg c2, if_neg c2]
          have hag := again_sim hgd (c := x.2.1) (most := most) (by omega) h3 ho
          have hal := Infl.again_ok (ds := ds) h3.ok ho (s := x.2.1) (by omega)
          generalize Infl.again ds most x.1 out x.2.1 = y at hag hal ⊢
          by_cases c4 : 285 < x.2.1
          · rw [if_pos c4] at hag ⊢
            rw [fail_eq h3.err] at hag ⊢
            have : y.2.2 = 3 := hag.1
            rw [if_pos (by omega)]; exact hag
          · rw [if_neg c4] at hag ⊢
            dsimp only at hag ⊢
            generalize RI.pack3 (bb (S.drop a)) most ((Infl.lengthBase (x.2.1 - 257)).1 + (RI.number (bb (S.drop a)) (Infl.lengthBase (x.2.1 - 257)).2 s1).1) (RI.symbol (bb (S.drop a)) (RI.codes ds) (RI.number (bb (S.drop a)) (Infl.lengthBase (x.2.1 - 257)).2 s1).2) = Z at hag ⊢
            by_cases c5 : y.2.2 ≠ 0
            · rw [if_pos c5, packedGo_stop (by rw [← hag.1]; exact c5)]; exact hag
            · rw [if_neg c5]
              exact syms_sim hgl hgd f _ _ _ (hag.2 (by omega)) hal.2.2 (by omega)
    · rw [if_pos h1, h2]; dsimp only
      generalize Huff.read ls r = x at h1 h3 ⊢
      rw [if_pos (.inl (by rw [h3]; exact h1))]
      exact ⟨h3.symm, fun h => absurd h h1⟩
theorem packed_sim {ls ds : List Nat} (hgl : Dec.Good ls) (hgd : Dec.Good ds) {most : Nat} {r : RD} {out : List UInt8} {s : RI.St} (h : Sim S a r out s) (ho : out.length ≤ most) :
    Ends S a (Infl.symbols ls ds most (r.left + 1) r out) (RI.packed (bb (S.drop a)) most ls ds s) := by
  have := h.left
  unfold RI.packed
  rw [show (bb (S.drop a)).length + 1 - s.pos = r.left + 1 by omega]
  exact syms_sim hgl hgd _ r out s h ho (by omega)
theorem block_sim (ha : a ≤ S.length) {most k : Nat} {r : RD} {out : List UInt8} {s : RI.St} (h : Sim S a r out s) (ho : out.length ≤ most) : Ends S a (Infl.block most k r out) (RI.block (bb (S.drop a)) most (k / 2) s) := by
  unfold Infl.block RI.block
  by_cases c0 : k / 2 = 0
  · rw [if_pos c0, if_pos c0]; exact stored_sim ha h ho
  · rw [if_neg c0, if_neg c0]
    by_cases c1 : k / 2 = 1
    · rw [if_pos c1, if_pos c1]; exact packed_sim good_fixLit good_fixDist h ho
    · rw [if_neg c1, if_neg c1]
      by_cases c2 : k / 2 = 2
      · rw [if_pos c2, if_pos c2]
        rcases dyn_sim h with ⟨d1, d2, d3, d4, d5, d6⟩ | ⟨d1, d2⟩
        · rw [if_neg (by omega)]
          dsimp only
          rw [if_neg (by rw [d4.err]; omega), d2, d3]
          exact packed_sim d5 d6 d4 ho
        · rw [if_pos d1]
          dsimp only
          rw [if_pos (by rw [d2]; exact d1)]
          exact ⟨d2.symm, fun h => absurd h d1⟩
      · rw [if_neg c2, if_neg c2, fail_eq h.err]; exact ⟨rfl, fun h => by cases h⟩
theorem run_sim (ha : a ≤ S.length) {most : Nat} : ∀ (g : Nat) (r : RD) (out : List UInt8) (s : RI.St), Sim S a r out s → out.length ≤ most → r.left < g → Ends S a (Infl.run most g r out) (RI.runGo (bb (S.drop a)) most g s)
  | 0, _, _, _, _, _, h => by omega
  | g + 1, r, out, s, h, ho, hg => by
    rw [Infl.run_succ, RI.runGo]
    rcases num h (n := 3) (by omega) with ⟨h1, s1, h2, h3, h4⟩ | ⟨h1, s1, h2, h3⟩
    · have hfit := h3.pos
      rw [h4] at hfit
      rw [h1, if_neg (by simp), failIf_f (fun x => by have := x.2; omega)]
      have g1 := num_split (B := bb (S.drop a)) h.err (m := 1) (n := 2) (by omega)
      rw [show 1 + 2 = 3 from rfl, h2] at g1
      dsimp only at g1
      rw [g1.1]; dsimp only
      rw [g1.2]; dsimp only
      rw [if_pos h3.err, show (2 : Nat) ^ 1 = 2 from rfl]
      have hb := block_sim ha (k := (r.bits 3).2.1) (most := most) h3 ho
      have hbo := Infl.block_ok (most := most) (h := (r.bits 3).2.1) h3.ok ho
      have hgb := (good_block (B := bb (S.drop a)) (most := most) (s := s1) (by rw [bb_len]; omega) (k := (r.bits 3).2.1 / 2)).1
      have hx := RD.bits_lt r 3
      generalize (r.bits 3).2.1 = x at hb hbo hgb hx ⊢
      generalize Infl.block most x (r.bits 3).1 out = y at hb hbo ⊢
      generalize RI.block (bb (S.drop a)) most (x / 2) s1 = z at hb hgb ⊢
      unfold Infl.cont
      by_cases c1 : y.2.2 ≠ 0
      · rw [if_pos c1, if_pos (.inl (by rw [← hb.1]; exact c1))]; exact hb
      · rw [if_neg c1]
        have hz := hb.2 (by omega)
        by_cases c2 : x % 2 = 0
        · rw [if_pos c2, if_neg (by rintro (q | q); exact q hz.err; omega)]
          have l1 := hz.left
          have l2 := h.left
          exact run_sim ha g _ _ _ hz hbo.2 (by omega)
        · rw [if_neg c2, if_pos (.inr (by omega))]
          exact ⟨hz.err.symm, fun _ => hz⟩
    · have hs6 : (bb (S.drop a)).length < s.pos + 3 := by
        rcases Nat.lt_or_ge (bb (S.drop a)).length (s.pos + 3) with c | c
        · exact c
        · rw [num_fit h.err c] at h2
          have := congrArg Prod.snd h2
          dsimp only at this
          rw [← this] at h3; cases h3
      rw [h1, if_pos rfl, failIf_t ⟨h.err, hs6⟩, fail_eq h.err, number_stop (by simp)]; dsimp only
      rw [number_stop (by simp)]; dsimp only
      rw [if_neg (c := (⟨s.pos, s.out, 6⟩ : RI.St).err = 0) (by simp), if_pos (.inl (by simp))]
      exact ⟨rfl, fun h => by cases h⟩
end
theorem infl_law : InflLaw := by
  intro S a most hs ha hm
  have h0 : Sim S a (RD.new S a) [] ⟨0, [], 0⟩ := by
    refine ⟨rfl, rfl, RD.new_ok (by omega) a, ?_, Nat.zero_le _, rfl, Nat.min_eq_left ha⟩
    show wb 0 0 ++ bb (S.drop (min a S.length)) = (bb (S.drop a)).drop 0
    rw [Nat.min_eq_left ha, wb_zero]; rfl
  have hl := h0.left
  rw [Nat.add_zero] at hl
  have hr := run_sim ha (most := most) ((RD.new S a).left + 1) _ _ _ h0 (Nat.zero_le _) (by omega)
  unfold RI.inflate Infl.inflate
  dsimp only
  rw [← hl]
  generalize Infl.run most ((RD.new S a).left + 1) (RD.new S a) [] = y at hr ⊢
  generalize RI.runGo (bb (S.drop a)) most ((RD.new S a).left + 1) ⟨0, [], 0⟩ = z at hr ⊢
  by_cases c : y.2.2 ≠ 0
  · rw [if_pos c, if_pos (by rw [← hr.1]; exact c), hr.1]
  · have hz := hr.2 (by omega)
    rw [if_neg c, if_neg (by rw [hz.err]; omega), hz.out]
    have h1 := hz.left
    have h2 := hz.ok.pos
    have h3 := hz.ok.begun
    have h4 := hz.frm
    have h5 := hz.src
    rw [bb_len, List.length_drop] at h1
    unfold RD.left at h1
    have : RI.up z.pos / 8 = y.1.used := by
      unfold RI.up RD.used
      rw [h5] at h1 h2
      omega
    rw [this]
end Sm
end Go.Eng
/-
  The reference (ref11): Head, Back, Read, All.
-/
set_option linter.unusedVariables false
set_option linter.unusedSimpArgs false
namespace Go.Eng
open Go.Proofs
theorem ik_3_F44 : intK Tryz.prog 3 = some .i64 := by kernel_rfl

def resH : Pk.Res (Nat × Nat × Nat) → Value
  | .err e => .tuple #[.int .i64 0, .int .i64 0, .int .i64 0, .int .i64 (e : Nat)]
  | .ok p => .tuple #[.int .i64 (p.1 : Nat), .int .i64 (p.2.1 : Nat), .int .i64 (p.2.2 : Nat), .int .i64 0]
def resB : Pk.Res (Nat × Nat) → Value
  | .err e => .tuple #[.int .i64 0, .int .i64 0, .int .i64 (e : Nat)]
  | .ok p => .tuple #[.int .i64 (p.1 : Nat), .int .i64 (p.2 : Nat), .int .i64 0]
/-- the reference's loops -/
def rhGo (s : List UInt8) (a : Nat) : Nat → Nat → Nat → Nat → Nat → Pk.Res (Nat × Nat × Nat)
  | 0, _, _, _, _ => .err 99
  | f + 1, i, k, n, u => if s.length ≤ a + i then .err 6 else if i = 5 then .err 3 else
    if i = 0 then (if (s.getD (a + i) 0).toNat < 128 then .ok ((s.getD (a + i) 0).toNat / 16 % 8, (s.getD (a + i) 0).toNat % 16, a + i + 1) else rhGo s a f (i + 1) ((s.getD (a + i) 0).toNat / 16 % 8) ((s.getD (a + i) 0).toNat % 16) 16)
    else (if (s.getD (a + i) 0).toNat < 128 then .ok (k, n + (s.getD (a + i) 0).toNat % 128 * u, a + i + 1) else rhGo s a f (i + 1) k (n + (s.getD (a + i) 0).toNat % 128 * u) (128 * u))
def finH (k : Nat) : Pk.Res (Nat × Nat) → Pk.Res (Nat × Nat × Nat)
  | .err e => .err e
  | .ok p => .ok (k, p.1, p.2)
theorem hgo_succ (s : List UInt8) (a f i k n u : Nat) : rhGo s a (f + 1) i k n u = if s.length ≤ a + i then .err 6 else if i = 5 then .err 3 else
    if i = 0 then (if (s.getD (a + i) 0).toNat < 128 then .ok ((s.getD (a + i) 0).toNat / 16 % 8, (s.getD (a + i) 0).toNat % 16, a + i + 1) else rhGo s a f (i + 1) ((s.getD (a + i) 0).toNat / 16 % 8) ((s.getD (a + i) 0).toNat % 16) 16)
    else (if (s.getD (a + i) 0).toNat < 128 then .ok (k, n + (s.getD (a + i) 0).toNat % 128 * u, a + i + 1) else rhGo s a f (i + 1) k (n + (s.getD (a + i) 0).toNat % 128 * u) (128 * u)) := rfl
theorem hgo_go (s : List UInt8) (a : Nat) : ∀ (m i k n c f : Nat), i + m = 6 → 1 ≤ i → i ≤ 5 → 128 ≤ c → s.length - (a + i) < f → rhGo s a m i k n (2 ^ (7 * i - 3)) = finH k (Pk.headGo s f c n (7 * i - 3) (a + i))
  | 0, i, _, _, _, _, h, _, h5, _, _ => by omega
  | m + 1, i, k, n, c, f, h, h1, h5, hc, hf => by
    obtain ⟨f, rfl⟩ : ∃ g, f = g + 1 := ⟨f - 1, by omega⟩
    rw [rhGo, Pk.headGo, if_neg (show ¬ c < 128 by omega)]
    by_cases hl : s.length ≤ a + i
    · rw [if_pos hl, List.getElem?_eq_none hl]; rfl
    · rw [if_neg hl, getD_u8 (S := s) (i := a + i) (by omega)]
      dsimp only
      by_cases h6 : i = 5
      · subst h6; rw [if_pos rfl, if_pos (by decide)]; rfl
      · rw [if_neg h6, if_neg (show ¬ i = 0 by omega), if_neg (show ¬ 25 < 7 * i - 3 by omega)]
        generalize (s.getD (a + i) 0).toNat = d
        by_cases hd : d < 128
        · rw [if_pos hd]
          obtain ⟨f, rfl⟩ : ∃ g, f = g + 1 := ⟨f - 1, by omega⟩
          rw [Pk.headGo, if_pos hd]; rfl
        · rw [if_neg hd, show 128 * 2 ^ (7 * i - 3) = 2 ^ (7 * (i + 1) - 3) by rw [show 7 * (i + 1) - 3 = 7 + (7 * i - 3) by omega, Nat.pow_add], show 7 * i - 3 + 7 = 7 * (i + 1) - 3 by omega]
          exact hgo_go s a m (i + 1) k _ d f (by omega) (by omega) (by omega) (by omega) (by omega)
theorem hgo_head (s : List UInt8) (a : Nat) : rhGo s a 6 0 0 0 1 = Pk.head s a := by
  rw [rhGo, Pk.head, Nat.add_zero]
  by_cases hl : s.length ≤ a
  · rw [if_pos hl, List.getElem?_eq_none hl]
  · rw [if_neg hl, if_neg (by decide), if_pos rfl, getD_u8 (S := s) (i := a) (by omega)]
    dsimp only
    generalize (s.getD a 0).toNat = c
    by_cases hc : c < 128
    · rw [if_pos hc, Pk.headGo, if_pos hc]
    · rw [if_neg hc, show (16 : Nat) = 2 ^ (7 * 1 - 3) by decide]
      rw [hgo_go s a 5 1 (c / 16 % 8) (c % 2 ^ (7 * 1 - 3)) c (s.length + 1) (by omega) (by omega) (by omega) (by omega) (by omega)]
      unfold finH
      rw [show 7 * 1 - 3 = 4 by decide, show (2 : Nat) ^ 4 = 16 by decide]
      cases Pk.headGo s (s.length + 1) c (c % 16) 4 (a + 1) <;> rfl
theorem hgo_bd (s : List UInt8) (a i u n c : Nat) (hu : u ≤ 2 ^ (7 * i)) (hi : i ≤ 4) (hn : n ≤ 2 ^ (7 * i)) : n + c % 128 * u ≤ 2 ^ (7 * (i + 1)) ∧ 128 * u ≤ 2 ^ (7 * (i + 1)) := by
  have e : 2 ^ (7 * (i + 1)) = 128 * 2 ^ (7 * i) := by rw [show 7 * (i + 1) = 7 + 7 * i by omega, Nat.pow_add]
  have h1 : c % 128 * u ≤ 127 * 2 ^ (7 * i) := Nat.mul_le_mul (by omega) hu
  omega
def rbGo (s : List UInt8) (a : Nat) : Nat → Nat → Nat → Pk.Res (Nat × Nat)
  | 0, _, _ => .err 99
  | f + 1, i, n => if 0 < i ∧ 16777216 < n then .err 3 else if s.length ≤ a + i then .err 6 else
    if (s.getD (a + i) 0).toNat < 128 then .ok ((if 0 < i then (n + 1) * 128 else n) + (s.getD (a + i) 0).toNat % 128, a + i + 1) else rbGo s a f (i + 1) ((if 0 < i then (n + 1) * 128 else n) + (s.getD (a + i) 0).toNat % 128)
theorem bgo_succ (s : List UInt8) (a f i n : Nat) : rbGo s a (f + 1) i n = if 0 < i ∧ 16777216 < n then .err 3 else if s.length ≤ a + i then .err 6 else
    if (s.getD (a + i) 0).toNat < 128 then .ok ((if 0 < i then (n + 1) * 128 else n) + (s.getD (a + i) 0).toNat % 128, a + i + 1) else rbGo s a f (i + 1) ((if 0 < i then (n + 1) * 128 else n) + (s.getD (a + i) 0).toNat % 128) := rfl
theorem bgo_go (s : List UInt8) (a : Nat) : ∀ (m i n c f : Nat), 1 ≤ i → 128 ≤ c → s.length - (a + i) < m → s.length - (a + i) < f → rbGo s a m i n = Pk.backGo s f c n (a + i)
  | 0, _, _, _, _, _, _, h, _ => by omega
  | m + 1, i, n, c, f, h1, hc, hm, hf => by
    obtain ⟨f, rfl⟩ : ∃ g, f = g + 1 := ⟨f - 1, by omega⟩
    rw [rbGo, Pk.backGo, if_neg (show ¬ c < 128 by omega)]
    by_cases h3 : 16777216 < n
    · rw [if_pos ⟨by omega, h3⟩, if_pos h3]
    · rw [if_neg (fun h => h3 h.2), if_neg h3]
      by_cases hl : s.length ≤ a + i
      · rw [if_pos hl, List.getElem?_eq_none hl]
      · rw [if_neg hl, getD_u8 (S := s) (i := a + i) (by omega), if_pos (show 0 < i by omega)]
        dsimp only
        generalize (s.getD (a + i) 0).toNat = d
        by_cases hd : d < 128
        · rw [if_pos hd]
          obtain ⟨f, rfl⟩ : ∃ g, f = g + 1 := ⟨f - 1, by omega⟩
          rw [Pk.backGo, if_pos hd]
        · rw [if_neg hd]
          exact bgo_go s a m (i + 1) _ d f (by omega) (by omega) (by omega) (by omega)
theorem bgo_back (s : List UInt8) (a : Nat) : rbGo s a (s.length + 1) 0 0 = Pk.back s a := by
  rw [rbGo, Pk.back, if_neg (show ¬ (0 < 0 ∧ 16777216 < 0) by omega), Nat.add_zero]
  by_cases hl : s.length ≤ a
  · rw [if_pos hl, List.getElem?_eq_none hl]
  · rw [if_neg hl, getD_u8 (S := s) (i := a) (by omega)]
    dsimp only
    rw [if_neg (show ¬ 0 < 0 by omega), Nat.zero_add]
    generalize (s.getD a 0).toNat = c
    by_cases hc : c < 128
    · rw [if_pos hc, Pk.backGo, if_pos hc]
    · rw [if_neg hc]
      exact bgo_go s a s.length 1 (c % 128) c (s.length + 1) (by omega) (by omega) (by omega) (by omega)
theorem headGo_er (s : List UInt8) : ∀ (f c n sh a e : Nat), Pk.headGo s f c n sh a = .err e → e ≠ 0
  | 0, _, _, _, _, _, h => by cases h; decide
  | f + 1, c, n, sh, a, e, h => by
    unfold Pk.headGo at h
    split at h
    · cases h
    · split at h
      · cases h; decide
      · split at h
        · cases h; decide
        · exact headGo_er s f _ _ _ _ e h
theorem head_er {s : List UInt8} {a e : Nat} (h : Pk.head s a = .err e) : e ≠ 0 := by
  unfold Pk.head at h
  split at h
  · cases h; decide
  · split at h
    · rename_i hq; cases h; exact headGo_er s _ _ _ _ _ _ hq
    · cases h
theorem backGo_er (s : List UInt8) : ∀ (f c n a e : Nat), Pk.backGo s f c n a = .err e → e ≠ 0
  | 0, _, _, _, _, h => by cases h; decide
  | f + 1, c, n, a, e, h => by
    unfold Pk.backGo at h
    split at h
    · cases h
    · split at h
      · cases h; decide
      · split at h
        · cases h; decide
        · exact backGo_er s f _ _ _ e h
theorem back_er {s : List UInt8} {a e : Nat} (h : Pk.back s a = .err e) : e ≠ 0 := by
  unfold Pk.back at h
  split at h
  · cases h; decide
  · exact backGo_er s _ _ _ _ _ h
theorem fin_retCT {P : Program} {w0 : World} {N : Nat} {L : List (Nat × Value)} {H : List HP} {fn : Func} {F : List HP} {post : Ending → List HP → Prop} {t u : Tmp} {T U b n : Nat} {cs : List Value} {x : Value} {hl R : List HP} (hr : fn.results = #[.cell t T, .tmp u]) (hv : get? L t = some (.pointer (some ⟨b, 0, none⟩))) (hx : get? L u = some x) (hT : aggB P T = some true) (hz : sizeB P T = some n) (hm : Mem (cel b U cs) H) (hn : Nat.beq cs.length n = true)
    (ht : Takes H hl R) (hsu : Suf R F) (hp : post (.returned (.tuple #[.agg cs.toArray, x])) hl) (e : Exit) (he : e = .ret ∨ e = .normal) : EN w0 N (Fin P w0 fn F post) e [] L H := by
  intro a w hf hw
  have hw' : WS w0 (hl ++ F) w := hw.sel ht hsu
  have h1 := hf.val t _ hv
  have h2 := hf.val u _ hx
  have hrun : (results fn a.tmps).run P w = .ok (.tuple #[.agg cs.toArray, x]) w := by
    rw [← Nat.eq_of_beq_eq_true hn] at hz
    rw [Array.getD_eq_getD_getElem?] at h1 h2
    simp [results, hr, h1, h2, asAddr, run_loadVar_agg hw hT hz hm]
  rcases he with rfl | rfl
  all_goals exact ⟨hf.defs, _, hrun, hl, hp, hw'⟩

attribute [local irreducible] cel own exS ownG tabH Sums.hex crc32 zread readE countE

set_option maxRecDepth 100000 in
set_option maxHeartbeats 1000000 in
theorem rhead_spec (s : List UInt8) (a : Nat) (hs : s.length ≤ 1000000000) (ha : a ≤ 1000000000) : Spec Tryz.prog 29 #[str s, .int .i64 a] [] (Ret fun v hl => v = resH (Pk.head s a) ∧ hl = []) := by
 rw [← hgo_head]
 obtain ⟨T, hT⟩ : ∃ T, rhGo s a 6 0 0 0 1 = T := ⟨_, rfl⟩
 rw [hT]
 refine Spec.enter Tryz.func29 rfl rfl rfl (fun F w0 => ?_)
 dsimp only [argL, List.cons_append, List.nil_append]
 refine CG.sr (G.as ?_)
 refine G.as ?_
 refine G.as ?_
 refine G.as ?_
 refine G.nil (EN.tsr (G.as ?_))
 refine G.as ?_
 refine G.as ?_
 refine G.nil (EN.tsr (G.as ?_))
 refine G.nil (EN.then (CG.block (CG.loopI (fun m L H => ∃ (i k n u : Nat), i + m = 6 ∧ i ≤ 5 ∧ (i ≤ 4 → u ≤ 2 ^ (7 * i) ∧ n ≤ 2 ^ (7 * i)) ∧ rhGo s a m i k n u = T ∧ L = [(0, str s), (1, .int .i64 a), (8, .int .i64 (k : Nat)), (9, .int .i64 (n : Nat)), (10, .int .i64 (u : Nat)), (11, .int .i64 (i : Nat))] ∧ H = [] ++ F) (6) (⟨0, 0, 0, 1, rfl, by decide, fun _ => by decide, hT, rfl, rfl⟩) sB rfl tK sF ?_)))
 rintro m L H ⟨i, k, n, u, him, hi5, hun, hgo, rfl, rfl⟩
 try dsimp only [List.cons_append, List.nil_append]
 obtain ⟨g, rfl⟩ : ∃ g, m = g + 1 := ⟨m - 1, by omega⟩
 rw [hgo_succ] at hgo
 refine CG.seq (CG.block (CG.seq (CG.sr (G.mv ?_))))
 refine G.mv ?_
 refine G.q rfl rfl rfl rfl (q_add_i rfl rfl rfl oM) (G.mv ?_)
 refine G.q rfl rfl rfl rfl (q_len_str rfl rfl us_9_F1) (G.q rfl rfl rfl rfl (q_geq rfl rfl rfl) (G.nil (EN.then ?_)))
 refine CG.cond rfl (fun h20 => ?_) (fun h20 => ?_)
 ·
  rw [if_pos oM] at hgo
  subst hgo
  refine CG.sr (G.as ?_)
  refine G.as ?_
  refine G.as ?_
  refine G.as ?_
  refine G.nil (EN.then (CG.ret (EN.then_ret (EN.in_ret ?_))))
  refine EN.then_ret (EN.then_ret (EN.in_ret ?_))
  exact fin_ret4 rfl rfl rfl rfl rfl tK sF (⟨rfl, rfl⟩) _ (.inl rfl)
 ·
  rw [if_neg oM] at hgo
  have hg8 := getD_u8 (S := s) (i := a + i) oM
  obtain ⟨c, hc⟩ : ∃ c, s.getD (a + i) 0 = c := ⟨_, rfl⟩
  rw [hc] at hg8 hgo
  have hcb := u8_lt c
  have eai : (a : Int) + i = ((a + i : Nat) : Int) := by omega
  refine CG.skip (EN.ts (CG.sr (G.mv ?_)))
  refine G.q rfl rfl rfl rfl (q_eql rfl rfl rfl) (G.nil (EN.then ?_))
  refine CG.cond rfl (fun h22 => ?_) (fun h22 => ?_)
  ·
   rw [if_pos oM] at hgo
   subst hgo
   refine CG.sr (G.as ?_)
   refine G.as ?_
   refine G.as ?_
   refine G.as ?_
   refine G.nil (EN.then (CG.ret (EN.then_ret (EN.in_ret ?_))))
   refine EN.then_ret (EN.then_ret (EN.in_ret ?_))
   exact fin_ret4 rfl rfl rfl rfl rfl tK sF (⟨rfl, rfl⟩) _ (.inl rfl)
  ·
   rw [if_neg oM] at hgo
   have hub := hun oM
   have hp28 : 2 ^ (7 * i) ≤ 2 ^ 28 := Nat.pow_le_pow_right oM oM
   rw [show (2 : Nat) ^ 28 = 268435456 by decide] at hp28
   have hbd := fun h4 => hgo_bd s a i u n c.toNat hub.1 h4 hub.2
   have hbd2 := hbd oM
   have hp35 : 2 ^ (7 * (i + 1)) ≤ 2 ^ 35 := Nat.pow_le_pow_right oM oM
   rw [show (2 : Nat) ^ 35 = 34359738368 by decide] at hp35
   refine CG.skip (EN.tsr (G.mv ?_))
   refine G.mv ?_
   refine G.mv ?_
   refine G.q rfl rfl rfl rfl (q_add_i rfl rfl rfl oM) ?_
   rw [eai]
   refine G.q rfl rfl rfl rfl (q_index rfl rfl rfl us_9_F1 (hg8)) (G.q rfl rfl rfl rfl (q_conv_in rfl rfl is_5_F1 ik_3_F44 (wrap64_in oM)) (G.as ?_))
   refine G.nil (EN.sub (sC 0 (sC 1 (sC 8 (sC 9 (sC 10 (sC 11 (sC 12 Sub.nil))))))) ?_)
   refine EN.then ?_
   refine CG.cut (fun L H9 => ∃ (k2 n2 u2 : Nat), (if c.toNat < 128 then Pk.Res.ok (k2, n2, a + i + 1) else rhGo s a g (i + 1) k2 n2 u2) = T ∧ (i + 1 ≤ 4 → u2 ≤ 2 ^ (7 * (i + 1)) ∧ n2 ≤ 2 ^ (7 * (i + 1))) ∧ L = [(0, str s), (1, .int .i64 a), (8, .int .i64 (k2 : Nat)), (9, .int .i64 (n2 : Nat)), (10, .int .i64 (u2 : Nat)), (11, .int .i64 (i : Nat)), (12, .int .i64 c.toNat)] ∧ H9 = H) ?_ ?_
   ·
    refine CG.sr (G.mv ?_)
    refine G.q rfl rfl rfl rfl (q_eql rfl rfl rfl) (G.nil (EN.then ?_))
    refine CG.cond rfl (fun h30 => ?_) (fun h30 => ?_)
    ·
     obtain rfl : i = 0 := by omega
     rw [if_pos rfl] at hgo
     have ek : (c.toNat : Int) / 16 % 8 = ((c.toNat / 16 % 8 : Nat) : Int) := by omega
     have en : (c.toNat : Int) % 16 = ((c.toNat % 16 : Nat) : Int) := by omega
     refine CG.sr (G.mv ?_)
     refine G.q rfl rfl rfl rfl (q_quo_i rfl rfl rfl oM) (G.q rfl rfl rfl rfl (q_rem_n rfl rfl rfl oM) (G.as ?_))
     refine G.nil (EN.tsr (G.mv ?_))
     refine G.q rfl rfl rfl rfl (q_rem_n rfl rfl rfl oM) (G.as ?_)
     refine G.nil (EN.tr ?_)
     refine G.as ?_
     refine G.nil ?_
     (have hcut : 0 + 1 ≤ 4 → 16 ≤ 2 ^ (7 * (0 + 1)) ∧ c.toNat % 16 ≤ 2 ^ (7 * (0 + 1)) := fun _ => ⟨by decide, by rw [show (2 : Nat) ^ (7 * (0 + 1)) = 128 by decide]; omega⟩; rw [ek, en])
     exact EN.cut (⟨_, _, _, hgo, hcut, rfl, rfl⟩) sB rfl tK sF
    ·
     rw [if_neg oM] at hgo
     have ecu : (c.toNat : Int) % 128 * u = ((c.toNat % 128 * u : Nat) : Int) := by rw [Int.natCast_mul, Int.natCast_emod]; rfl
     have en : (n : Int) + ((c.toNat % 128 * u : Nat) : Int) = ((n + c.toNat % 128 * u : Nat) : Int) := by omega
     have eu : (128 : Int) * u = ((128 * u : Nat) : Int) := by omega
     refine CG.sr (G.mv ?_)
     refine G.mv ?_
     refine G.q rfl rfl rfl rfl (q_rem_n rfl rfl rfl oM) (G.mv ?_)
     refine G.q rfl rfl rfl rfl (q_mul_i rfl rfl rfl (by rw [ecu]; have := hbd2.1; omega)) ?_
     rw [ecu]
     refine G.q rfl rfl rfl rfl (q_add_i rfl rfl rfl oM) (G.as ?_)
     refine G.nil (EN.tr ?_)
     refine G.mv ?_
     refine G.q rfl rfl rfl rfl (q_mul_i rfl rfl rfl oM) (G.as ?_)
     refine G.nil (EN.sub (sC 0 (sC 1 (sC 8 (sC 9 (sC 10 (sC 11 (sC 12 Sub.nil))))))) ?_)
     (have hcut : i + 1 ≤ 4 → 128 * u ≤ 2 ^ (7 * (i + 1)) ∧ n + c.toNat % 128 * u ≤ 2 ^ (7 * (i + 1)) := fun _ => ⟨hbd2.2, hbd2.1⟩; rw [en, eu])
     exact EN.cut (⟨_, _, _, hgo, hcut, rfl, rfl⟩) sB rfl tK sF
   ·
    rintro L H9 ⟨k2, n2, u2, hgo, hun2, rfl, rfl⟩
    try dsimp only [List.cons_append, List.nil_append]
    refine CG.sr (G.mv ?_)
    refine G.q rfl rfl rfl rfl (q_lss rfl rfl rfl) (G.nil (EN.then ?_))
    refine CG.cond rfl (fun h45 => ?_) (fun h45 => ?_)
    ·
     rw [if_pos oM] at hgo
     subst hgo
     refine CG.sr (G.mv ?_)
     refine G.mv ?_
     refine G.mv ?_
     refine G.mv ?_
     refine G.q rfl rfl rfl rfl (q_add_i rfl rfl rfl oM) (G.q rfl rfl rfl rfl (q_add_i rfl rfl rfl oM) ?_)
     rw [show (a : Int) + i + 1 = ((a + i + 1 : Nat) : Int) by omega]
     refine G.as ?_
     refine G.as ?_
     refine G.as ?_
     refine G.as ?_
     refine G.nil (EN.sub (sC 0 (sC 1 (sC 4 (sC 5 (sC 6 (sC 7 (sC 8 (sC 9 (sC 10 (sC 11 Sub.nil)))))))))) ?_)
     refine EN.then (CG.ret (EN.in_ret ?_))
     refine EN.then_ret (EN.then_ret (EN.in_ret ?_))
     exact fin_ret4 rfl rfl rfl rfl rfl tK sF (⟨rfl, rfl⟩) _ (.inl rfl)
    ·
     rw [if_neg oM] at hgo
     refine CG.skip (EN.in_normal (EN.tr ?_))
     refine G.mv ?_
     refine G.q rfl rfl rfl rfl (q_add_i rfl rfl rfl oM) (G.as ?_)
     refine G.nil ?_
     rw [show (i : Int) + 1 = ((i + 1 : Nat) : Int) by omega]
     exact EN.round (g) oM (⟨i + 1, k2, n2, u2, by omega, by omega, hun2, hgo, rfl, rfl⟩) sB rfl tK sF

set_option maxRecDepth 100000 in
set_option maxHeartbeats 1000000 in
theorem rback_spec (s : List UInt8) (a : Nat) (hs : s.length ≤ 1000000000) (ha : a ≤ 1000000000) : Spec Tryz.prog 30 #[str s, .int .i64 a] [] (Ret fun v hl => v = resB (Pk.back s a) ∧ hl = []) := by
 rw [← bgo_back]
 obtain ⟨T, hT⟩ : ∃ T, rbGo s a (s.length + 1) 0 0 = T := ⟨_, rfl⟩
 rw [hT]
 refine Spec.enter Tryz.func30 rfl rfl rfl (fun F w0 => ?_)
 dsimp only [argL, List.cons_append, List.nil_append]
 refine CG.sr (G.as ?_)
 refine G.as ?_
 refine G.as ?_
 refine G.nil (EN.tsr (G.as ?_))
 refine G.nil (EN.tsr (G.as ?_))
 refine G.nil (EN.then (CG.block (CG.loopI (fun m L H => ∃ (i n : Nat), i + m = s.length + 1 ∧ i ≤ s.length ∧ n ≤ 4294967296 ∧ (i = 0 → n = 0) ∧ rbGo s a m i n = T ∧ L = [(0, str s), (1, .int .i64 a), (7, .int .i64 (n : Nat)), (8, .int .i64 (i : Nat))] ∧ H = [] ++ F) (s.length + 1) (⟨0, 0, by omega, by omega, by decide, fun _ => rfl, hT, rfl, rfl⟩) sB rfl tK sF ?_)))
 rintro m L H ⟨i, n, him, hil, hnb, hn0, hgo, rfl, rfl⟩
 try dsimp only [List.cons_append, List.nil_append]
 obtain ⟨g, rfl⟩ : ∃ g, m = g + 1 := ⟨m - 1, by omega⟩
 rw [bgo_succ] at hgo
 refine CG.seq (CG.block ?_)
 refine CG.cut (fun L H9 => ∃ n1 : Nat, (if s.length ≤ a + i then Pk.Res.err 6 else if (s.getD (a + i) 0).toNat < 128 then .ok (n1 + (s.getD (a + i) 0).toNat % 128, a + i + 1) else rbGo s a g (i + 1) (n1 + (s.getD (a + i) 0).toNat % 128)) = T ∧ n1 ≤ 2147483776 ∧ L = [(0, str s), (1, .int .i64 a), (7, .int .i64 (n1 : Nat)), (8, .int .i64 (i : Nat))] ∧ H9 = H) ?_ ?_
 ·
  refine CG.sr (G.mv ?_)
  refine G.q rfl rfl rfl rfl (q_gtr rfl rfl rfl) (G.nil (EN.then ?_))
  refine CG.cond rfl (fun h13 => ?_) (fun h13 => ?_)
  ·
   have hi0 : 0 < i := by omega
   refine CG.seq (CG.sr (G.mv ?_))
   refine G.q rfl rfl rfl rfl (q_gtr rfl rfl rfl) (G.nil (EN.then ?_))
   refine CG.cond rfl (fun h15 => ?_) (fun h15 => ?_)
   ·
    rw [if_pos ⟨by omega, by omega⟩] at hgo
    subst hgo
    refine CG.sr (G.as ?_)
    refine G.as ?_
    refine G.as ?_
    refine G.nil (EN.then (CG.ret (EN.then_ret (EN.then_ret (EN.in_ret ?_)))))
    refine EN.then_ret (EN.then_ret (EN.in_ret ?_))
    exact fin_ret3 rfl rfl rfl rfl tK sF (⟨rfl, rfl⟩) _ (.inl rfl)
   ·
    rw [if_neg oM] at hgo
    have hn1 : (if 0 < i then (n + 1) * 128 else n) = (n + 1) * 128 := if_pos hi0
    have e18 : ((n : Int) + 1) * 128 = (((n + 1) * 128 : Nat) : Int) := by omega
    have hb1 : (n + 1) * 128 ≤ 2147483776 := by omega
    refine CG.skip (EN.tr ?_)
    refine G.mv ?_
    refine G.q rfl rfl rfl rfl (q_add_i rfl rfl rfl oM) (G.q rfl rfl rfl rfl (q_mul_i rfl rfl rfl oM) (G.as ?_))
    refine G.nil ?_
    rw [hn1] at hgo
    try rw [e18]
    exact EN.cut (⟨_, hgo, hb1, rfl, rfl⟩) sB rfl tK sF
  ·
   rw [if_neg oM] at hgo
   have hn1 : (if 0 < i then (n + 1) * 128 else n) = n := if_neg oM
   have hb1 : n ≤ 2147483776 := by have := hn0 oM; omega
   refine CG.skip ?_
   rw [hn1] at hgo
   try rw [e18]
   exact EN.cut (⟨_, hgo, hb1, rfl, rfl⟩) sB rfl tK sF
 ·
  rintro L H9 ⟨n1, hgo, hb1, rfl, rfl⟩
  try dsimp only [List.cons_append, List.nil_append]
  refine CG.seq (CG.sr (G.mv ?_))
  refine G.mv ?_
  refine G.q rfl rfl rfl rfl (q_add_i rfl rfl rfl oM) (G.mv ?_)
  refine G.q rfl rfl rfl rfl (q_len_str rfl rfl us_9_F1) (G.q rfl rfl rfl rfl (q_geq rfl rfl rfl) (G.nil (EN.then ?_)))
  refine CG.cond rfl (fun h24 => ?_) (fun h24 => ?_)
  ·
   rw [if_pos oM] at hgo
   subst hgo
   refine CG.sr (G.as ?_)
   refine G.as ?_
   refine G.as ?_
   refine G.nil (EN.then (CG.ret (EN.then_ret (EN.in_ret ?_))))
   refine EN.then_ret (EN.then_ret (EN.in_ret ?_))
   exact fin_ret3 rfl rfl rfl rfl tK sF (⟨rfl, rfl⟩) _ (.inl rfl)
  ·
   rw [if_neg oM] at hgo
   have hg8 := getD_u8 (S := s) (i := a + i) oM
   obtain ⟨c, hc⟩ : ∃ c, s.getD (a + i) 0 = c := ⟨_, rfl⟩
   rw [hc] at hg8 hgo
   have hcb := u8_lt c
   have eai : (a : Int) + i = ((a + i : Nat) : Int) := by omega
   refine CG.skip (EN.tsr (G.mv ?_))
   refine G.mv ?_
   refine G.mv ?_
   refine G.q rfl rfl rfl rfl (q_add_i rfl rfl rfl oM) ?_
   rw [eai]
   refine G.q rfl rfl rfl rfl (q_index rfl rfl rfl us_9_F1 (hg8)) (G.q rfl rfl rfl rfl (q_conv_in rfl rfl is_5_F1 ik_3_F44 (wrap64_in oM)) (G.as ?_))
   refine G.nil (EN.sub (sC 0 (sC 1 (sC 7 (sC 8 (sC 9 Sub.nil))))) ?_)
   refine EN.tsr (G.mv ?_)
   refine G.mv ?_
   refine G.q rfl rfl rfl rfl (q_rem_n rfl rfl rfl oM) (G.q rfl rfl rfl rfl (q_add_i rfl rfl rfl oM) ?_)
   rw [show (n1 : Int) + (c.toNat : Int) % 128 = ((n1 + c.toNat % 128 : Nat) : Int) by omega]
   refine G.as ?_
   refine G.nil (EN.tsr (G.mv ?_))
   refine G.q rfl rfl rfl rfl (q_lss rfl rfl rfl) (G.nil (EN.then ?_))
   refine CG.cond rfl (fun h36 => ?_) (fun h36 => ?_)
   ·
    rw [if_pos oM] at hgo
    subst hgo
    refine CG.sr (G.mv ?_)
    refine G.mv ?_
    refine G.mv ?_
    refine G.q rfl rfl rfl rfl (q_add_i rfl rfl rfl oM) (G.q rfl rfl rfl rfl (q_add_i rfl rfl rfl oM) ?_)
    rw [show (a : Int) + i + 1 = ((a + i + 1 : Nat) : Int) by omega]
    refine G.as ?_
    refine G.as ?_
    refine G.as ?_
    refine G.nil (EN.sub (sC 0 (sC 1 (sC 4 (sC 5 (sC 6 (sC 7 (sC 8 Sub.nil))))))) ?_)
    refine EN.then (CG.ret (EN.in_ret ?_))
    refine EN.then_ret (EN.then_ret (EN.in_ret ?_))
    exact fin_ret3 rfl rfl rfl rfl tK sF (⟨rfl, rfl⟩) _ (.inl rfl)
   ·
    rw [if_neg oM] at hgo
    refine CG.skip (EN.in_normal (EN.tr ?_))
    refine G.mv ?_
    refine G.q rfl rfl rfl rfl (q_add_i rfl rfl rfl oM) (G.as ?_)
    refine G.nil ?_
    rw [show (i : Int) + 1 = ((i + 1 : Nat) : Int) by omega]
    exact EN.round (g) oM (⟨i + 1, n1 + c.toNat % 128, by omega, by omega, by omega, fun h => by omega, hgo, rfl, rfl⟩) sB rfl tK sF

end Go.Eng
