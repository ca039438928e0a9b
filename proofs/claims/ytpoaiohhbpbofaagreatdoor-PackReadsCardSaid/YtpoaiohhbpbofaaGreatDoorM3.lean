/-
  Joined by program out of the texts ZF8 ZF9 ZF13 ZF10 ZF11 ZF12 ZF14 ZF15 ZS1 ZF16 ZF19 ZF20 ZE16 ZF21 ZF17 ZF18 ZF22: contracts for the functions that the law reaches, and the engine that proves them.
-/
import Derived.Test.YtpoaiohhbpbofaaGreatDoorM2
import Derived.Test.YtpoaiohhbpbofaaGreatDoorM1
import Derived.Shelf.Strconv.Itoa0
import Derived.Shelf.Strconv.Itoa1
import Derived.Shelf.LaysM
import Derived.Shelf.Strconv.Itoa2
import Derived.Shelf.Strconv.Itoa3
import Derived.Test.YtpoaiohhbpbofaaGreatDoorProg
import Derived.Lib.ItoaLen
import Derived.Laws.StructEq
/-
  RFC 1951 read (inflate): the run, and Inflate.
-/
set_option linter.unusedVariables false
set_option linter.unusedSimpArgs false
namespace Go.Eng
open Go.Proofs
theorem bT_80_9_F8 : bytesT Tryz.prog 80 9 = some 5 := by kernel_rfl
theorem bd_104_F8 : bodied Tryz.prog 104 = true := by kernel_rfl
theorem bd_105_F8 : bodied Tryz.prog 105 = true := by kernel_rfl
theorem bd_108_F8 : bodied Tryz.prog 108 = true := by kernel_rfl
theorem bd_76_F8 : bodied Tryz.prog 76 = true := by kernel_rfl
theorem bd_77_F8 : bodied Tryz.prog 77 = true := by kernel_rfl
theorem bd_78_F8 : bodied Tryz.prog 78 = true := by kernel_rfl
theorem bd_91_F8 : bodied Tryz.prog 91 = true := by kernel_rfl
theorem bu_119_0_2_F8 : ∀ (x0 : Option Addr) (x2 : Int) (w : World), (Instr.build 119 [(0, .pointer x0), (2, .int .i64 x2)].toArray).run Tryz.prog w = .ok (.agg [.pointer x0, .slice none 0 0, .int .i64 x2].toArray) w := fun _ _ _ => by kernel_rfl
theorem ik_5_F8 : intK Tryz.prog 5 = some .u8 := by kernel_rfl

theorem tables_good {b rb : Nat} {r : RD} {out : List UInt8} {most : Nat} (hr : r.Ok) (h : (Infl.tables r).err = 0) :
    Spec Tryz.prog 105 #[.pointer (some ⟨b, 0, none⟩)] [StAt b rb out most, RdAt rb r] (Ret fun v hl => ∃ bl bd, v = .tuple #[.pointer (some ⟨bl, 0, none⟩), .pointer (some ⟨bd, 0, none⟩), .int .i64 0] ∧ hl = [TabAt bl (Infl.tables r).lit, TabAt bd (Infl.tables r).dist, StAt b rb out most, RdAt rb (Infl.tables r).r]) := by
  refine Spec.mono (tables_spec b rb r out most hr) ?_
  rintro v hl (⟨h2, _⟩ | ⟨_, h2⟩)
  · exact absurd h h2
  · exact h2
theorem tables_fail {b rb : Nat} {r : RD} {out : List UInt8} {most : Nat} (hr : r.Ok) (h : (Infl.tables r).err ≠ 0) :
    Spec Tryz.prog 105 #[.pointer (some ⟨b, 0, none⟩)] [StAt b rb out most, RdAt rb r] (Ret fun v hl => v = .tuple #[.pointer none, .pointer none, .int .i64 (Infl.tables r).err] ∧ hl = [StAt b rb out most, RdAt rb (Infl.tables r).r]) := by
  refine Spec.mono (tables_spec b rb r out most hr) ?_
  rintro v hl (⟨_, h2⟩ | ⟨h2, _⟩)
  · exact h2
  · exact absurd h2 h
attribute [local irreducible] cel own exS Huff.sorted Huff.cntC Huff.read RD.bits Infl.lensGo Infl.clGo Infl.repK Infl.tables Infl.stored Infl.again Infl.symbols Infl.run Infl.fixedLit Infl.fixedDist

set_option maxRecDepth 100000 in
set_option maxHeartbeats 1000000 in
theorem run_spec (b rb : Nat) (q : RD) (o : List UInt8) (most : Nat) (hq : q.Ok) (hm : most ≤ 1000000) (ho : o.length ≤ most) : Spec Tryz.prog 77 #[.pointer (some ⟨b, 0, none⟩)] [StAt b rb o most, RdAt rb q] (Ret fun v hl => v = .int .i64 (Infl.run most (q.left + 1) q o).2.2 ∧ hl = [StAt b rb (Infl.run most (q.left + 1) q o).2.1 most, RdAt rb (Infl.run most (q.left + 1) q o).1]) := by
 obtain ⟨X, hX⟩ : ∃ X, Infl.run most (q.left + 1) q o = X := ⟨_, rfl⟩
 rw [hX]
 obtain ⟨g, hgo, hg⟩ : ∃ g, Infl.run most g q o = X ∧ q.left < g := ⟨_, hX, by omega⟩
 refine Spec.enter Tryz.func77 rfl rfl rfl (fun F w0 => ?_)
 dsimp only [argL, List.cons_append, List.nil_append]
 refine CG.sr (G.as ?_)
 refine G.nil (EN.then ?_)
 refine CG.scope (fun l n L H => ∃ (q : RD) (o : List UInt8), q.Ok ∧ o.length ≤ most ∧ ((l = 0 ∧ (∃ g, Infl.run most g q o = X ∧ q.left < g) ∧ n = 3 * q.left + 1 ∧ L = [(0, .pointer (some ⟨b, 0, none⟩))] ∧ H = [StAt b rb o most, RdAt rb q] ++ F) ∨ (l = 1 ∧ (∃ h g : Nat, h < 8 ∧ (if h % 2 = 0 then Infl.run most g q o else (q, o, 0)) = X ∧ q.left < g ∧ n = 3 * q.left + 2 ∧ L = [(0, .pointer (some ⟨b, 0, none⟩)), (3, .int .u32 h)] ∧ H = [StAt b rb o most, RdAt rb q] ++ F)) ∨ (l = 2 ∧ (∃ (h g f : Nat) (ls ds : List Nat) (bl bd : Nat), h < 8 ∧ Infl.cont most h g (Infl.symbols ls ds most f q o) = X ∧ q.left < f ∧ q.left < g ∧ ls.length ≤ 320 ∧ ds.length ≤ 320 ∧ n = 3 * q.left ∧ L = [(0, .pointer (some ⟨b, 0, none⟩)), (3, .int .u32 h), (7, .pointer (some ⟨bl, 0, none⟩)), (8, .pointer (some ⟨bd, 0, none⟩))] ∧ H = [TabAt bl ls, TabAt bd ds, StAt b rb o most, RdAt rb q] ++ F)))) (3 * q.left + 1) ?_ ?_
 ·
  refine CG.sr (G.as ?_)
  refine G.nil (EN.tsr (G.as ?_))
  refine G.nil (EN.tsr (G.as ?_))
  refine G.nil (EN.tsr (G.as ?_))
  refine G.nil (EN.tsr (G.as ?_))
  refine G.as ?_
  refine G.nil (EN.ts (CG.label ?_))
  refine EN.ts (CG.seq ?_)
  have hxok := RD.bits_ok hq (n := 3) oM
  have hx8 := RD.bits_lt q 3
  obtain ⟨g, rfl⟩ : ∃ g', g = g' + 1 := ⟨g - 1, by omega⟩
  rw [Infl.run_succ] at hgo
  refine CG.openS (StP b rb o most) tK1 (fun v => ?_)
  unfold StP
  dsimp only [List.cons_append, List.nil_append]
  refine CG.reg (G.mv ?_)
  refine G.np ?_
  refine G.q rfl rfl rfl rfl (q_field0 rfl rfl fo_119_0_F6) (G.ld ag_116_F6 ?_)
  refine G.closeS (StP b rb o most) _ tK ?_
  refine G.call (xs := [_, _]) rfl rfl (rbits_spec rb q 3 hq oM) bd_103_F5 rfl rfl rfl rfl tK (fun _ _ _ _ _ _ => trivial) ?_
  rintro _ _ ⟨rfl, rfl⟩
  try dsimp only [List.cons_append, List.nil_append]
  refine G.mv ?_
  refine G.q rfl rfl rfl rfl (q_extract rfl rfl rfl) (G.q rfl rfl rfl rfl (q_extract rfl rfl rfl) (G.as ?_))
  refine G.as ?_
  refine G.nil (EN.tsr (G.mv ?_))
  refine G.q rfl rfl rfl rfl (q_not rfl rfl) (G.nil (EN.sub (sC 0 (sC 2 (sC 3 (sC 5 (sC 6 (sC 7 (sC 8 (sC 18 Sub.nil)))))))) ?_))
  refine EN.then ?_
  refine CG.condB rfl (fun h18 => ?_) (fun h18 => ?_)
  ·
   rw [if_pos (by simpa using h18)] at hgo
   refine CG.sr (G.as ?_)
   refine G.nil (EN.then (CG.ret (EN.then_ret (EN.jr ?_))))
   rw [← hgo]
   try dsimp only
   exact fin_ret1 rfl rfl tK sF (⟨rfl, rfl⟩) _ (.inl rfl)
  ·
   rw [if_neg (by simpa using h18)] at hgo
   have hxl := RD.bits_left hq (n := 3) oM (by simpa using h18)
   unfold Infl.block at hgo
   refine CG.skip (EN.ts (CG.sr (G.mv ?_)))
   refine G.q rfl rfl rfl rfl (q_shrc (d := 2) rfl rfl rfl (by decide) (by decide)) (G.nil (EN.then (CG.block (CG.sr (G.q rfl rfl rfl rfl (q_eql rfl rfl rfl) ?_)))))
   refine G.as ?_
   refine G.nil (EN.then ?_)
   refine CG.cond rfl (fun h21 => ?_) (fun h21 => ?_)
   ·
    rw [if_pos oM] at hgo
    obtain ⟨hsok, hsl, hsm⟩ := Infl.stored_ok hxok ho
    refine CG.seq (CG.sr (G.mv ?_))
    refine G.call (xs := [_]) rfl rfl (stored_spec b rb (q.bits 3).1 o most hxok hm ho) bd_104_F8 rfl rfl rfl rfl tK (fun _ _ _ _ _ _ => trivial) ?_
    rintro _ _ ⟨rfl, rfl⟩
    try dsimp only [List.cons_append, List.nil_append]
    refine G.as ?_
    refine G.nil (EN.tsr (G.mv ?_))
    refine G.q rfl rfl rfl rfl (q_neq rfl rfl rfl) (G.nil (EN.then ?_))
    refine CG.cond rfl (fun h26 => ?_) (fun h26 => ?_)
    ·
     rw [Infl.cont, if_pos oM] at hgo
     refine CG.sr (G.mv ?_)
     refine G.as ?_
     refine G.nil (EN.sub (sC 0 (sC 2 (sC 3 (sC 5 (sC 6 (sC 7 (sC 8 Sub.nil))))))) ?_)
     refine EN.then (CG.ret (EN.then_ret (EN.in_ret ?_)))
     refine EN.then_ret (EN.jr ?_)
     rw [← hgo]
     try dsimp only
     exact fin_ret1 rfl rfl tK sF (⟨rfl, rfl⟩) _ (.inl rfl)
    ·
     rw [Infl.cont, if_neg oM] at hgo
     have hg2 : (Infl.stored (q.bits 3).1 o most).1.left < g := by omega
     refine CG.skip (EN.then (CG.goto ?_))
     refine EN.in_goto ?_
     refine EN.then_goto ?_
     exact EN.goto (hl := [_, _]) (3 * (Infl.stored (q.bits 3).1 o most).1.left + 2) oM (⟨_, _, hsok, hsm, .inr (.inl ⟨rfl, _, _, hx8, hgo, hg2, rfl, rfl, rfl⟩)⟩) sB rfl tK sF
   ·
    rw [if_neg oM] at hgo
    refine CG.sr (G.q rfl rfl rfl rfl (q_eql rfl rfl rfl) (G.as ?_))
    refine G.nil (EN.then ?_)
    refine CG.cond rfl (fun h28 => ?_) (fun h28 => ?_)
    ·
     rw [if_pos oM] at hgo
     have hll : Infl.fixedLit.length ≤ 320 := by rw [Infl.lit_len]; omega
     have hdl : Infl.fixedDist.length ≤ 320 := by rw [Infl.dist_len]; omega
     have hf2 : (q.bits 3).1.left < (q.bits 3).1.left + 1 := by omega
     refine CG.sr (G.call (xs := []) rfl rfl (fixed_spec) bd_91_F8 rfl rfl rfl rfl tK (fun _ _ _ _ _ _ => trivial) ?_)
     rintro _ _ ⟨bl, bd, rfl, rfl⟩
     try dsimp only [List.cons_append, List.nil_append]
     refine G.mv ?_
     refine G.q rfl rfl rfl rfl (q_extract rfl rfl rfl) (G.q rfl rfl rfl rfl (q_extract rfl rfl rfl) (G.as ?_))
     refine G.as ?_
     refine G.nil (EN.sub (sC 0 (sC 2 (sC 3 (sC 5 (sC 6 (sC 7 (sC 8 Sub.nil))))))) ?_)
     refine EN.then (CG.goto ?_)
     refine EN.in_goto ?_
     refine EN.then_goto ?_
     have hg3 : (q.bits 3).1.left < g := by omega
     exact EN.goto (hl := [_, _, _, _]) (3 * (q.bits 3).1.left) oM (⟨_, _, hxok, ho, .inr (.inr ⟨rfl, _, _, _, _, _, _, _, hx8, hgo, hf2, hg3, hll, hdl, rfl, rfl, rfl⟩)⟩) sB rfl tK sF
    ·
     rw [if_neg oM] at hgo
     refine CG.sr (G.q rfl rfl rfl rfl (q_eql rfl rfl rfl) (G.as ?_))
     refine G.nil (EN.then ?_)
     refine CG.cond rfl (fun h34 => ?_) (fun h34 => ?_)
     ·
      rw [if_pos oM] at hgo
      obtain ⟨htok, htl, hll, hdl⟩ := Infl.tables_ok hxok
      refine CG.seq (CG.seq ?_)
      by_cases ht0 : (Infl.tables (q.bits 3).1).err = 0
      ·
       rw [if_neg (by rw [ht0]; simp)] at hgo
       have hf2 : (Infl.tables (q.bits 3).1).r.left < (Infl.tables (q.bits 3).1).r.left + 1 := by omega
       refine CG.reg (G.mv ?_)
       refine G.call (xs := [_]) rfl rfl (tables_good hxok ht0) bd_105_F8 rfl rfl rfl rfl tK (fun _ _ _ _ _ _ => trivial) ?_
       rintro _ _ ⟨bl, bd, rfl, rfl⟩
       try dsimp only [List.cons_append, List.nil_append]
       refine G.mv ?_
       refine G.q rfl rfl rfl rfl (q_extract rfl rfl rfl) (G.q rfl rfl rfl rfl (q_extract rfl rfl rfl) (G.q rfl rfl rfl rfl (q_extract rfl rfl rfl) (G.as ?_)))
       refine G.as ?_
       refine G.as ?_
       refine G.nil (EN.sub (sC 0 (sC 2 (sC 3 (sC 5 (sC 6 (sC 7 (sC 8 Sub.nil))))))) ?_)
       refine EN.tsr (G.mv ?_)
       refine G.q rfl rfl rfl rfl (q_neq rfl rfl rfl) (G.nil (EN.then ?_))
       refine CG.cond rfl (fun h43 => absurd h43 (by decide)) (fun h43 => ?_)
       refine CG.skip (EN.then (CG.goto ?_))
       refine EN.in_goto ?_
       refine EN.then_goto ?_
       have hg3 : (Infl.tables (q.bits 3).1).r.left < g := by omega
       exact EN.goto (hl := [_, _, _, _]) (3 * (Infl.tables (q.bits 3).1).r.left) oM (⟨_, _, htok, ho, .inr (.inr ⟨rfl, _, _, _, _, _, _, _, hx8, hgo, hf2, hg3, hll, hdl, rfl, rfl, rfl⟩)⟩) sB rfl tK sF
      ·
       rw [if_pos ht0, Infl.cont, if_pos ht0] at hgo
       refine CG.reg (G.mv ?_)
       refine G.call (xs := [_]) rfl rfl (tables_fail hxok ht0) bd_105_F8 rfl rfl rfl rfl tK (fun _ _ _ _ _ _ => trivial) ?_
       rintro _ _ ⟨rfl, rfl⟩
       try dsimp only [List.cons_append, List.nil_append]
       refine G.mv ?_
       refine G.q rfl rfl rfl rfl (q_extract rfl rfl rfl) (G.q rfl rfl rfl rfl (q_extract rfl rfl rfl) (G.q rfl rfl rfl rfl (q_extract rfl rfl rfl) (G.as ?_)))
       refine G.as ?_
       refine G.as ?_
       refine G.nil (EN.sub (sC 0 (sC 2 (sC 3 (sC 5 (sC 6 (sC 7 (sC 8 Sub.nil))))))) ?_)
       refine EN.tsr (G.mv ?_)
       refine G.q rfl rfl rfl rfl (q_neq rfl rfl rfl) (G.nil (EN.then ?_))
       refine CG.cond rfl (fun h43 => ?_) (fun h43 => absurd oM h43)
       refine CG.sr (G.mv ?_)
       refine G.as ?_
       refine G.nil (EN.then (CG.ret (EN.then_ret (EN.in_ret ?_))))
       refine EN.then_ret (EN.jr ?_)
       rw [← hgo]
       try dsimp only
       exact fin_ret1 rfl rfl tK sF (⟨rfl, rfl⟩) _ (.inl rfl)
     ·
      rw [if_neg oM, Infl.cont, if_pos (by simp)] at hgo
      refine CG.skip (EN.in_normal (EN.ts (CG.sr (G.as ?_))))
      refine G.nil (EN.sub (sC 0 (sC 2 (sC 3 (sC 5 (sC 6 (sC 7 (sC 8 Sub.nil))))))) ?_)
      refine EN.then (CG.ret (EN.then_ret (EN.jr ?_)))
      rw [← hgo]
      try dsimp only
      exact fin_ret1 rfl rfl tK sF (⟨rfl, rfl⟩) _ (.inl rfl)
 ·
  rintro l n L H ⟨q, o, hq, ho, (⟨rfl, ⟨g, hgo, hg⟩, rfl, rfl, rfl⟩ | ⟨rfl, ⟨h, g, hh8, hgo, hg, rfl, rfl, rfl⟩⟩ | ⟨rfl, ⟨h, g, f, ls, ds, bl, bd, hh8, hgo, hf, hg, hll, hdl, rfl, rfl, rfl⟩⟩)⟩
  ·
   try dsimp only [List.cons_append, List.nil_append]
   refine ⟨_, rfl, ?_⟩
   refine CG.seq (CG.skip (EN.ts (CG.seq ?_)))
   have hxok := RD.bits_ok hq (n := 3) oM
   have hx8 := RD.bits_lt q 3
   obtain ⟨g, rfl⟩ : ∃ g', g = g' + 1 := ⟨g - 1, by omega⟩
   rw [Infl.run_succ] at hgo
   refine CG.openS (StP b rb o most) tK1 (fun v => ?_)
   unfold StP
   dsimp only [List.cons_append, List.nil_append]
   refine CG.reg (G.mv ?_)
   refine G.np ?_
   refine G.q rfl rfl rfl rfl (q_field0 rfl rfl fo_119_0_F6) (G.ld ag_116_F6 ?_)
   refine G.closeS (StP b rb o most) _ tK ?_
   refine G.call (xs := [_, _]) rfl rfl (rbits_spec rb q 3 hq oM) bd_103_F5 rfl rfl rfl rfl tK (fun _ _ _ _ _ _ => trivial) ?_
   rintro _ _ ⟨rfl, rfl⟩
   try dsimp only [List.cons_append, List.nil_append]
   refine G.mv ?_
   refine G.q rfl rfl rfl rfl (q_extract rfl rfl rfl) (G.q rfl rfl rfl rfl (q_extract rfl rfl rfl) (G.as ?_))
   refine G.as ?_
   refine G.nil (EN.tsr (G.mv ?_))
   refine G.q rfl rfl rfl rfl (q_not rfl rfl) (G.nil (EN.sub (sC 0 (sC 3 (sC 18 Sub.nil))) ?_))
   refine EN.then ?_
   refine CG.condB rfl (fun h18 => ?_) (fun h18 => ?_)
   ·
    rw [if_pos (by simpa using h18)] at hgo
    refine CG.sr (G.as ?_)
    refine G.nil (EN.then (CG.ret (EN.then_ret (EN.jr ?_))))
    rw [← hgo]
    try dsimp only
    exact fin_ret1 rfl rfl tK sF (⟨rfl, rfl⟩) _ (.inl rfl)
   ·
    rw [if_neg (by simpa using h18)] at hgo
    have hxl := RD.bits_left hq (n := 3) oM (by simpa using h18)
    unfold Infl.block at hgo
    refine CG.skip (EN.ts (CG.sr (G.mv ?_)))
    refine G.q rfl rfl rfl rfl (q_shrc (d := 2) rfl rfl rfl (by decide) (by decide)) (G.nil (EN.then (CG.block (CG.sr (G.q rfl rfl rfl rfl (q_eql rfl rfl rfl) ?_)))))
    refine G.as ?_
    refine G.nil (EN.then ?_)
    refine CG.cond rfl (fun h21 => ?_) (fun h21 => ?_)
    ·
     rw [if_pos oM] at hgo
     obtain ⟨hsok, hsl, hsm⟩ := Infl.stored_ok hxok ho
     refine CG.seq (CG.sr (G.mv ?_))
     refine G.call (xs := [_]) rfl rfl (stored_spec b rb (q.bits 3).1 o most hxok hm ho) bd_104_F8 rfl rfl rfl rfl tK (fun _ _ _ _ _ _ => trivial) ?_
     rintro _ _ ⟨rfl, rfl⟩
     try dsimp only [List.cons_append, List.nil_append]
     refine G.as ?_
     refine G.nil (EN.tsr (G.mv ?_))
     refine G.q rfl rfl rfl rfl (q_neq rfl rfl rfl) (G.nil (EN.then ?_))
     refine CG.cond rfl (fun h26 => ?_) (fun h26 => ?_)
     ·
      rw [Infl.cont, if_pos oM] at hgo
      refine CG.sr (G.mv ?_)
      refine G.as ?_
      refine G.nil (EN.sub (sC 0 (sC 2 (sC 3 (sC 5 Sub.nil)))) ?_)
      refine EN.then (CG.ret (EN.then_ret (EN.in_ret ?_)))
      refine EN.then_ret (EN.jr ?_)
      rw [← hgo]
      try dsimp only
      exact fin_ret1 rfl rfl tK sF (⟨rfl, rfl⟩) _ (.inl rfl)
     ·
      rw [Infl.cont, if_neg oM] at hgo
      have hg2 : (Infl.stored (q.bits 3).1 o most).1.left < g := by omega
      refine CG.skip (EN.then (CG.goto ?_))
      refine EN.in_goto ?_
      refine EN.then_goto ?_
      exact EN.goto (hl := [_, _]) (3 * (Infl.stored (q.bits 3).1 o most).1.left + 2) oM (⟨_, _, hsok, hsm, .inr (.inl ⟨rfl, _, _, hx8, hgo, hg2, rfl, rfl, rfl⟩)⟩) sB rfl tK sF
    ·
     rw [if_neg oM] at hgo
     refine CG.sr (G.q rfl rfl rfl rfl (q_eql rfl rfl rfl) (G.as ?_))
     refine G.nil (EN.then ?_)
     refine CG.cond rfl (fun h28 => ?_) (fun h28 => ?_)
     ·
      rw [if_pos oM] at hgo
      have hll : Infl.fixedLit.length ≤ 320 := by rw [Infl.lit_len]; omega
      have hdl : Infl.fixedDist.length ≤ 320 := by rw [Infl.dist_len]; omega
      have hf2 : (q.bits 3).1.left < (q.bits 3).1.left + 1 := by omega
      refine CG.sr (G.call (xs := []) rfl rfl (fixed_spec) bd_91_F8 rfl rfl rfl rfl tK (fun _ _ _ _ _ _ => trivial) ?_)
      rintro _ _ ⟨bl, bd, rfl, rfl⟩
      try dsimp only [List.cons_append, List.nil_append]
      refine G.mv ?_
      refine G.q rfl rfl rfl rfl (q_extract rfl rfl rfl) (G.q rfl rfl rfl rfl (q_extract rfl rfl rfl) (G.as ?_))
      refine G.as ?_
      refine G.nil (EN.sub (sC 0 (sC 3 (sC 7 (sC 8 Sub.nil)))) ?_)
      refine EN.then (CG.goto ?_)
      refine EN.in_goto ?_
      refine EN.then_goto ?_
      have hg3 : (q.bits 3).1.left < g := by omega
      exact EN.goto (hl := [_, _, _, _]) (3 * (q.bits 3).1.left) oM (⟨_, _, hxok, ho, .inr (.inr ⟨rfl, _, _, _, _, _, _, _, hx8, hgo, hf2, hg3, hll, hdl, rfl, rfl, rfl⟩)⟩) sB rfl tK sF
     ·
      rw [if_neg oM] at hgo
      refine CG.sr (G.q rfl rfl rfl rfl (q_eql rfl rfl rfl) (G.as ?_))
      refine G.nil (EN.then ?_)
      refine CG.cond rfl (fun h34 => ?_) (fun h34 => ?_)
      ·
       rw [if_pos oM] at hgo
       obtain ⟨htok, htl, hll, hdl⟩ := Infl.tables_ok hxok
       refine CG.seq (CG.seq ?_)
       by_cases ht0 : (Infl.tables (q.bits 3).1).err = 0
       ·
        rw [if_neg (by rw [ht0]; simp)] at hgo
        have hf2 : (Infl.tables (q.bits 3).1).r.left < (Infl.tables (q.bits 3).1).r.left + 1 := by omega
        refine CG.reg (G.mv ?_)
        refine G.call (xs := [_]) rfl rfl (tables_good hxok ht0) bd_105_F8 rfl rfl rfl rfl tK (fun _ _ _ _ _ _ => trivial) ?_
        rintro _ _ ⟨bl, bd, rfl, rfl⟩
        try dsimp only [List.cons_append, List.nil_append]
        refine G.mv ?_
        refine G.q rfl rfl rfl rfl (q_extract rfl rfl rfl) (G.q rfl rfl rfl rfl (q_extract rfl rfl rfl) (G.q rfl rfl rfl rfl (q_extract rfl rfl rfl) (G.as ?_)))
        refine G.as ?_
        refine G.as ?_
        refine G.nil (EN.sub (sC 0 (sC 3 (sC 5 (sC 7 (sC 8 Sub.nil))))) ?_)
        refine EN.tsr (G.mv ?_)
        refine G.q rfl rfl rfl rfl (q_neq rfl rfl rfl) (G.nil (EN.then ?_))
        refine CG.cond rfl (fun h43 => absurd h43 (by decide)) (fun h43 => ?_)
        refine CG.skip (EN.then (CG.goto ?_))
        refine EN.in_goto ?_
        refine EN.then_goto ?_
        have hg3 : (Infl.tables (q.bits 3).1).r.left < g := by omega
        exact EN.goto (hl := [_, _, _, _]) (3 * (Infl.tables (q.bits 3).1).r.left) oM (⟨_, _, htok, ho, .inr (.inr ⟨rfl, _, _, _, _, _, _, _, hx8, hgo, hf2, hg3, hll, hdl, rfl, rfl, rfl⟩)⟩) sB rfl tK sF
       ·
        rw [if_pos ht0, Infl.cont, if_pos ht0] at hgo
        refine CG.reg (G.mv ?_)
        refine G.call (xs := [_]) rfl rfl (tables_fail hxok ht0) bd_105_F8 rfl rfl rfl rfl tK (fun _ _ _ _ _ _ => trivial) ?_
        rintro _ _ ⟨rfl, rfl⟩
        try dsimp only [List.cons_append, List.nil_append]
        refine G.mv ?_
        refine G.q rfl rfl rfl rfl (q_extract rfl rfl rfl) (G.q rfl rfl rfl rfl (q_extract rfl rfl rfl) (G.q rfl rfl rfl rfl (q_extract rfl rfl rfl) (G.as ?_)))
        refine G.as ?_
        refine G.as ?_
        refine G.nil (EN.sub (sC 0 (sC 3 (sC 5 (sC 7 (sC 8 Sub.nil))))) ?_)
        refine EN.tsr (G.mv ?_)
        refine G.q rfl rfl rfl rfl (q_neq rfl rfl rfl) (G.nil (EN.then ?_))
        refine CG.cond rfl (fun h43 => ?_) (fun h43 => absurd oM h43)
        refine CG.sr (G.mv ?_)
        refine G.as ?_
        refine G.nil (EN.then (CG.ret (EN.then_ret (EN.in_ret ?_))))
        refine EN.then_ret (EN.jr ?_)
        rw [← hgo]
        try dsimp only
        exact fin_ret1 rfl rfl tK sF (⟨rfl, rfl⟩) _ (.inl rfl)
      ·
       rw [if_neg oM, Infl.cont, if_pos (by simp)] at hgo
       refine CG.skip (EN.in_normal (EN.ts (CG.sr (G.as ?_))))
       refine G.nil (EN.sub (sC 0 (sC 2 (sC 3 Sub.nil))) ?_)
       refine EN.then (CG.ret (EN.then_ret (EN.jr ?_)))
       rw [← hgo]
       try dsimp only
       exact fin_ret1 rfl rfl tK sF (⟨rfl, rfl⟩) _ (.inl rfl)
  ·
   try dsimp only [List.cons_append, List.nil_append]
   refine ⟨_, rfl, ?_⟩
   refine CG.seq (CG.skip (EN.ts (CG.sr (G.mv ?_))))
   refine G.q rfl rfl rfl rfl (q_andm (j := 1) (d := 2) rfl rfl rfl lOm lOm (by decide) (by decide) (by decide)) (G.q rfl rfl rfl rfl (q_eql rfl rfl rfl) (G.nil (EN.then ?_)))
   refine CG.cond rfl (fun h74 => ?_) (fun h74 => ?_)
   ·
    rw [if_pos oM] at hgo
    refine CG.goto ?_
    refine EN.then_goto ?_
    exact EN.goto (hl := [_, _]) (3 * q.left + 1) oM (⟨_, _, hq, ho, .inl ⟨rfl, ⟨_, hgo, hg⟩, rfl, rfl, rfl⟩⟩) sB rfl tK sF
   ·
    rw [if_neg oM] at hgo
    refine CG.skip (EN.tsr (G.as ?_))
    refine G.nil (EN.then (CG.ret (EN.jr ?_)))
    rw [← hgo]
    try dsimp only
    exact fin_ret1 rfl rfl tK sF (⟨rfl, rfl⟩) _ (.inl rfl)
  ·
   try dsimp only [List.cons_append, List.nil_append]
   refine ⟨_, rfl, ?_⟩
   refine CG.seq (CG.skip (EN.ts (CG.seq ?_)))
   obtain ⟨f, rfl⟩ : ∃ f', f = f' + 1 := ⟨f - 1, by omega⟩
   rw [Infl.symbols] at hgo
   dsimp only at hgo
   obtain ⟨hyok, hyl, hyl2⟩ := Huff.read_ok ls hq
   obtain ⟨y, hy⟩ : ∃ y, Huff.read ls q = y := ⟨_, rfl⟩
   rw [hy] at hgo hyok hyl hyl2
   refine CG.openS (StP b rb o most) tK1 (fun v => ?_)
   unfold StP
   dsimp only [List.cons_append, List.nil_append]
   refine CG.reg (G.mv ?_)
   refine G.mv ?_
   refine G.np ?_
   refine G.q rfl rfl rfl rfl (q_field0 rfl rfl fo_119_0_F6) (G.ld ag_116_F6 ?_)
   refine G.closeS (StP b rb o most) _ tK ?_
   refine G.call (xs := [_, _]) rfl rfl (hread_spec bl rb ls q hq hll) bd_106_F6 rfl rfl rfl rfl tK (fun _ _ _ _ _ _ => trivial) ?_
   rintro _ _ ⟨rfl, rfl⟩
   try dsimp only [List.cons_append, List.nil_append]
   refine G.mv ?_
   refine G.q rfl rfl rfl rfl (q_extract rfl rfl rfl) (G.q rfl rfl rfl rfl (q_extract rfl rfl rfl) (G.as ?_))
   refine G.as ?_
   refine G.nil (EN.sub (sC 0 (sC 3 (sC 5 (sC 6 (sC 7 (sC 8 Sub.nil)))))) ?_)
   refine EN.ts ?_
   rw [hy]
   refine CG.reg (G.mv ?_)
   refine G.q rfl rfl rfl rfl (q_neq rfl rfl rfl) (G.nil (EN.then ?_))
   refine CG.cond rfl (fun h55 => ?_) (fun h55 => ?_)
   ·
    rw [if_pos oM, Infl.cont, if_pos (show y.2.2 ≠ 0 by omega)] at hgo
    refine CG.sr (G.mv ?_)
    refine G.as ?_
    refine G.nil (EN.then (CG.ret (EN.then_ret (EN.jr ?_))))
    rw [← hgo]
    try dsimp only
    exact fin_ret1 rfl rfl tK sF (⟨rfl, rfl⟩) _ (.inl rfl)
   ·
    rw [if_neg oM] at hgo
    have hyl3 := hyl2 oM
    have hg2 : y.1.left < g := by omega
    have hf2 : y.1.left < f := by omega
    refine CG.skip (EN.ts (CG.sr (G.mv ?_)))
    refine G.q rfl rfl rfl rfl (q_eql rfl rfl rfl) (G.nil (EN.then ?_))
    refine CG.cond rfl (fun h58 => ?_) (fun h58 => ?_)
    ·
     rw [if_pos oM, Infl.cont, if_neg (by simp)] at hgo
     refine CG.goto ?_
     refine EN.then_goto ?_
     exact EN.goto (hl := [_, _]) (3 * y.1.left + 2) oM (⟨_, _, hyok, ho, .inr (.inl ⟨rfl, _, _, hh8, hgo, hg2, rfl, rfl, rfl⟩)⟩) sB rfl tK sF
    ·
     rw [if_neg oM] at hgo
     refine CG.skip (EN.ts (CG.sr (G.mv ?_)))
     refine G.q rfl rfl rfl rfl (q_lss rfl rfl rfl) (G.nil (EN.then ?_))
     refine CG.cond rfl (fun h60 => ?_) (fun h60 => ?_)
     ·
      rw [if_pos oM] at hgo
      by_cases hom : o.length = most
      ·
       rw [if_pos hom, Infl.cont, if_pos (by simp)] at hgo
       refine CG.reg (G.mv ?_)
       refine G.mv ?_
       refine G.q rfl rfl rfl rfl (q_conv_u8 rfl rfl is_3_F4 ik_5_F8) (G.call (xs := [_, _]) rfl rfl (put_spec b rb o most (u8i (y.2.1 : Int)) oM oM) bd_107_F6 rfl rfl rfl rfl tK (fun _ _ _ _ _ _ => trivial) ?_)
       rintro _ _ ⟨rfl, rfl⟩
       try dsimp only [List.cons_append, List.nil_append]
       refine G.as ?_
       refine G.nil (EN.sub (sC 0 (sC 3 (sC 5 (sC 7 (sC 8 Sub.nil))))) ?_)
       refine EN.ts (CG.seq ?_)
       rw [if_pos hom, if_pos hom]
       refine CG.reg (G.mv ?_)
       refine G.q rfl rfl rfl rfl (q_eql rfl rfl rfl) (G.nil (EN.then ?_))
       refine CG.cond rfl (fun h70 => absurd h70 (by decide)) (fun h70 => ?_)
       refine CG.skip (EN.ts (CG.sr (G.mv ?_)))
       refine G.as ?_
       refine G.nil (EN.then (CG.ret (EN.then_ret (EN.jr ?_))))
       rw [← hgo]
       try dsimp only
       exact fin_ret1 rfl rfl tK sF (⟨rfl, rfl⟩) _ (.inl rfl)
      ·
       rw [if_neg hom] at hgo
       have hok2 := hyok
       have hlen2 : (o ++ [u8i (y.2.1 : Int)]).length ≤ most := by simp; omega
       refine CG.reg (G.mv ?_)
       refine G.mv ?_
       refine G.q rfl rfl rfl rfl (q_conv_u8 rfl rfl is_3_F4 ik_5_F8) (G.call (xs := [_, _]) rfl rfl (put_spec b rb o most (u8i (y.2.1 : Int)) oM oM) bd_107_F6 rfl rfl rfl rfl tK (fun _ _ _ _ _ _ => trivial) ?_)
       rintro _ _ ⟨rfl, rfl⟩
       try dsimp only [List.cons_append, List.nil_append]
       refine G.as ?_
       refine G.nil (EN.sub (sC 0 (sC 3 (sC 5 (sC 7 (sC 8 Sub.nil))))) ?_)
       refine EN.ts (CG.seq ?_)
       rw [if_neg hom, if_neg hom]
       refine CG.reg (G.mv ?_)
       refine G.q rfl rfl rfl rfl (q_eql rfl rfl rfl) (G.nil (EN.then ?_))
       refine CG.cond rfl (fun h70 => ?_) (fun h70 => absurd (by decide) h70)
       refine CG.goto ?_
       refine EN.then_goto ?_
       exact EN.goto (hl := [_, _, _, _]) (_) oM (⟨_, _, hok2, hlen2, .inr (.inr ⟨rfl, _, _, _, _, _, _, _, hh8, hgo, hf2, hg2, hll, hdl, rfl, rfl, rfl⟩)⟩) sB rfl tK sF
     ·
      rw [if_neg oM] at hgo
      obtain ⟨haok, hal, ham⟩ := Infl.again_ok (ds := ds) hyok (most := most) (s := y.2.1) ho oM
      have hok2 := haok
      have hlen2 := ham
      have hg2 : (Infl.again ds most y.1 o y.2.1).1.left < g := by omega
      have hf2 : (Infl.again ds most y.1 o y.2.1).1.left < f := by omega
      refine CG.reg (G.mv ?_)
      refine G.mv ?_
      refine G.mv ?_
      refine G.call (xs := [_, _, _]) rfl rfl (again_spec b rb bd ds y.1 o most y.2.1 hyok hdl hm ho oM) bd_108_F8 rfl rfl rfl rfl tK (fun _ _ _ _ _ _ => trivial) ?_
      rintro _ _ ⟨rfl, rfl⟩
      try dsimp only [List.cons_append, List.nil_append]
      refine G.as ?_
      refine G.nil (EN.sub (sC 0 (sC 3 (sC 5 (sC 7 (sC 8 Sub.nil))))) ?_)
      refine EN.ts (CG.sr (G.mv ?_))
      refine G.q rfl rfl rfl rfl (q_eql rfl rfl rfl) (G.nil (EN.then ?_))
      refine CG.cond rfl (fun h70 => ?_) (fun h70 => ?_)
      ·
       rw [if_neg oM] at hgo
       refine CG.goto ?_
       refine EN.then_goto ?_
       exact EN.goto (hl := [_, _, _, _]) (_) oM (⟨_, _, hok2, hlen2, .inr (.inr ⟨rfl, _, _, _, _, _, _, _, hh8, hgo, hf2, hg2, hll, hdl, rfl, rfl, rfl⟩)⟩) sB rfl tK sF
      ·
       rw [if_pos oM, Infl.cont, if_pos oM] at hgo
       refine CG.skip (EN.ts (CG.sr (G.mv ?_)))
       refine G.as ?_
       refine G.nil (EN.then (CG.ret (EN.then_ret (EN.jr ?_))))
       rw [← hgo]
       try dsimp only
       exact fin_ret1 rfl rfl tK sF (⟨rfl, rfl⟩) _ (.inl rfl)

def inflV (p : List UInt8 × Nat × Nat) : Value := .tuple #[str p.1, .int .i64 p.2.1, .int .i64 p.2.2]


set_option maxRecDepth 100000 in
set_option maxHeartbeats 1000000 in
theorem inflate_spec (s : List UInt8) (at_ most : Nat) (hs : s.length ≤ 140737488351232) (ha : at_ ≤ s.length) (hm : most ≤ 65536) : Spec Tryz.prog 53 #[str s, .int .i64 at_, .int .i64 most] [] (Ret fun v hl => v = inflV (Infl.inflate s at_ most) ∧ hl = []) := by
 have hro : (Infl.run most ((RD.new s at_).left + 1) (RD.new s at_) []).1.Ok := (Infl.run_okk most _ _ _ (RD.new_ok hs at_) (by simp)).1
 refine Spec.enter Tryz.func53 rfl rfl rfl (fun F w0 => ?_)
 dsimp only [argL, List.cons_append, List.nil_append]
 refine CG.sr (G.as ?_)
 refine G.as ?_
 refine G.as ?_
 refine G.nil (EN.ts (CG.sr (G.mv ?_)))
 refine G.q rfl rfl rfl rfl (q_lss rfl rfl rfl) (G.mv ?_)
 refine G.split (t := 13) rfl (fun g13 => absurd g13 oM) (fun g13 => ?_)
 refine G.mv ?_
 refine G.mv ?_
 refine G.q rfl rfl rfl rfl (q_len_str rfl rfl us_9_F1) (G.q rfl rfl rfl rfl (q_gtr rfl rfl rfl) (G.q rfl rfl rfl rfl (q_pick_f rfl rfl rfl) (G.mv ?_)))
 refine G.split (t := 19) rfl (fun g19 => absurd g19 oM) (fun g19 => ?_)
 refine G.mv ?_
 refine G.q rfl rfl rfl rfl (q_lss rfl rfl rfl) (G.q rfl rfl rfl rfl (q_pick_f rfl rfl rfl) (G.mv ?_))
 refine G.split (t := 23) rfl (fun g23 => absurd g23 oM) (fun g23 => ?_)
 refine G.mv ?_
 refine G.q rfl rfl rfl rfl (q_gtr rfl rfl rfl) (G.q rfl rfl rfl rfl (q_pick_f rfl rfl rfl) (G.nil (EN.sub (sC 0 (sC 1 (sC 2 (sC 6 (sC 7 (sC 8 (sC 26 Sub.nil))))))) ?_)))
 refine EN.then ?_
 refine CG.cond rfl (fun h26 => absurd h26 oM) (fun h26 => ?_)
 refine CG.skip (EN.tsr (G.mv ?_))
 refine G.mv ?_
 refine G.call (xs := [_, _]) rfl rfl (rnew_spec s at_ hs) bd_76_F8 rfl rfl rfl rfl tK (fun _ _ _ _ _ _ => trivial) ?_
 rintro _ _ ⟨rb, rfl, rfl⟩
 try dsimp only [List.cons_append, List.nil_append]
 refine G.mv ?_
 refine G.q rfl rfl rfl rfl (q_build rfl rfl (bu_119_0_2_F8 _ _)) (G.e rfl rfl rfl rfl (e_box rfl rfl) (fun _ _ _ _ _ _ => trivial) ?_)
 rintro _ _ ⟨b32, rfl, rfl⟩
 refine G.as ?_
 refine G.nil (EN.sub (sC 6 (sC 7 (sC 8 (sC 9 Sub.nil)))) ?_)
 refine EN.ts (CG.seq (CG.ownNil 5 1 ?_))
 refine CG.closeS (StP b32 rb [] most) (.slice none 0 0) tK ?_
 refine CG.reg (G.mv ?_)
 refine G.call (xs := [_]) rfl rfl (run_spec b32 rb (RD.new s at_) [] most (RD.new_ok hs at_) oM (by simp)) bd_77_F8 rfl rfl rfl rfl tK (fun _ _ _ _ _ _ => trivial) ?_
 rintro _ _ ⟨rfl, rfl⟩
 try dsimp only [List.cons_append, List.nil_append]
 refine G.as ?_
 refine G.nil (EN.tsr (G.mv ?_))
 refine G.q rfl rfl rfl rfl (q_neq rfl rfl rfl) (G.nil (EN.then ?_))
 refine CG.cond rfl (fun h36 => ?_) (fun h36 => ?_)
 ·
  have hE : Infl.inflate s at_ most = ([], 0, (Infl.run most ((RD.new s at_).left + 1) (RD.new s at_) []).2.2) := by unfold Infl.inflate; dsimp only; rw [if_pos oM]
  refine CG.sr (G.mv ?_)
  refine G.as ?_
  refine G.as ?_
  refine G.as ?_
  refine G.nil (EN.then (CG.ret (EN.then_ret ?_)))
  rw [hE]
  unfold inflV
  try dsimp only
  exact fin_ret3 rfl rfl rfl rfl tK sF (⟨rfl, rfl⟩) _ (.inl rfl)
 ·
  have hE : Infl.inflate s at_ most = ((Infl.run most ((RD.new s at_).left + 1) (RD.new s at_) []).2.1, (Infl.run most ((RD.new s at_).left + 1) (RD.new s at_) []).1.used, 0) := by unfold Infl.inflate; dsimp only; rw [if_neg oM]
  refine CG.skip (EN.ts ?_)
  refine CG.openS (StP b32 rb (Infl.run most ((RD.new s at_).left + 1) (RD.new s at_) []).2.1 most) tK1 (fun v => ?_)
  unfold StP
  dsimp only [List.cons_append, List.nil_append]
  refine CG.regC [41, 42, 46] (fun w => CellIs b32 0 (.pointer (some ⟨rb, 0, none⟩)) w ∧ CellIs b32 1 v w ∧ w.ownsRow 0 5 1 v (Infl.run most ((RD.new s at_).left + 1) (RD.new s at_) []).2.1.length ((Infl.run most ((RD.new s at_).left + 1) (RD.new s at_) []).2.1.map u8v)) mixed (by kernel_rfl) (fun w hw => ⟨CellIs.of hw mB rfl, CellIs.of hw mB rfl, WS.own hw mB⟩) ?_
  refine G.mv ?_
  refine G.np ?_
  refine G.q rfl rfl rfl rfl (q_field0 rfl rfl fo_119_1_F6) (G.loadC rfl rfl rfl rfl rfl rfl rfl ag_80_F2 (fun w h => h.2.1) ?_)
  refine G.b2sC rfl rfl rfl rfl rfl rfl rfl bT_80_9_F8 (fun w h => h.2.2) ?_
  refine G.mv ?_
  refine G.np ?_
  refine G.q rfl rfl rfl rfl (q_field0 rfl rfl fo_119_0_F6) (G.loadC rfl rfl rfl rfl rfl rfl rfl ag_116_F6 (fun w h => h.1) ?_)
  refine G.call (xs := [_]) rfl rfl (used_spec rb (Infl.run most ((RD.new s at_).left + 1) (RD.new s at_) []).1 hro) bd_78_F8 rfl rfl rfl rfl tK (fun _ _ _ w hR hw => by obtain ⟨_, rfl⟩ := hR; exact ⟨CellIs.of hw mB rfl, CellIs.of hw mB rfl, WS.own hw mB⟩) ?_
  rintro _ _ ⟨rfl, rfl⟩
  try dsimp only [List.cons_append, List.nil_append]
  refine G.as ?_
  refine G.as ?_
  refine G.as ?_
  refine G.nil (EN.sub (sC 6 (sC 7 (sC 8 Sub.nil))) ?_)
  refine EN.then (CG.ret ?_)
  rw [hE]
  unfold inflV
  try dsimp only
  exact fin_ret3 rfl rfl rfl rfl tK sF (⟨rfl, rfl⟩) _ (.inl rfl)

end Go.Eng
/-
  RFC 1950 (zlib): Head, Read, frame.
-/
set_option linter.unusedVariables false
set_option linter.unusedSimpArgs false
namespace Go.Eng
open Go.Proofs
theorem bd_19_F9 : bodied Tryz.prog 19 = true := by kernel_rfl
theorem bd_34_F9 : bodied Tryz.prog 34 = true := by kernel_rfl
theorem bd_52_F9 : bodied Tryz.prog 52 = true := by kernel_rfl
theorem bd_53_F9 : bodied Tryz.prog 53 = true := by kernel_rfl
theorem bd_54_F9 : bodied Tryz.prog 54 = true := by kernel_rfl
theorem ik_28_F9 : intK Tryz.prog 28 = some .u32 := by kernel_rfl
theorem ik_3_F9 : intK Tryz.prog 3 = some .i64 := by kernel_rfl
theorem ik_58_F9 : intK Tryz.prog 58 = some .u64 := by kernel_rfl

def zhead (c f : UInt8) : Bool := decide ((c.toNat : Int) % 16 = 8) && decide ((c.toNat : Int) / 16 ≤ 7) && decide (((c.toNat : Int) * 256 + f.toNat) % 31 = 0) && decide (bits .and .u8 (f.toNat : Int) 32 = 0)
theorem zhead_f {c f : UInt8} (h : ¬ ((c.toNat : Int) % 16 = 8 ∧ (c.toNat : Int) / 16 ≤ 7 ∧ ((c.toNat : Int) * 256 + f.toNat) % 31 = 0)) : false = zhead c f := by
  unfold zhead
  by_cases h1 : (c.toNat : Int) % 16 = 8
  · by_cases h2 : (c.toNat : Int) / 16 ≤ 7
    · rw [decide_eq_false (p := ((c.toNat : Int) * 256 + f.toNat) % 31 = 0) (fun h3 => h ⟨h1, h2, h3⟩)]; simp
    · rw [decide_eq_false h2]; simp
  · rw [decide_eq_false h1]; simp
theorem zhead_t {c f : UInt8} (h1 : (c.toNat : Int) % 16 = 8) (h2 : (c.toNat : Int) / 16 ≤ 7) (h3 : ((c.toNat : Int) * 256 + f.toNat) % 31 = 0) : decide (bits .and .u8 (f.toNat : Int) 32 = 0) = zhead c f := by
  unfold zhead; rw [decide_eq_true h1, decide_eq_true h2, decide_eq_true h3]; rfl
def zread (s : List UInt8) (at_ most : Nat) : List UInt8 × Nat × Nat :=
  if s.length < at_ + 2 then ([], 0, 6) else
  if zhead (s.getD at_ 0) (s.getD (at_ + 1) 0) = false then ([], 0, 3) else
  if (Infl.inflate s (at_ + 2) most).2.2 ≠ 0 then ([], 0, (Infl.inflate s (at_ + 2) most).2.2) else
  if s.length < at_ + 2 + (Infl.inflate s (at_ + 2) most).2.1 + 4 then ([], 0, 6) else
  if Sums.fromBig ((s.take (at_ + 2 + (Infl.inflate s (at_ + 2) most).2.1 + 4)).drop (at_ + 2 + (Infl.inflate s (at_ + 2) most).2.1)) ≠ Sums.adler (Infl.inflate s (at_ + 2) most).1 then ([], 0, 5) else
  ((Infl.inflate s (at_ + 2) most).1, (Infl.inflate s (at_ + 2) most).2.1 + 6, 0)
theorem infl_used (s : List UInt8) (hs : s.length ≤ 140737488351232) (at_ most : Nat) : (Infl.inflate s at_ most).2.1 ≤ 140737488351232 := by
  have := (Infl.run_okk most ((RD.new s at_).left + 1) (RD.new s at_) [] (RD.new_ok hs at_) (by simp)).1
  have h1 := this.pos
  have h2 := this.len
  unfold Infl.inflate
  dsimp only
  split
  · simp
  · simp only [RD.used]; omega
theorem zread_len (s : List UInt8) (hs : s.length ≤ 140737488351232) (at_ most : Nat) : (zread s at_ most).1.length ≤ most := by
  have := Infl.inflate_len s hs (at_ + 2) most
  unfold zread
  split
  · simp
  · split
    · simp
    · split
      · simp
      · split
        · simp
        · split
          · simp
          · exact this
attribute [local irreducible] Infl.inflate Sums.adler Sums.fromBig

set_option maxRecDepth 100000 in
set_option maxHeartbeats 1000000 in
theorem zhead_spec (c f : UInt8) : Spec Tryz.prog 52 #[.int .u8 c.toNat, .int .u8 f.toNat] [] (Ret fun v hl => v = .bool (zhead c f) ∧ hl = []) := by
 have hc := u8_lt c
 have hf := u8_lt f
 refine Spec.enter Tryz.func52 rfl rfl rfl (fun F w0 => ?_)
 dsimp only [argL, List.cons_append, List.nil_append]
 refine CG.sr (G.as ?_)
 refine G.nil (EN.tsr (G.mv ?_))
 refine G.q rfl rfl rfl rfl (q_andm (j := 4) (d := 16) rfl rfl rfl lOm lOm (by decide) (by decide) (by decide)) (G.q rfl rfl rfl rfl (q_eql rfl rfl rfl) (G.mv ?_))
 refine G.split (t := 8) rfl (fun g8 => ?_) (fun g8 => ?_)
 ·
  refine G.mv ?_
  refine G.q rfl rfl rfl rfl (q_shrc (d := 16) rfl rfl rfl (by decide) (by decide)) (G.q rfl rfl rfl rfl (q_leq rfl rfl rfl) (G.q rfl rfl rfl rfl (q_pick_t rfl rfl rfl) (G.mv ?_)))
  refine G.split (t := 13) rfl (fun g13 => ?_) (fun g13 => ?_)
  ·
   refine G.mv ?_
   refine G.q rfl rfl rfl rfl (q_conv_in rfl rfl is_5_F1 ik_3_F9 (wrap64_in oM)) (G.q rfl rfl rfl rfl (q_shlcw (d := 256) rfl rfl rfl (by decide) (by decide) lOm lOm) (G.mv ?_))
   refine G.q rfl rfl rfl rfl (q_conv_in rfl rfl is_5_F1 ik_3_F9 (wrap64_in oM)) (G.q rfl rfl rfl rfl (q_ord (j := 8) (d := 256) rfl rfl rfl (by decide) lOm lOm lOm (by decide)) (G.q rfl rfl rfl rfl (q_rem_n rfl rfl rfl oM) (G.q rfl rfl rfl rfl (q_eql rfl rfl rfl) (G.q rfl rfl rfl rfl (q_pick_t rfl rfl rfl) (G.mv ?_)))))
   refine G.split (t := 23) rfl (fun g23 => ?_) (fun g23 => ?_)
   ·
    refine G.mv ?_
    refine G.q rfl rfl rfl rfl (q_and rfl rfl rfl) (G.q rfl rfl rfl rfl (q_eql rfl rfl rfl) (G.q rfl rfl rfl rfl (q_pick_t rfl rfl rfl) (G.as ?_)))
    refine G.nil (EN.sub (sC 4 Sub.nil) ?_)
    refine EN.then (CG.ret ?_)
    have e := zhead_t g8 g13 g23
    exact fin_ret1 rfl rfl tK sF (⟨congrArg Value.bool e, rfl⟩) _ (.inl rfl)
   ·
    refine G.skip rfl rfl rfl (G.skip rfl rfl rfl (G.skip rfl rfl rfl (G.q rfl rfl rfl rfl (q_pick_f rfl rfl rfl) (G.as ?_))))
    refine G.nil (EN.sub (sC 4 Sub.nil) ?_)
    refine EN.then (CG.ret ?_)
    have e := zhead_f (c := c) (f := f) oM
    exact fin_ret1 rfl rfl tK sF (⟨congrArg Value.bool e, rfl⟩) _ (.inl rfl)
  ·
   refine G.skip rfl rfl rfl (G.skip rfl rfl rfl (G.skip rfl rfl rfl (G.skip rfl rfl rfl (G.skip rfl rfl rfl (G.skip rfl rfl rfl ?_)))))
   refine G.skip rfl rfl rfl (G.skip rfl rfl rfl (G.q rfl rfl rfl rfl (q_pick_f rfl rfl rfl) (G.mv ?_)))
   refine G.skip rfl rfl rfl (G.skip rfl rfl rfl (G.skip rfl rfl rfl (G.q rfl rfl rfl rfl (q_pick_f rfl rfl rfl) (G.as ?_))))
   refine G.nil (EN.sub (sC 4 Sub.nil) ?_)
   refine EN.then (CG.ret ?_)
   have e := zhead_f (c := c) (f := f) oM
   exact fin_ret1 rfl rfl tK sF (⟨congrArg Value.bool e, rfl⟩) _ (.inl rfl)
 ·
  refine G.skip rfl rfl rfl (G.skip rfl rfl rfl (G.skip rfl rfl rfl (G.q rfl rfl rfl rfl (q_pick_f rfl rfl rfl) (G.mv ?_))))
  refine G.skip rfl rfl rfl (G.skip rfl rfl rfl (G.skip rfl rfl rfl (G.skip rfl rfl rfl (G.skip rfl rfl rfl (G.skip rfl rfl rfl ?_)))))
  refine G.skip rfl rfl rfl (G.skip rfl rfl rfl (G.q rfl rfl rfl rfl (q_pick_f rfl rfl rfl) (G.mv ?_)))
  refine G.skip rfl rfl rfl (G.skip rfl rfl rfl (G.skip rfl rfl rfl (G.q rfl rfl rfl rfl (q_pick_f rfl rfl rfl) (G.as ?_))))
  refine G.nil (EN.sub (sC 4 Sub.nil) ?_)
  refine EN.then (CG.ret ?_)
  have e := zhead_f (c := c) (f := f) oM
  exact fin_ret1 rfl rfl tK sF (⟨congrArg Value.bool e, rfl⟩) _ (.inl rfl)

set_option maxRecDepth 100000 in
set_option maxHeartbeats 1000000 in
theorem zread_spec (s : List UInt8) (at_ most : Nat) (hs : s.length ≤ 140737488351232) (ha : at_ ≤ s.length) (hm : most ≤ 65536) : Spec Tryz.prog 27 #[str s, .int .i64 at_, .int .i64 most] [] (Ret fun v hl => v = inflV (zread s at_ most) ∧ hl = []) := by
 obtain ⟨Z, hZ⟩ : ∃ Z, zread s at_ most = Z := ⟨_, rfl⟩
 have hE := hZ
 rw [hZ]
 unfold zread at hE
 refine Spec.enter Tryz.func27 rfl rfl rfl (fun F w0 => ?_)
 dsimp only [argL, List.cons_append, List.nil_append]
 refine CG.sr (G.as ?_)
 refine G.as ?_
 refine G.as ?_
 refine G.nil (EN.ts (CG.sr (G.mv ?_)))
 refine G.q rfl rfl rfl rfl (q_lss rfl rfl rfl) (G.mv ?_)
 refine G.split (t := 15) rfl (fun g15 => absurd g15 oM) (fun g15 => ?_)
 refine G.mv ?_
 refine G.mv ?_
 refine G.q rfl rfl rfl rfl (q_len_str rfl rfl us_9_F1) (G.q rfl rfl rfl rfl (q_gtr rfl rfl rfl) (G.q rfl rfl rfl rfl (q_pick_f rfl rfl rfl) (G.mv ?_)))
 refine G.split (t := 21) rfl (fun g21 => absurd g21 oM) (fun g21 => ?_)
 refine G.mv ?_
 refine G.q rfl rfl rfl rfl (q_lss rfl rfl rfl) (G.q rfl rfl rfl rfl (q_pick_f rfl rfl rfl) (G.mv ?_))
 refine G.split (t := 25) rfl (fun g25 => absurd g25 oM) (fun g25 => ?_)
 refine G.mv ?_
 refine G.q rfl rfl rfl rfl (q_gtr rfl rfl rfl) (G.q rfl rfl rfl rfl (q_pick_f rfl rfl rfl) (G.nil (EN.sub (sC 0 (sC 1 (sC 2 (sC 6 (sC 7 (sC 8 (sC 28 Sub.nil))))))) ?_)))
 refine EN.then ?_
 refine CG.cond rfl (fun h28 => absurd h28 oM) (fun h28 => ?_)
 refine CG.skip (EN.ts (CG.sr (G.mv ?_)))
 refine G.q rfl rfl rfl rfl (q_len_str rfl rfl us_9_F1) (G.mv ?_)
 refine G.q rfl rfl rfl rfl (q_sub_i rfl rfl rfl oM) (G.q rfl rfl rfl rfl (q_lss rfl rfl rfl) (G.nil (EN.then ?_)))
 refine CG.cond rfl (fun h33 => ?_) (fun h33 => ?_)
 ·
  rw [if_pos oM] at hE
  refine CG.sr (G.as ?_)
  refine G.as ?_
  refine G.as ?_
  refine G.nil (EN.then (CG.ret (EN.then_ret ?_)))
  rw [← hE]
  try unfold inflV
  try dsimp only
  exact fin_ret3 rfl rfl rfl rfl tK sF (⟨rfl, rfl⟩) _ (.inl rfl)
 ·
  rw [if_neg oM] at hE
  have h0 := getD_u8 (S := s) (i := at_) oM
  have h1 := getD_u8 (S := s) (i := at_ + 1) oM
  have e1 : ((at_ : Int) + 1) = ((at_ + 1 : Nat) : Int) := by omega
  have e2 : ((at_ : Int) + 2) = ((at_ + 2 : Nat) : Int) := by omega
  have hu := infl_used s hs (at_ + 2) most
  obtain ⟨x, hx⟩ : ∃ x, Infl.inflate s (at_ + 2) most = x := ⟨_, rfl⟩
  have hxl := Infl.inflate_len s hs (at_ + 2) most
  rw [hx] at hE hu hxl
  refine CG.skip (EN.ts (CG.seq ?_))
  refine CG.regT [] mixed (by kernel_rfl) ?_
  refine G.mv ?_
  refine G.mv ?_
  refine G.q rfl rfl rfl rfl (q_index rfl rfl rfl us_9_F1 (h0)) (G.mv ?_)
  refine G.mv ?_
  refine G.q rfl rfl rfl rfl (q_add_i rfl rfl rfl oM) ?_
  rw [e1]
  refine G.q rfl rfl rfl rfl (q_index rfl rfl rfl us_9_F1 (h1)) (G.call (xs := [_, _]) rfl rfl (zhead_spec (s.getD at_ 0) (s.getD (at_ + 1) 0)) bd_52_F9 rfl rfl rfl rfl tK (fun _ _ _ _ _ _ => trivial) ?_)
  rintro _ _ ⟨rfl, rfl⟩
  try dsimp only [List.cons_append, List.nil_append]
  refine G.q rfl rfl rfl rfl (q_not rfl rfl) (G.nil (EN.sub (sC 0 (sC 1 (sC 2 (sC 6 (sC 7 (sC 8 (sC 42 Sub.nil))))))) ?_))
  refine EN.then ?_
  refine CG.condB rfl (fun h42 => ?_) (fun h42 => ?_)
  ·
   rw [if_pos (by simpa using h42)] at hE
   refine CG.sr (G.as ?_)
   refine G.as ?_
   refine G.as ?_
   refine G.nil (EN.then (CG.ret (EN.then_ret ?_)))
   rw [← hE]
   try unfold inflV
   try dsimp only
   exact fin_ret3 rfl rfl rfl rfl tK sF (⟨rfl, rfl⟩) _ (.inl rfl)
  ·
   rw [if_neg (by simpa using h42)] at hE
   refine CG.skip (EN.tsr (G.mv ?_))
   refine G.mv ?_
   refine G.q rfl rfl rfl rfl (q_add_i rfl rfl rfl oM) (G.mv ?_)
   rw [e2]
   refine G.call (xs := [_, _, _]) rfl rfl (inflate_spec s (at_ + 2) most hs oM hm) bd_53_F9 rfl rfl rfl rfl tK (fun _ _ _ _ _ _ => trivial) ?_
   rintro _ _ ⟨rfl, rfl⟩
   rw [hx]
   unfold inflV
   try dsimp only [List.cons_append, List.nil_append]
   refine G.mv ?_
   refine G.q rfl rfl rfl rfl (q_extract rfl rfl rfl) (G.q rfl rfl rfl rfl (q_extract rfl rfl rfl) (G.q rfl rfl rfl rfl (q_extract rfl rfl rfl) (G.as ?_)))
   refine G.as ?_
   refine G.as ?_
   refine G.nil (EN.sub (sC 0 (sC 1 (sC 6 (sC 7 (sC 8 (sC 9 (sC 10 (sC 11 Sub.nil)))))))) ?_)
   refine EN.ts (CG.sr (G.mv ?_))
   refine G.q rfl rfl rfl rfl (q_neq rfl rfl rfl) (G.nil (EN.then ?_))
   refine CG.cond rfl (fun h53 => ?_) (fun h53 => ?_)
   ·
    rw [if_pos oM] at hE
    refine CG.sr (G.mv ?_)
    refine G.as ?_
    refine G.as ?_
    refine G.as ?_
    refine G.nil (EN.then (CG.ret (EN.then_ret ?_)))
    rw [← hE]
    try unfold inflV
    try dsimp only
    exact fin_ret3 rfl rfl rfl rfl tK sF (⟨rfl, rfl⟩) _ (.inl rfl)
   ·
    rw [if_neg oM] at hE
    refine CG.skip (EN.tsr (G.mv ?_))
    refine G.q rfl rfl rfl rfl (q_add_i rfl rfl rfl oM) (G.mv ?_)
    refine G.q rfl rfl rfl rfl (q_add_i rfl rfl rfl oM) (G.as ?_)
    refine G.nil (EN.ts (CG.sr (G.mv ?_)))
    refine G.q rfl rfl rfl rfl (q_len_str rfl rfl us_9_F1) (G.mv ?_)
    refine G.q rfl rfl rfl rfl (q_sub_i rfl rfl rfl oM) (G.q rfl rfl rfl rfl (q_lss rfl rfl rfl) (G.nil (EN.sub (sC 0 (sC 6 (sC 7 (sC 8 (sC 9 (sC 10 (sC 12 (sC 63 Sub.nil)))))))) ?_)))
    refine EN.then ?_
    refine CG.cond rfl (fun h63 => ?_) (fun h63 => ?_)
    ·
     rw [if_pos oM] at hE
     refine CG.sr (G.as ?_)
     refine G.as ?_
     refine G.as ?_
     refine G.nil (EN.then (CG.ret (EN.then_ret ?_)))
     rw [← hE]
     try unfold inflV
     try dsimp only
     exact fin_ret3 rfl rfl rfl rfl tK sF (⟨rfl, rfl⟩) _ (.inl rfl)
    ·
     rw [if_neg oM] at hE
     have e12 : ((at_ : Int) + 2 + x.2.1) = ((at_ + 2 + x.2.1 : Nat) : Int) := by omega
     have e67 : (((at_ + 2 + x.2.1 : Nat) : Int) + 4) = ((at_ + 2 + x.2.1 + 4 : Nat) : Int) := by omega
     have hb := Sums.fromBig_lt' (s := (s.take (at_ + 2 + x.2.1 + 4)).drop (at_ + 2 + x.2.1)) (j := 4) (by simp; omega)
     refine CG.skip (EN.ts (CG.sr (G.mv ?_)))
     refine G.mv ?_
     refine G.mv ?_
     refine G.q rfl rfl rfl rfl (q_add_i rfl rfl rfl oM) ?_
     rw [e12, e67]
     refine G.q rfl rfl rfl rfl (q_slice_lh rfl rfl rfl rfl us_9_F1 oM) (G.call (xs := [_]) rfl rfl (fromBig_spec _ (by simp; omega)) bd_19_F9 rfl rfl rfl rfl tK (fun _ _ _ _ _ _ => trivial) ?_)
     rintro _ _ ⟨rfl, rfl⟩
     try dsimp only [List.cons_append, List.nil_append]
     refine G.q rfl rfl rfl rfl (q_conv_in rfl rfl is_58_F1 ik_28_F9 (wrapu_in (b := 32) rfl rfl oM)) (G.mv ?_)
     refine G.call (xs := [_]) rfl rfl (adler_spec x.1 oM) bd_54_F9 rfl rfl rfl rfl tK (fun _ _ _ _ _ _ => trivial) ?_
     rintro _ _ ⟨rfl, rfl⟩
     try dsimp only [List.cons_append, List.nil_append]
     refine G.q rfl rfl rfl rfl (q_neq rfl rfl rfl) (G.nil (EN.sub (sC 6 (sC 7 (sC 8 (sC 9 (sC 10 (sC 73 Sub.nil)))))) ?_))
     refine EN.then ?_
     refine CG.cond rfl (fun h73 => ?_) (fun h73 => ?_)
     ·
      rw [if_pos h73] at hE
      refine CG.sr (G.as ?_)
      refine G.as ?_
      refine G.as ?_
      refine G.nil (EN.then (CG.ret (EN.then_ret ?_)))
      rw [← hE]
      try unfold inflV
      try dsimp only
      exact fin_ret3 rfl rfl rfl rfl tK sF (⟨rfl, rfl⟩) _ (.inl rfl)
     ·
      rw [if_neg h73] at hE
      refine CG.skip (EN.tsr (G.mv ?_))
      refine G.mv ?_
      refine G.q rfl rfl rfl rfl (q_add_i rfl rfl rfl oM) (G.as ?_)
      refine G.as ?_
      refine G.as ?_
      refine G.nil (EN.then (CG.ret ?_))
      rw [← hE]
      try unfold inflV
      try dsimp only
      exact fin_ret3 rfl rfl rfl rfl tK sF (⟨rfl, rfl⟩) _ (.inl rfl)

set_option maxRecDepth 100000 in
set_option maxHeartbeats 1000000 in
theorem frame_spec (t s : List UInt8) (ht : t.length ≤ 1000000000) (hs : s.length ≤ 1000000000) : Spec Tryz.prog 62 #[str t, str s] [] (Ret fun v hl => v = str ([120, 1] ++ t ++ Sums.big (Sums.adler s) 4) ∧ hl = []) := by
 have ha := Sums.adler_lt s
 refine Spec.enter Tryz.func62 rfl rfl rfl (fun F w0 => ?_)
 dsimp only [argL, List.cons_append, List.nil_append]
 refine CG.sr (G.as ?_)
 refine G.nil (EN.tsr (G.mv ?_))
 refine G.q rfl rfl rfl rfl (q_add_s rfl rfl rfl (by simp; omega)) (G.mv ?_)
 refine G.call (xs := [_]) rfl rfl (adler_spec s oM) bd_54_F9 rfl rfl rfl rfl tK (fun _ _ _ _ _ _ => trivial) ?_
 rintro _ _ ⟨rfl, rfl⟩
 try dsimp only [List.cons_append, List.nil_append]
 refine G.q rfl rfl rfl rfl (q_conv_in rfl rfl is_28_F2 ik_58_F9 (wrapu_in (b := 64) rfl rfl oM)) (G.call (xs := [_, _]) rfl rfl (big_spec (Sums.adler s) 4 oM oM) bd_34_F9 rfl rfl rfl rfl tK (fun _ _ _ _ _ _ => trivial) ?_)
 rintro _ _ ⟨rfl, rfl⟩
 try dsimp only [List.cons_append, List.nil_append]
 refine G.q rfl rfl rfl rfl (q_add_s rfl rfl rfl (by simp [Sums.big]; omega)) (G.as ?_)
 refine G.nil (EN.sub (sC 4 Sub.nil) ?_)
 refine EN.then (CG.ret ?_)
 exact fin_ret1 rfl rfl tK sF (⟨rfl, rfl⟩) _ (.inl rfl)

end Go.Eng
/-
  Objects: Name, Check.
-/
set_option linter.unusedVariables false
set_option linter.unusedSimpArgs false
namespace Go.Eng
open Go.Proofs
theorem bd_61_F13 : bodied Tryz.prog 61 = true := by kernel_rfl
theorem fo_51_0_F13 : fieldOff Tryz.prog 51 0 = some 0 := by kernel_rfl
theorem fo_51_1_F13 : fieldOff Tryz.prog 51 1 = some 1 := by kernel_rfl

def oname (k : Int) : List UInt8 := if k = 1 then [99, 111, 109, 109, 105, 116] else if k = 2 then [116, 114, 101, 101] else if k = 3 then [98, 108, 111, 98] else if k = 4 then [116, 97, 103] else []
theorem oname_nil (k : Int) : oname k = [] ↔ ¬ (1 ≤ k ∧ k ≤ 4) := by
  unfold oname
  split
  · simp; omega
  · split
    · simp; omega
    · split
      · simp; omega
      · split
        · simp; omega
        · simp; omega
def ocheck (k : Int) (d : List UInt8) : Nat := if oname k = [] then 10 else if 65000 < d.length then 2 else 0

set_option maxRecDepth 100000 in
set_option maxHeartbeats 1000000 in
theorem oname_spec (k : Int) : Spec Tryz.prog 61 #[.int .i64 k] [] (Ret fun v hl => v = str (oname k) ∧ hl = []) := by
 refine Spec.enter Tryz.func61 rfl rfl rfl (fun F w0 => ?_)
 dsimp only [argL, List.cons_append, List.nil_append]
 refine CG.sr (G.as ?_)
 refine G.nil (EN.ts (CG.sr (G.mv ?_)))
 refine G.nil (EN.then (CG.block (CG.sr (G.q rfl rfl rfl rfl (q_eql rfl rfl rfl) (G.as ?_)))))
 refine G.nil (EN.then ?_)
 refine CG.cond rfl (fun h4 => ?_) (fun h4 => ?_)
 ·
  have e : oname k = [99, 111, 109, 109, 105, 116] := if_pos h4
  refine CG.sr (G.as ?_)
  refine G.nil (EN.then (CG.ret (EN.in_ret ?_)))
  refine EN.then_ret ?_
  rw [e]
  exact fin_ret1 rfl rfl tK sF (⟨rfl, rfl⟩) _ (.inl rfl)
 ·
  refine CG.sr (G.q rfl rfl rfl rfl (q_eql rfl rfl rfl) (G.as ?_))
  refine G.nil (EN.then ?_)
  refine CG.cond rfl (fun h6 => ?_) (fun h6 => ?_)
  ·
   have e : oname k = [116, 114, 101, 101] := by unfold oname; rw [if_neg h4, if_pos h6]
   refine CG.sr (G.as ?_)
   refine G.nil (EN.then (CG.ret (EN.in_ret ?_)))
   refine EN.then_ret ?_
   rw [e]
   exact fin_ret1 rfl rfl tK sF (⟨rfl, rfl⟩) _ (.inl rfl)
  ·
   refine CG.sr (G.q rfl rfl rfl rfl (q_eql rfl rfl rfl) (G.as ?_))
   refine G.nil (EN.then ?_)
   refine CG.cond rfl (fun h8 => ?_) (fun h8 => ?_)
   ·
    have e : oname k = [98, 108, 111, 98] := by unfold oname; rw [if_neg h4, if_neg h6, if_pos h8]
    refine CG.sr (G.as ?_)
    refine G.nil (EN.then (CG.ret (EN.in_ret ?_)))
    refine EN.then_ret ?_
    rw [e]
    exact fin_ret1 rfl rfl tK sF (⟨rfl, rfl⟩) _ (.inl rfl)
   ·
    refine CG.sr (G.q rfl rfl rfl rfl (q_eql rfl rfl rfl) (G.as ?_))
    refine G.nil (EN.sub (sC 2 (sC 10 Sub.nil)) ?_)
    refine EN.then ?_
    refine CG.cond rfl (fun h10 => ?_) (fun h10 => ?_)
    ·
     have e : oname k = [116, 97, 103] := by unfold oname; rw [if_neg h4, if_neg h6, if_neg h8, if_pos h10]
     refine CG.sr (G.as ?_)
     refine G.nil (EN.then (CG.ret (EN.in_ret ?_)))
     refine EN.then_ret ?_
     rw [e]
     exact fin_ret1 rfl rfl tK sF (⟨rfl, rfl⟩) _ (.inl rfl)
    ·
     have e : oname k = [] := by unfold oname; rw [if_neg h4, if_neg h6, if_neg h8, if_neg h10]
     refine CG.skip (EN.in_normal (EN.tsr (G.as ?_)))
     refine G.nil (EN.then (CG.ret ?_))
     rw [e]
     exact fin_ret1 rfl rfl tK sF (⟨rfl, rfl⟩) _ (.inl rfl)

set_option maxRecDepth 100000 in
set_option maxHeartbeats 1000000 in
theorem ocheck_spec (k : Int) (d : List UInt8) : Spec Tryz.prog 35 #[.agg #[.int .i64 k, str d]] [] (Ret fun v hl => v = .int .i64 (ocheck k d) ∧ hl = []) := by
 refine Spec.enter Tryz.func35 rfl rfl rfl (fun F w0 => ?_)
 dsimp only [argL, List.cons_append, List.nil_append]
 refine CG.sr (G.e rfl rfl rfl rfl (e_box rfl rfl) (fun _ _ _ _ _ _ => trivial) ?_)
 rintro _ _ ⟨b1, rfl, rfl⟩
 refine G.as ?_
 refine G.nil (EN.ts (CG.sr (G.q rfl rfl rfl rfl (q_field0 rfl rfl fo_51_0_F13) (G.ld ag_3_F1 ?_))))
 refine G.call (xs := [_]) rfl rfl (oname_spec k) bd_61_F13 rfl rfl rfl rfl tK (fun _ _ _ _ _ _ => trivial) ?_
 rintro _ _ ⟨rfl, rfl⟩
 try dsimp only [List.cons_append, List.nil_append]
 refine G.q rfl rfl rfl rfl (q_eql_s rfl rfl rfl) (G.nil (EN.then ?_))
 refine CG.cond rfl (fun h6 => ?_) (fun h6 => ?_)
 ·
  have e : ocheck k d = 10 := if_pos h6
  refine CG.sr (G.as ?_)
  refine G.nil (EN.then (CG.ret (EN.then_ret ?_)))
  rw [e]
  exact fin_ret1 rfl rfl tK sF (⟨rfl, rfl⟩) _ (.inl rfl)
 ·
  refine CG.skip (EN.ts (CG.sr (G.q rfl rfl rfl rfl (q_field0 rfl rfl fo_51_1_F13) (G.ld ag_9_F1 ?_))))
  refine G.q rfl rfl rfl rfl (q_len_str rfl rfl us_9_F1) (G.q rfl rfl rfl rfl (q_gtr rfl rfl rfl) (G.nil (EN.sub (sC 2 (sC 10 Sub.nil)) ?_)))
  refine EN.then ?_
  refine CG.cond rfl (fun h10 => ?_) (fun h10 => ?_)
  ·
   have e : ocheck k d = 2 := by unfold ocheck; rw [if_neg h6, if_pos oM]
   refine CG.sr (G.as ?_)
   refine G.nil (EN.then (CG.ret (EN.then_ret ?_)))
   rw [e]
   exact fin_ret1 rfl rfl tK sF (⟨rfl, rfl⟩) _ (.inl rfl)
  ·
   have e : ocheck k d = 0 := by unfold ocheck; rw [if_neg h6, if_neg oM]
   refine CG.skip (EN.tsr (G.as ?_))
   refine G.nil (EN.then (CG.ret ?_))
   rw [e]
   exact fin_ret1 rfl rfl tK sF (⟨rfl, rfl⟩) _ (.inl rfl)

end Go.Eng
/-
  SHA-1: small functions, and the block.
-/
set_option linter.unusedVariables false
set_option linter.unusedSimpArgs false
namespace Go.Eng
open Go.Proofs
theorem ae_148_F10 : arrE Tryz.prog 148 = some (80, 28) := by kernel_rfl
theorem ag_148_F10 : aggB Tryz.prog 148 = some true := by kernel_rfl
theorem bd_101_F10 : bodied Tryz.prog 101 = true := by kernel_rfl
theorem bd_102_F10 : bodied Tryz.prog 102 = true := by kernel_rfl
theorem bs_90_5_all_F10 : ∀ (x0 : Int) (x1 : Int) (x2 : Int) (x3 : Int) (x4 : Int) (w : World), (Instr.buildSlice 90 5 [(0, .int .u32 x0), (1, .int .u32 x1), (2, .int .u32 x2), (3, .int .u32 x3), (4, .int .u32 x4)].toArray).run Tryz.prog w = .ok (.slice (some ⟨w.heap.size, 0, none⟩) 5 5) { w with heap := w.heap.push (.cells [.int .u32 x0, .int .u32 x1, .int .u32 x2, .int .u32 x3, .int .u32 x4].toArray 28) } := fun _ _ _ _ _ _ => by kernel_rfl
theorem ik_28_F10 : intK Tryz.prog 28 = some .u32 := by kernel_rfl
theorem ik_89_F10 : intK Tryz.prog 89 = some .u64 := by kernel_rfl
theorem se_90_F10 : sliceE Tryz.prog 90 = some 28 := by kernel_rfl
theorem sz_148_F10 : sizeB Tryz.prog 148 = some 80 := by kernel_rfl
theorem zl_148_F10 : zeroL Tryz.prog 148 = some [.int .u32 0, .int .u32 0, .int .u32 0, .int .u32 0, .int .u32 0, .int .u32 0, .int .u32 0, .int .u32 0, .int .u32 0, .int .u32 0, .int .u32 0, .int .u32 0, .int .u32 0, .int .u32 0, .int .u32 0, .int .u32 0, .int .u32 0, .int .u32 0, .int .u32 0, .int .u32 0, .int .u32 0, .int .u32 0, .int .u32 0, .int .u32 0, .int .u32 0, .int .u32 0, .int .u32 0, .int .u32 0, .int .u32 0, .int .u32 0, .int .u32 0, .int .u32 0, .int .u32 0, .int .u32 0, .int .u32 0, .int .u32 0, .int .u32 0, .int .u32 0, .int .u32 0, .int .u32 0, .int .u32 0, .int .u32 0, .int .u32 0, .int .u32 0, .int .u32 0, .int .u32 0, .int .u32 0, .int .u32 0, .int .u32 0, .int .u32 0, .int .u32 0, .int .u32 0, .int .u32 0, .int .u32 0, .int .u32 0, .int .u32 0, .int .u32 0, .int .u32 0, .int .u32 0, .int .u32 0, .int .u32 0, .int .u32 0, .int .u32 0, .int .u32 0, .int .u32 0, .int .u32 0, .int .u32 0, .int .u32 0, .int .u32 0, .int .u32 0, .int .u32 0, .int .u32 0, .int .u32 0, .int .u32 0, .int .u32 0, .int .u32 0, .int .u32 0, .int .u32 0, .int .u32 0, .int .u32 0] := by kernel_rfl

set_option maxRecDepth 100000 in
set_option maxHeartbeats 1000000 in
theorem rot_spec (x : Int) (n : Nat) (hn : 0 < n ∧ n < 32) : Spec Tryz.prog 102 #[.int .u32 x, .int .i64 n] [] (Ret fun v hl => v = .int .u32 (Sha.rot x n) ∧ hl = []) := by
 refine Spec.enter Tryz.func102 rfl rfl rfl (fun F w0 => ?_)
 dsimp only [argL, List.cons_append, List.nil_append]
 refine CG.sr (G.as ?_)
 refine G.nil (EN.tsr (G.mv ?_))
 refine G.q rfl rfl rfl rfl (q_conv_in rfl rfl is_3_F4 ik_89_F10 (wrapu_in (b := 64) rfl rfl oM)) (G.q rfl rfl rfl rfl (q_andm (j := 5) (d := 32) rfl rfl rfl lOm lOm (by decide) (by decide) (by decide)) (G.as ?_))
 refine G.nil (EN.ts ?_)
 rw [show ((n : Int) % 32) = n by omega]
 have e1 : min ((n : Int)).toNat IntKind.u32.bits = n := by simp only [IntKind.bits]; omega
 have e2 : min ((32 : Int) - n).toNat IntKind.u32.bits = 32 - n := by simp only [IntKind.bits]; omega
 refine CG.reg (G.mv ?_)
 refine G.mv ?_
 refine G.q rfl rfl rfl rfl (q_shl rfl rfl rfl oM) (G.mv ?_)
 refine G.mv ?_
 refine G.q rfl rfl rfl rfl (q_subw rfl rfl rfl lOm lOm) (G.q rfl rfl rfl rfl (q_shr rfl rfl rfl oM) (G.q rfl rfl rfl rfl (q_or rfl rfl rfl) (G.as ?_)))
 refine G.nil (EN.sub (sC 4 Sub.nil) ?_)
 refine EN.then (CG.ret ?_)
 rw [e1, e2]
 exact fin_ret1 rfl rfl tK sF (⟨rfl, rfl⟩) _ (.inl rfl)

set_option maxRecDepth 100000 in
set_option maxHeartbeats 1000000 in
theorem word_spec (p : List UInt8) (k : Nat) (h : 4 * k + 4 ≤ p.length) : Spec Tryz.prog 101 #[str (p.drop (4 * k))] [] (Ret fun v hl => v = .int .u32 (Sha.word p k) ∧ hl = []) := by
 have g0 : (p.drop (4 * k))[0]? = some (p.getD (4 * k) 0) := by rw [List.getElem?_drop]; exact getD_u8 oM
 have g1 : (p.drop (4 * k))[1]? = some (p.getD (4 * k + 1) 0) := by rw [List.getElem?_drop]; exact getD_u8 oM
 have g2 : (p.drop (4 * k))[2]? = some (p.getD (4 * k + 2) 0) := by rw [List.getElem?_drop]; exact getD_u8 oM
 have g3 : (p.drop (4 * k))[3]? = some (p.getD (4 * k + 3) 0) := by rw [List.getElem?_drop]; exact getD_u8 oM
 have l0 := u8_lt (p.getD (4 * k) 0)
 have l1 := u8_lt (p.getD (4 * k + 1) 0)
 have l2 := u8_lt (p.getD (4 * k + 2) 0)
 have l3 := u8_lt (p.getD (4 * k + 3) 0)
 refine Spec.enter Tryz.func101 rfl rfl rfl (fun F w0 => ?_)
 dsimp only [argL, List.cons_append, List.nil_append]
 refine CG.sr (G.as ?_)
 refine G.nil (EN.ts ?_)
 refine CG.regT [5, 9, 14, 19] mixed (by kernel_rfl) ?_
 refine G.mv ?_
 refine G.q rfl rfl rfl rfl (q_index rfl rfl rfl us_9_F1 (g0)) (G.q rfl rfl rfl rfl (q_conv_in rfl rfl is_5_F1 ik_28_F10 (wrapu_in (b := 32) rfl rfl oM)) (G.q rfl rfl rfl rfl (q_shlcw (d := 16777216) rfl rfl rfl (by decide) (by decide) lOm lOm) (G.mv ?_)))
 refine G.q rfl rfl rfl rfl (q_index rfl rfl rfl us_9_F1 (g1)) (G.q rfl rfl rfl rfl (q_conv_in rfl rfl is_5_F1 ik_28_F10 (wrapu_in (b := 32) rfl rfl oM)) (G.q rfl rfl rfl rfl (q_shlcw (d := 65536) rfl rfl rfl (by decide) (by decide) lOm lOm) (G.q rfl rfl rfl rfl (q_ord (j := 24) (d := 16777216) rfl rfl rfl (by decide) lOm lOm lOm (by decide)) (G.mv ?_))))
 refine G.q rfl rfl rfl rfl (q_index rfl rfl rfl us_9_F1 (g2)) (G.q rfl rfl rfl rfl (q_conv_in rfl rfl is_5_F1 ik_28_F10 (wrapu_in (b := 32) rfl rfl oM)) (G.q rfl rfl rfl rfl (q_shlcw (d := 256) rfl rfl rfl (by decide) (by decide) lOm lOm) (G.q rfl rfl rfl rfl (q_ord (j := 16) (d := 65536) rfl rfl rfl (by decide) lOm lOm lOm (by decide)) (G.mv ?_))))
 refine G.q rfl rfl rfl rfl (q_index rfl rfl rfl us_9_F1 (g3)) (G.q rfl rfl rfl rfl (q_conv_in rfl rfl is_5_F1 ik_28_F10 (wrapu_in (b := 32) rfl rfl oM)) (G.q rfl rfl rfl rfl (q_ord (j := 8) (d := 256) rfl rfl rfl (by decide) lOm lOm lOm (by decide)) (G.as ?_)))
 refine G.nil (EN.sub (sC 2 Sub.nil) ?_)
 refine EN.then (CG.ret ?_)
 exact fin_ret1 rfl rfl tK sF (⟨rfl, rfl⟩) _ (.inl rfl)

set_option maxRecDepth 100000 in
set_option maxHeartbeats 1000000 in
theorem start1_spec : Spec Tryz.prog 73 #[] [] (Ret fun v hl => ∃ b, v = .slice (some ⟨b, 0, none⟩) 5 5 ∧ hl = [cel b 28 (Sha.cells Sha.start1)]) := by
 refine Spec.enter Tryz.func73 rfl rfl rfl (fun F w0 => ?_)
 dsimp only [argL, List.cons_append, List.nil_append]
 refine CG.sr (G.as ?_)
 refine G.nil (EN.tsr (G.e rfl rfl rfl rfl (e_bslice rfl rfl (bs_90_5_all_F10 _ _ _ _ _)) (fun _ _ _ _ _ _ => trivial) ?_))
 rintro _ _ ⟨b1, rfl, rfl⟩
 refine G.as ?_
 refine G.nil (EN.then (CG.ret ?_))
 exact fin_ret1 rfl rfl tK sF (⟨b1, rfl, rfl⟩) _ (.inl rfl)

set_option maxRecDepth 100000 in
set_option maxHeartbeats 1000000 in
theorem block1_spec (g cc U : Nat) (h : Sha.S5) (rest : List Value) (p : List UInt8) (hp : p.length = 64) : Spec Tryz.prog 74 #[.slice (some ⟨g, 0, none⟩) 5 cc, str p] [cel g U (Sha.cells h ++ rest)] (Ret fun v hl => v = .tuple #[] ∧ hl = [cel g U (Sha.cells (Sha.block h p) ++ rest)]) := by
 obtain ⟨a, b, c, d, e⟩ := h
 rw [show Sha.cells ⟨a, b, c, d, e⟩ ++ rest = .int .u32 a :: .int .u32 b :: .int .u32 c :: .int .u32 d :: .int .u32 e :: rest from rfl]
 refine Spec.enter Tryz.func74 rfl rfl rfl (fun F w0 => ?_)
 dsimp only [argL, List.cons_append, List.nil_append]
 refine CG.sr (G.e rfl rfl rfl rfl (e_alloc rfl zl_148_F10) (fun _ _ _ _ _ _ => trivial) ?_)
 rintro _ _ ⟨b4, rfl, rfl⟩
 refine G.nil (EN.ts (CG.sr (G.mv ?_)))
 refine G.nil (EN.then (CG.block (CG.loopI (fun m L H => ∃ k : Nat, k ≤ 80 ∧ m = (80) - k ∧ L = [(0, .slice (some ⟨g, 0, none⟩) 5 cc), (1, str p), (4, .pointer (some ⟨b4, 0, none⟩)), (15, .int .i64 k)] ∧ H = [cel b4 148 (Sha.arrC p k), cel g U (.int .u32 a :: .int .u32 b :: .int .u32 c :: .int .u32 d :: .int .u32 e :: rest)] ++ F) ((80) - 0) (hl := [_, _]) (⟨0, Nat.zero_le _, rfl, rfl, rfl⟩) sB rfl tK sF ?_)))
 rintro m L H ⟨k, hk, rfl, rfl, rfl⟩
 try dsimp only [List.cons_append, List.nil_append]
 refine CG.sr (G.q rfl rfl rfl rfl (q_lss rfl rfl rfl) (G.nil (EN.ts ?_)))
 refine CG.cond rfl (fun h16 => ?_) (fun h16 => ?_)
 ·
  have hk2 : k < 80 := by omega
  have e4k : ((4 : Int) * k) = ((4 * k : Nat) : Int) := by omega
  refine CG.skip (EN.ts (CG.block (CG.sr (G.mv ?_))))
  refine G.as ?_
  refine G.nil (EN.tsr (G.mv ?_))
  refine G.q rfl rfl rfl rfl (q_lss rfl rfl rfl) (G.nil (EN.then ?_))
  refine CG.cond rfl (fun h19 => ?_) (fun h19 => ?_)
  ·
   refine CG.reg (G.mv ?_)
   refine G.mv ?_
   refine G.mv ?_
   refine G.q rfl rfl rfl rfl (q_mul_i rfl rfl rfl oM) ?_
   rw [e4k]
   refine G.q rfl rfl rfl rfl (q_slice_lo rfl rfl rfl us_9_F1 oM) (G.call (xs := [_]) rfl rfl (word_spec p k oM) bd_101_F10 rfl rfl rfl rfl tK (fun _ _ _ _ _ _ => trivial) ?_)
   rintro _ _ ⟨rfl, rfl⟩
   try dsimp only [List.cons_append, List.nil_append]
   refine G.q rfl rfl rfl rfl (q_ixarr rfl rfl rfl ae_148_F10 sz_28_F3 oM) ?_
   refine G.e0 rfl rfl rfl (e_store rfl rfl rfl sz_28_F3 rfl (Sha.arr_set p hk2 (if_pos oM)) .here) (fun _ _ _ _ _ _ => trivial) ?_
   rintro _ _ ⟨rfl, rfl⟩
   refine G.nil (EN.sub (sC 0 (sC 1 (sC 4 (sC 15 Sub.nil)))) ?_)
   refine EN.in_normal (EN.tr ?_)
   refine G.q rfl rfl rfl rfl (q_add_i rfl rfl rfl oM) (G.mv ?_)
   refine G.nil ?_
   exact EN.round (hl := [_, _]) ((80) - (k + 1)) oM (⟨k + 1, by omega, rfl, rfl, rfl⟩) sB rfl tK sF
  ·
   have e3 : ((k : Int) - 3) = ((k - 3 : Nat) : Int) := by omega
   have e8 : ((k : Int) - 8) = ((k - 8 : Nat) : Int) := by omega
   have e14 : ((k : Int) - 14) = ((k - 14 : Nat) : Int) := by omega
   have e16 : ((k : Int) - 16) = ((k - 16 : Nat) : Int) := by omega
   refine CG.regT [] mixed (by kernel_rfl) ?_
   refine G.mv ?_
   refine G.mv ?_
   refine G.q rfl rfl rfl rfl (q_sub_i rfl rfl rfl oM) ?_
   rw [e3]
   refine G.q rfl rfl rfl rfl (q_ixarr rfl rfl rfl ae_148_F10 sz_28_F3 oM) (G.r rfl rfl rfl rfl (r_load rfl rfl ag_28_F3 .here (Sha.arr_nth p oM)) ?_)
   refine G.mv ?_
   refine G.q rfl rfl rfl rfl (q_sub_i rfl rfl rfl oM) ?_
   rw [e8]
   refine G.q rfl rfl rfl rfl (q_ixarr rfl rfl rfl ae_148_F10 sz_28_F3 oM) (G.r rfl rfl rfl rfl (r_load rfl rfl ag_28_F3 .here (Sha.arr_nth p oM)) ?_)
   refine G.q rfl rfl rfl rfl (q_xor rfl rfl rfl) (G.mv ?_)
   refine G.q rfl rfl rfl rfl (q_sub_i rfl rfl rfl oM) ?_
   rw [e14]
   refine G.q rfl rfl rfl rfl (q_ixarr rfl rfl rfl ae_148_F10 sz_28_F3 oM) (G.r rfl rfl rfl rfl (r_load rfl rfl ag_28_F3 .here (Sha.arr_nth p oM)) ?_)
   refine G.q rfl rfl rfl rfl (q_xor rfl rfl rfl) (G.mv ?_)
   refine G.q rfl rfl rfl rfl (q_sub_i rfl rfl rfl oM) ?_
   rw [e16]
   refine G.q rfl rfl rfl rfl (q_ixarr rfl rfl rfl ae_148_F10 sz_28_F3 oM) (G.r rfl rfl rfl rfl (r_load rfl rfl ag_28_F3 .here (Sha.arr_nth p oM)) ?_)
   refine G.q rfl rfl rfl rfl (q_xor rfl rfl rfl) (G.call (xs := [_, _]) rfl rfl (rot_spec _ 1 oM) bd_102_F10 rfl rfl rfl rfl tK (fun _ _ _ _ _ _ => trivial) ?_)
   rintro _ _ ⟨rfl, rfl⟩
   try dsimp only [List.cons_append, List.nil_append]
   refine G.q rfl rfl rfl rfl (q_ixarr rfl rfl rfl ae_148_F10 sz_28_F3 oM) ?_
   refine G.e0 rfl rfl rfl (e_store rfl rfl rfl sz_28_F3 rfl (Sha.arr_set p hk2 (if_neg oM)) .here) (fun _ _ _ _ _ _ => trivial) ?_
   rintro _ _ ⟨rfl, rfl⟩
   refine G.nil (EN.sub (sC 0 (sC 1 (sC 4 (sC 15 Sub.nil)))) ?_)
   refine EN.in_normal (EN.tr ?_)
   refine G.q rfl rfl rfl rfl (q_add_i rfl rfl rfl oM) (G.mv ?_)
   refine G.nil ?_
   exact EN.round (hl := [_, _]) ((80) - (k + 1)) oM (⟨k + 1, by omega, rfl, rfl, rfl⟩) sB rfl tK sF
 ·
  obtain rfl : k = 80 := by omega
  refine CG.exit ?_
  refine EN.then_exit (EN.then_exit (EN.in_here ?_))
  refine EN.ts ?_
  refine CG.regT [] mixed (by kernel_rfl) ?_
  refine G.mv ?_
  refine G.q rfl rfl rfl rfl (q_ixaddr1 rfl rfl rfl se_90_F10 sz_28_F3 (by decide)) (G.ld ag_28_F3 ?_)
  refine G.mv ?_
  refine G.q rfl rfl rfl rfl (q_ixaddr1 rfl rfl rfl se_90_F10 sz_28_F3 (by decide)) (G.ld ag_28_F3 ?_)
  refine G.mv ?_
  refine G.q rfl rfl rfl rfl (q_ixaddr1 rfl rfl rfl se_90_F10 sz_28_F3 (by decide)) (G.ld ag_28_F3 ?_)
  refine G.mv ?_
  refine G.q rfl rfl rfl rfl (q_ixaddr1 rfl rfl rfl se_90_F10 sz_28_F3 (by decide)) (G.ld ag_28_F3 ?_)
  refine G.mv ?_
  refine G.q rfl rfl rfl rfl (q_ixaddr1 rfl rfl rfl se_90_F10 sz_28_F3 (by decide)) (G.ld ag_28_F3 ?_)
  refine G.as ?_
  refine G.as ?_
  refine G.as ?_
  refine G.as ?_
  refine G.as ?_
  refine G.nil (EN.sub (sC 0 (sC 4 (sC 6 (sC 7 (sC 8 (sC 9 (sC 10 Sub.nil))))))) ?_)
  refine EN.ts (CG.sr (G.r rfl rfl rfl rfl (r_loadall rfl rfl ag_148_F10 .here (by rw [Sha.arr_len p oM]; exact sz_148_F10)) ?_))
  refine G.mv ?_
  refine G.nil (EN.then (CG.block (CG.loopI (fun m L H => ∃ k : Nat, k ≤ 80 ∧ m = (80) - k ∧ L = [(0, .slice (some ⟨g, 0, none⟩) 5 cc), (6, .int .u32 (Sha.comp (Sha.sched p 80) ⟨a, b, c, d, e⟩ k).a), (7, .int .u32 (Sha.comp (Sha.sched p 80) ⟨a, b, c, d, e⟩ k).b), (8, .int .u32 (Sha.comp (Sha.sched p 80) ⟨a, b, c, d, e⟩ k).c), (9, .int .u32 (Sha.comp (Sha.sched p 80) ⟨a, b, c, d, e⟩ k).d), (10, .int .u32 (Sha.comp (Sha.sched p 80) ⟨a, b, c, d, e⟩ k).e), (65, .agg (Sha.arrC p 80).toArray), (66, .int .i64 k)] ∧ H = [cel g U (.int .u32 a :: .int .u32 b :: .int .u32 c :: .int .u32 d :: .int .u32 e :: rest)] ++ F) ((80) - 0) (hl := [_]) (⟨0, Nat.zero_le _, rfl, rfl, rfl⟩) sB rfl tK sF ?_)))
  rintro m L H ⟨k, hk, rfl, rfl, rfl⟩
  try dsimp only [List.cons_append, List.nil_append]
  refine CG.sr (G.q rfl rfl rfl rfl (q_lss rfl rfl rfl) (G.nil (EN.ts ?_)))
  refine CG.cond rfl (fun h67 => ?_) (fun h67 => ?_)
  ·
   have hk2 : k < 80 := by omega
   refine CG.skip (EN.ts (CG.block (CG.sr (G.mv ?_))))
   refine G.q rfl rfl rfl rfl (q_ixagg rfl rfl rfl ae_148_F10 sz_28_F3 ag_28_F3 oM (Sha.arr_get p hk2)) (G.as ?_)
   refine G.as ?_
   refine G.nil (EN.tsr (G.mv ?_))
   refine G.mv ?_
   refine G.q rfl rfl rfl rfl (q_xor rfl rfl rfl) (G.mv ?_)
   refine G.q rfl rfl rfl rfl (q_xor rfl rfl rfl) (G.as ?_)
   refine G.as ?_
   refine G.nil (EN.then ?_)
   refine CG.cut (fun L H => ∃ f kk : Int, Sha.fk k (Sha.comp (Sha.sched p 80) ⟨a, b, c, d, e⟩ k).b (Sha.comp (Sha.sched p 80) ⟨a, b, c, d, e⟩ k).c (Sha.comp (Sha.sched p 80) ⟨a, b, c, d, e⟩ k).d = (f, kk) ∧ L = [(0, .slice (some ⟨g, 0, none⟩) 5 cc), (6, .int .u32 (Sha.comp (Sha.sched p 80) ⟨a, b, c, d, e⟩ k).a), (7, .int .u32 (Sha.comp (Sha.sched p 80) ⟨a, b, c, d, e⟩ k).b), (8, .int .u32 (Sha.comp (Sha.sched p 80) ⟨a, b, c, d, e⟩ k).c), (9, .int .u32 (Sha.comp (Sha.sched p 80) ⟨a, b, c, d, e⟩ k).d), (10, .int .u32 (Sha.comp (Sha.sched p 80) ⟨a, b, c, d, e⟩ k).e), (65, .agg (Sha.arrC p 80).toArray), (66, .int .i64 k), (12, .int .u32 ((Sha.sched p 80).getD k 0)), (13, .int .u32 f), (14, .int .u32 kk)] ∧ H = [cel g U (.int .u32 a :: .int .u32 b :: .int .u32 c :: .int .u32 d :: .int .u32 e :: rest)] ++ F) ?_ ?_
   ·
    refine CG.sr (G.mv ?_)
    refine G.q rfl rfl rfl rfl (q_quo_i rfl rfl rfl oM) (G.nil (EN.sub (sC 0 (sC 6 (sC 7 (sC 8 (sC 9 (sC 10 (sC 12 (sC 13 (sC 14 (sC 65 (sC 66 (sC 76 Sub.nil)))))))))))) ?_))
    refine EN.then (CG.block (CG.sr (G.q rfl rfl rfl rfl (q_eql rfl rfl rfl) (G.as ?_))))
    refine G.nil (EN.then ?_)
    refine CG.cond rfl (fun h77 => ?_) (fun h77 => ?_)
    ·
     have hfk := Sha.fk0 (i := k) (b := (Sha.comp (Sha.sched p 80) ⟨a, b, c, d, e⟩ k).b) (c := (Sha.comp (Sha.sched p 80) ⟨a, b, c, d, e⟩ k).c) (d := (Sha.comp (Sha.sched p 80) ⟨a, b, c, d, e⟩ k).d) oM
     refine CG.reg (G.mv ?_)
     refine G.mv ?_
     refine G.q rfl rfl rfl rfl (q_and rfl rfl rfl) (G.mv ?_)
     refine G.q rfl rfl rfl rfl (q_com rfl rfl) (G.mv ?_)
     refine G.q rfl rfl rfl rfl (q_and rfl rfl rfl) (G.q rfl rfl rfl rfl (q_or rfl rfl rfl) (G.as ?_))
     refine G.as ?_
     refine G.nil (EN.sub (sC 0 (sC 6 (sC 7 (sC 8 (sC 9 (sC 10 (sC 12 (sC 13 (sC 14 (sC 65 (sC 66 Sub.nil))))))))))) ?_)
     refine EN.in_normal ?_
     exact EN.cut (hl := [_]) (⟨_, _, hfk, rfl, rfl⟩) sB rfl tK sF
    ·
     refine CG.sr (G.q rfl rfl rfl rfl (q_eql rfl rfl rfl) (G.as ?_))
     refine G.nil (EN.then ?_)
     refine CG.cond rfl (fun h87 => ?_) (fun h87 => ?_)
     ·
      have hfk := Sha.fk1 (i := k) (b := (Sha.comp (Sha.sched p 80) ⟨a, b, c, d, e⟩ k).b) (c := (Sha.comp (Sha.sched p 80) ⟨a, b, c, d, e⟩ k).c) (d := (Sha.comp (Sha.sched p 80) ⟨a, b, c, d, e⟩ k).d) oM
      refine CG.reg (G.as ?_)
      refine G.nil (EN.in_normal ?_)
      exact EN.cut (hl := [_]) (⟨_, _, hfk, rfl, rfl⟩) sB rfl tK sF
     ·
      refine CG.sr (G.q rfl rfl rfl rfl (q_eql rfl rfl rfl) (G.as ?_))
      refine G.nil (EN.then ?_)
      refine CG.cond rfl (fun h89 => ?_) (fun h89 => ?_)
      ·
       have hfk := Sha.fk2 (i := k) (b := (Sha.comp (Sha.sched p 80) ⟨a, b, c, d, e⟩ k).b) (c := (Sha.comp (Sha.sched p 80) ⟨a, b, c, d, e⟩ k).c) (d := (Sha.comp (Sha.sched p 80) ⟨a, b, c, d, e⟩ k).d) oM
       refine CG.reg (G.mv ?_)
       refine G.mv ?_
       refine G.q rfl rfl rfl rfl (q_and rfl rfl rfl) (G.mv ?_)
       refine G.mv ?_
       refine G.q rfl rfl rfl rfl (q_and rfl rfl rfl) (G.q rfl rfl rfl rfl (q_or rfl rfl rfl) (G.mv ?_))
       refine G.mv ?_
       refine G.q rfl rfl rfl rfl (q_and rfl rfl rfl) (G.q rfl rfl rfl rfl (q_or rfl rfl rfl) (G.as ?_))
       refine G.as ?_
       refine G.nil (EN.sub (sC 0 (sC 6 (sC 7 (sC 8 (sC 9 (sC 10 (sC 12 (sC 13 (sC 14 (sC 65 (sC 66 Sub.nil))))))))))) ?_)
       refine EN.in_normal ?_
       exact EN.cut (hl := [_]) (⟨_, _, hfk, rfl, rfl⟩) sB rfl tK sF
      ·
       have hfk := Sha.fk3 (i := k) (b := (Sha.comp (Sha.sched p 80) ⟨a, b, c, d, e⟩ k).b) (c := (Sha.comp (Sha.sched p 80) ⟨a, b, c, d, e⟩ k).c) (d := (Sha.comp (Sha.sched p 80) ⟨a, b, c, d, e⟩ k).d) oM
       refine CG.skip (EN.in_normal ?_)
       exact EN.cut (hl := [_]) (⟨_, _, hfk, rfl, rfl⟩) sB rfl tK sF
   ·
    rintro L H ⟨f, kk, hfk, rfl, rfl⟩
    try dsimp only [List.cons_append, List.nil_append]
    have hA : IntKind.u32.wrap (IntKind.u32.wrap (IntKind.u32.wrap (IntKind.u32.wrap (Sha.rot (Sha.comp (Sha.sched p 80) ⟨a, b, c, d, e⟩ k).a 5 + f) + (Sha.comp (Sha.sched p 80) ⟨a, b, c, d, e⟩ k).e) + kk) + (Sha.sched p 80).getD k 0) = (Sha.comp (Sha.sched p 80) ⟨a, b, c, d, e⟩ (k + 1)).a := by
      rw [Sha.comp]; unfold Sha.step; rw [hfk]; rfl
    refine CG.reg (G.mv ?_)
    refine G.call (xs := [_, _]) rfl rfl (rot_spec _ 5 oM) bd_102_F10 rfl rfl rfl rfl tK (fun _ _ _ _ _ _ => trivial) ?_
    rintro _ _ ⟨rfl, rfl⟩
    try dsimp only [List.cons_append, List.nil_append]
    refine G.mv ?_
    refine G.q rfl rfl rfl rfl (q_add rfl rfl rfl) (G.mv ?_)
    refine G.q rfl rfl rfl rfl (q_add rfl rfl rfl) (G.mv ?_)
    refine G.q rfl rfl rfl rfl (q_add rfl rfl rfl) (G.mv ?_)
    refine G.q rfl rfl rfl rfl (q_add rfl rfl rfl) (G.mv ?_)
    refine G.mv ?_
    refine G.call (xs := [_, _]) rfl rfl (rot_spec _ 30 oM) bd_102_F10 rfl rfl rfl rfl tK (fun _ _ _ _ _ _ => trivial) ?_
    rintro _ _ ⟨rfl, rfl⟩
    try dsimp only [List.cons_append, List.nil_append]
    refine G.mv ?_
    refine G.mv ?_
    refine G.as ?_
    refine G.as ?_
    refine G.as ?_
    refine G.as ?_
    refine G.as ?_
    refine G.nil (EN.sub (sC 0 (sC 6 (sC 7 (sC 8 (sC 9 (sC 10 (sC 65 (sC 66 Sub.nil)))))))) ?_)
    refine EN.in_normal (EN.tr ?_)
    refine G.q rfl rfl rfl rfl (q_add_i rfl rfl rfl oM) (G.mv ?_)
    refine G.nil ?_
    rw [hA]
    exact EN.round (hl := [_]) ((80) - (k + 1)) oM (⟨k + 1, by omega, rfl, rfl, rfl⟩) sB rfl tK sF
  ·
   obtain rfl : k = 80 := by omega
   refine CG.exit ?_
   refine EN.then_exit (EN.then_exit (EN.in_here ?_))
   refine EN.tsr (G.mv ?_)
   refine G.q rfl rfl rfl rfl (q_ixaddr1 rfl rfl rfl se_90_F10 sz_28_F3 (by decide)) (G.ld ag_28_F3 ?_)
   refine G.mv ?_
   refine G.q rfl rfl rfl rfl (q_add rfl rfl rfl) (G.q rfl rfl rfl rfl (q_ixaddr1 rfl rfl rfl se_90_F10 sz_28_F3 (by decide)) ?_)
   refine G.st0 sz_28_F3 ?_
   refine G.nil (EN.sub (sC 0 (sC 7 (sC 8 (sC 9 (sC 10 Sub.nil))))) ?_)
   refine EN.tsr (G.mv ?_)
   refine G.q rfl rfl rfl rfl (q_ixaddr1 rfl rfl rfl se_90_F10 sz_28_F3 (by decide)) (G.ld ag_28_F3 ?_)
   refine G.mv ?_
   refine G.q rfl rfl rfl rfl (q_add rfl rfl rfl) (G.q rfl rfl rfl rfl (q_ixaddr1 rfl rfl rfl se_90_F10 sz_28_F3 (by decide)) ?_)
   refine G.st0 sz_28_F3 ?_
   refine G.nil (EN.tsr (G.mv ?_))
   refine G.q rfl rfl rfl rfl (q_ixaddr1 rfl rfl rfl se_90_F10 sz_28_F3 (by decide)) (G.ld ag_28_F3 ?_)
   refine G.mv ?_
   refine G.q rfl rfl rfl rfl (q_add rfl rfl rfl) (G.q rfl rfl rfl rfl (q_ixaddr1 rfl rfl rfl se_90_F10 sz_28_F3 (by decide)) ?_)
   refine G.st0 sz_28_F3 ?_
   refine G.nil (EN.sub (sC 0 (sC 9 (sC 10 Sub.nil))) ?_)
   refine EN.tsr (G.mv ?_)
   refine G.q rfl rfl rfl rfl (q_ixaddr1 rfl rfl rfl se_90_F10 sz_28_F3 (by decide)) (G.ld ag_28_F3 ?_)
   refine G.mv ?_
   refine G.q rfl rfl rfl rfl (q_add rfl rfl rfl) (G.q rfl rfl rfl rfl (q_ixaddr1 rfl rfl rfl se_90_F10 sz_28_F3 (by decide)) ?_)
   refine G.st0 sz_28_F3 ?_
   refine G.nil (EN.tr ?_)
   refine G.mv ?_
   refine G.q rfl rfl rfl rfl (q_ixaddr1 rfl rfl rfl se_90_F10 sz_28_F3 (by decide)) (G.ld ag_28_F3 ?_)
   refine G.mv ?_
   refine G.q rfl rfl rfl rfl (q_add rfl rfl rfl) (G.q rfl rfl rfl rfl (q_ixaddr1 rfl rfl rfl se_90_F10 sz_28_F3 (by decide)) ?_)
   refine G.st0 sz_28_F3 ?_
   refine G.nil ?_
   refine EN.sub Sub.nil ?_
   exact fin_ret0 rfl tK sF (⟨rfl, rfl⟩) _ (.inr rfl)

end Go.Eng
/-
  SHA-1: write, sum, Sum1.
-/
set_option linter.unusedVariables false
set_option linter.unusedSimpArgs false
namespace Go.Eng
open Go.Proofs
theorem ag_90_F11 : aggB Tryz.prog 90 = some false := by kernel_rfl
theorem bd_74_F11 : bodied Tryz.prog 74 = true := by kernel_rfl
theorem fo_92_0_F11 : fieldOff Tryz.prog 92 0 = some 0 := by kernel_rfl
theorem fo_92_1_F11 : fieldOff Tryz.prog 92 1 = some 1 := by kernel_rfl
theorem fo_92_2_F11 : fieldOff Tryz.prog 92 2 = some 2 := by kernel_rfl
theorem ik_58_F11 : intK Tryz.prog 58 = some .u64 := by kernel_rfl
theorem nf_28_F11 : infoB Tryz.prog 28 = some (some [.int .u32 0], 1, 4) := by kernel_rfl
theorem sz_90_F11 : sizeB Tryz.prog 90 = some 1 := by kernel_rfl
theorem sz_9_F11 : sizeB Tryz.prog 9 = some 1 := by kernel_rfl

def HashP (U b : Nat) (h : Sha.S5) (rest : List UInt8) (n : Int) (v : Value) : List HP := [cel b U [v, str rest, .int .u64 n], own 28 1 v 5 (Sha.cells h)]
def HashAt (U b : Nat) (h : Sha.S5) (rest : List UInt8) (n : Int) : HP := exS (HashP U b h rest n)
@[simp] theorem cells_len (h : Sha.S5) : (Sha.cells h).length = 5 := rfl
theorem cur5 {cur : List Value} {h : Sha.S5} (ht : cur.take (5 * 1) = Sha.cells h) : cur = Sha.cells h ++ cur.drop 5 := by rw [← ht]; exact (List.take_append_drop 5 cur).symm
theorem cells_one (h : Sha.S5) : ∀ u ∈ Sha.cells h, u.oneCell' = true := by intro u hu; simp [Sha.cells] at hu; rcases hu with rfl | rfl | rfl | rfl | rfl <;> rfl
theorem block1_own (g cc U : Nat) (h : Sha.S5) (cur : List Value) (p : List UInt8) (hp : p.length = 64) (ht : cur.take (5 * 1) = Sha.cells h) :
    Spec Tryz.prog 74 #[.slice (some ⟨g, 0, none⟩) 5 cc, str p] [cel g U cur] (Ret fun v hl => v = .tuple #[] ∧ hl = [cel g U (Sha.cells (Sha.block h p) ++ cur.drop 5)]) := by
  have := block1_spec g cc U h (cur.drop 5) p hp
  rw [← cur5 ht] at this
  exact this
theorem start_sl : sliceL (Sha.cells Sha.start1) 0 (5 * 1) = Sha.cells Sha.start1 := rfl
attribute [local irreducible] cel own exS Sha.block

set_option maxRecDepth 100000 in
set_option maxHeartbeats 1000000 in
theorem write5_spec (Ub b : Nat) (h : Sha.S5) (r t : List UInt8) (n : Int) (st : Value) (ht : t.length ≤ 900000000) (hr : r.length ≤ 64) : Spec Tryz.prog 72 #[.pointer (some ⟨b, 0, none⟩), str t, st, .func (.func 74) #[] #[]] [HashAt Ub b h r n] (Ret fun v hl => v = .tuple #[] ∧ hl = [HashAt Ub b (Sha.blocks h (r ++ t)).1 (Sha.blocks h (r ++ t)).2 (IntKind.u64.wrap (n + (t.length : Int)))]) := by
 refine Spec.enter Tryz.func72 rfl rfl rfl (fun F w0 => ?_)
 dsimp only [argL, List.cons_append, List.nil_append]
 refine CG.seq (CG.seq ?_)
 refine CG.openS (HashP Ub b h r n) tK1 (fun v => ?_)
 unfold HashP
 dsimp only [List.cons_append, List.nil_append]
 refine CG.ownSome v tK1 oM (fun g0 cap0 hv1 => ?_)
 subst hv1
 refine CG.reg (G.mv ?_)
 refine G.np ?_
 refine G.q rfl rfl rfl rfl (q_field0 rfl rfl fo_92_0_F11) (G.ld ag_90_F11 ?_)
 refine G.q rfl rfl rfl rfl (q_eqsl rfl rfl rfl se_90_F10) (G.nil (EN.then ?_))
 refine CG.condB rfl (fun h12 => ?_) (fun h12 => ?_)
 ·
  cases h12
 ·
  refine CG.skip (EN.tsr (G.mv ?_))
  refine G.np ?_
  refine G.q rfl rfl rfl rfl (q_field0 rfl rfl fo_92_2_F11) (G.ld ag_58_F1 ?_)
  refine G.mv ?_
  refine G.q rfl rfl rfl rfl (q_len_str rfl rfl us_9_F1) (G.q rfl rfl rfl rfl (q_conv_in rfl rfl is_3_F4 ik_58_F11 (wrapu_in (b := 64) rfl rfl oM)) (G.q rfl rfl rfl rfl (q_add rfl rfl rfl) (G.np ?_)))
  refine G.q rfl rfl rfl rfl (q_field0 rfl rfl fo_92_2_F11) ?_
  refine G.st0 sz_58_F1 ?_
  refine G.nil (EN.sub (sC 0 (sC 1 (sC 3 Sub.nil))) ?_)
  refine EN.tsr (G.mv ?_)
  refine G.np ?_
  refine G.q rfl rfl rfl rfl (q_field0 rfl rfl fo_92_1_F11) (G.ld ag_9_F1 ?_)
  refine G.mv ?_
  refine G.q rfl rfl rfl rfl (q_add_s rfl rfl rfl (by first | omega | (simp; omega))) (G.as ?_)
  refine G.nil (EN.ts (CG.block ?_))
  have hTl : (r ++ t).length ≤ 1000000000 := by first | omega | (rw [List.length_append]; omega)
  refine CG.loopI (fun m L H => ∃ (h' : Sha.S5) (t' : List UInt8), Sha.blocks h' t' = Sha.blocks h (r ++ t) ∧ m = t'.length ∧ t'.length ≤ 1000000000 ∧ L = [(0, .pointer (some ⟨b, 0, none⟩)), (1, str t'), (3, .func (.func 74) #[] #[])] ∧ H = [cel b Ub [(.slice (some ⟨g0, 0, none⟩) 5 cap0), str r, .int .u64 (IntKind.u64.wrap (n + (t.length : Int)))], own 28 1 (.slice (some ⟨g0, 0, none⟩) 5 cap0) 5 (Sha.cells h')] ++ F) ((r ++ t).length) (hl := [_, _]) (⟨_, _, rfl, rfl, hTl, rfl, rfl⟩) sB rfl tK sF ?_
  rintro m L H ⟨h, t, hgo, rfl, hlen, rfl, rfl⟩
  try dsimp only [List.cons_append, List.nil_append]
  refine CG.seq (CG.sr (G.mv ?_))
  refine G.q rfl rfl rfl rfl (q_len_str rfl rfl us_9_F1) (G.q rfl rfl rfl rfl (q_geq rfl rfl rfl) (G.nil (EN.then ?_)))
  refine CG.cond rfl (fun h36 => ?_) (fun h36 => ?_)
  ·
   have h64 : 64 ≤ t.length := by omega
   rw [Sha.blocks, dif_pos h64] at hgo
   refine CG.openOwn (v := .slice (some ⟨g0, 0, none⟩) 5 cap0) tK1 oM (fun g cap cur hv hcap hmx hcl hct => ?_)
   cases hv
   refine CG.skip (EN.then (CG.block (CG.seq ?_)))
   refine CG.regT [] mixed (by kernel_rfl) ?_
   refine G.mv ?_
   refine G.mv ?_
   refine G.np ?_
   refine G.q rfl rfl rfl rfl (q_field0 rfl rfl fo_92_0_F11) (G.ld ag_90_F11 ?_)
   refine G.mv ?_
   refine G.q rfl rfl rfl rfl (q_slice_hi rfl rfl rfl us_9_F1 (h64)) (G.callv (f := 74) (xs := [_, _]) rfl rfl rfl (block1_own g0 cap0 28 h cur (t.take 64) (by simp; omega) hct) bd_74_F11 rfl rfl rfl rfl tK (fun _ _ _ _ _ _ => trivial) ?_)
   rintro _ _ ⟨rfl, rfl⟩
   try dsimp only [List.cons_append, List.nil_append]
   refine G.nil (EN.sub (sC 0 (sC 1 (sC 3 Sub.nil))) ?_)
   refine EN.then (CG.closeOwn (g := g0) (sz := 1) tK1 hcap hmx (by simp [cells_len]; omega) rfl ?_)
   refine CG.reg (G.mv ?_)
   refine G.q rfl rfl rfl rfl (q_slice_lo rfl rfl rfl us_9_F1 (h64)) (G.as ?_)
   refine G.nil (EN.in_normal ?_)
   exact EN.round (hl := [_, _]) ((t.drop 64).length) (by simp; omega) (⟨_, _, hgo, rfl, by simp; omega, rfl, rfl⟩) sB rfl tK sF
  ·
   rw [Sha.blocks, dif_neg oM] at hgo
   refine CG.exit ?_
   refine EN.then_exit (EN.then_exit (EN.in_here ?_))
   refine EN.tr ?_
   refine G.mv ?_
   refine G.mv ?_
   refine G.np ?_
   refine G.q rfl rfl rfl rfl (q_field0 rfl rfl fo_92_1_F11) ?_
   refine G.st0 sz_9_F11 ?_
   refine G.nil ?_
   refine EN.sub Sub.nil ?_
   rw [← hgo]
   refine EN.closeS (HashP Ub b _ _ _) _ tK ?_
   exact fin_ret0 rfl tK sF (⟨rfl, rfl⟩) _ (.inr rfl)

set_option maxRecDepth 100000 in
set_option maxHeartbeats 1000000 in
theorem write0_spec (Ub b gs U cs : Nat) (t : List UInt8) (ht : t.length ≤ 900000000) : Spec Tryz.prog 72 #[.pointer (some ⟨b, 0, none⟩), str t, .slice (some ⟨gs, 0, none⟩) 5 cs, .func (.func 74) #[] #[]] [cel b Ub [.slice none 0 0, str [], .int .u64 0], cel gs U (Sha.cells Sha.start1)] (Ret fun v hl => v = .tuple #[] ∧ hl = [HashAt Ub b (Sha.blocks Sha.start1 t).1 (Sha.blocks Sha.start1 t).2 (0 + (t.length : Int))]) := by
 refine Spec.enter Tryz.func72 rfl rfl rfl (fun F w0 => ?_)
 dsimp only [argL, List.cons_append, List.nil_append]
 refine CG.seq (CG.sr (G.mv ?_))
 refine G.np ?_
 refine G.q rfl rfl rfl rfl (q_field0 rfl rfl fo_92_0_F11) (G.ld ag_90_F11 ?_)
 refine G.q rfl rfl rfl rfl (q_eqsl rfl rfl rfl se_90_F10) (G.nil (EN.then ?_))
 refine CG.condB rfl (fun h12 => ?_) (fun h12 => ?_)
 ·
  refine CG.ownNil 28 1 ?_
  refine CG.reg (G.mv ?_)
  refine G.mv ?_
  refine G.e rfl rfl rfl rfl (e_append_off rfl rfl rfl se_90_F10 nf_28_F11 rfl tK1 mB (start_sl) (by simp) (cells_one _) oM) (fun _ _ _ _ _ _ => trivial) ?_
  rintro _ _ rfl
  simp only [Nat.zero_add, List.nil_append]
  refine G.ownShape tK1 ?_
  rintro ad cap0 hv0
  cases hv0
  refine G.np ?_
  refine G.q rfl rfl rfl rfl (q_field0 rfl rfl fo_92_0_F11) ?_
  refine G.st0 sz_90_F11 ?_
  refine G.nil (EN.sub (sC 0 (sC 1 (sC 3 Sub.nil))) ?_)
  refine EN.ts ?_
  refine CG.ownSome _ tK1 oM (fun g0 cc0 hv1 => ?_)
  cases hv1
  refine CG.reg (G.mv ?_)
  refine G.np ?_
  refine G.q rfl rfl rfl rfl (q_field0 rfl rfl fo_92_2_F11) (G.ld ag_58_F1 ?_)
  refine G.mv ?_
  refine G.q rfl rfl rfl rfl (q_len_str rfl rfl us_9_F1) (G.q rfl rfl rfl rfl (q_conv_in rfl rfl is_3_F4 ik_58_F11 (wrapu_in (b := 64) rfl rfl oM)) (G.q rfl rfl rfl rfl (q_addw rfl rfl rfl lOm lOm) (G.np ?_)))
  refine G.q rfl rfl rfl rfl (q_field0 rfl rfl fo_92_2_F11) ?_
  refine G.st0 sz_58_F1 ?_
  refine G.nil (EN.sub (sC 0 (sC 1 (sC 3 Sub.nil))) ?_)
  refine EN.tsr (G.mv ?_)
  refine G.np ?_
  refine G.q rfl rfl rfl rfl (q_field0 rfl rfl fo_92_1_F11) (G.ld ag_9_F1 ?_)
  refine G.mv ?_
  refine G.q rfl rfl rfl rfl (q_add_s rfl rfl rfl (by first | omega | (simp; omega))) (G.as ?_)
  refine G.nil (EN.ts (CG.block ?_))
  have hTl : t.length ≤ 1000000000 := by first | omega | (rw [List.length_append]; omega)
  refine CG.loopI (fun m L H => ∃ (h' : Sha.S5) (t' : List UInt8), Sha.blocks h' t' = Sha.blocks Sha.start1 t ∧ m = t'.length ∧ t'.length ≤ 1000000000 ∧ L = [(0, .pointer (some ⟨b, 0, none⟩)), (1, str t'), (3, .func (.func 74) #[] #[])] ∧ H = [cel b Ub [(.slice (some ⟨g0, 0, none⟩) 5 cap0), str ([] : List UInt8), .int .u64 (0 + (t.length : Int))], own 28 1 (.slice (some ⟨g0, 0, none⟩) 5 cap0) 5 (Sha.cells h')] ++ F) (t.length) (hl := [_, _]) (⟨_, _, rfl, rfl, hTl, rfl, rfl⟩) sB rfl tK sF ?_
  rintro m L H ⟨h, t, hgo, rfl, hlen, rfl, rfl⟩
  try dsimp only [List.cons_append, List.nil_append]
  refine CG.seq (CG.sr (G.mv ?_))
  refine G.q rfl rfl rfl rfl (q_len_str rfl rfl us_9_F1) (G.q rfl rfl rfl rfl (q_geq rfl rfl rfl) (G.nil (EN.then ?_)))
  refine CG.cond rfl (fun h36 => ?_) (fun h36 => ?_)
  ·
   have h64 : 64 ≤ t.length := by omega
   rw [Sha.blocks, dif_pos h64] at hgo
   refine CG.openOwn (v := .slice (some ⟨g0, 0, none⟩) 5 cap0) tK1 oM (fun g cap cur hv hcap hmx hcl hct => ?_)
   cases hv
   refine CG.skip (EN.then (CG.block (CG.seq ?_)))
   refine CG.regT [] mixed (by kernel_rfl) ?_
   refine G.mv ?_
   refine G.mv ?_
   refine G.np ?_
   refine G.q rfl rfl rfl rfl (q_field0 rfl rfl fo_92_0_F11) (G.ld ag_90_F11 ?_)
   refine G.mv ?_
   refine G.q rfl rfl rfl rfl (q_slice_hi rfl rfl rfl us_9_F1 (h64)) (G.callv (f := 74) (xs := [_, _]) rfl rfl rfl (block1_own g0 cap0 28 h cur (t.take 64) (by simp; omega) hct) bd_74_F11 rfl rfl rfl rfl tK (fun _ _ _ _ _ _ => trivial) ?_)
   rintro _ _ ⟨rfl, rfl⟩
   try dsimp only [List.cons_append, List.nil_append]
   refine G.nil (EN.sub (sC 0 (sC 1 (sC 3 Sub.nil))) ?_)
   refine EN.then (CG.closeOwn (g := g0) (sz := 1) tK1 hcap hmx (by simp [cells_len]; omega) rfl ?_)
   refine CG.reg (G.mv ?_)
   refine G.q rfl rfl rfl rfl (q_slice_lo rfl rfl rfl us_9_F1 (h64)) (G.as ?_)
   refine G.nil (EN.in_normal ?_)
   exact EN.round (hl := [_, _]) ((t.drop 64).length) (by simp; omega) (⟨_, _, hgo, rfl, by simp; omega, rfl, rfl⟩) sB rfl tK sF
  ·
   rw [Sha.blocks, dif_neg oM] at hgo
   refine CG.exit ?_
   refine EN.then_exit (EN.then_exit (EN.in_here ?_))
   refine EN.tr ?_
   refine G.mv ?_
   refine G.mv ?_
   refine G.np ?_
   refine G.q rfl rfl rfl rfl (q_field0 rfl rfl fo_92_1_F11) ?_
   refine G.st0 sz_9_F11 ?_
   refine G.nil ?_
   refine EN.sub Sub.nil ?_
   rw [← hgo]
   refine EN.closeS (HashP Ub b _ _ _) _ tK ?_
   exact fin_ret0 rfl tK sF (⟨rfl, rfl⟩) _ (.inr rfl)
 ·
  cases h12

end Go.Eng
/-
  SHA-1: sum, Sum1.
-/
set_option linter.unusedVariables false
set_option linter.unusedSimpArgs false
namespace Go.Eng
open Go.Proofs
theorem bT_80_9_F12 : bytesT Tryz.prog 80 9 = some 5 := by kernel_rfl
theorem bd_72_F12 : bodied Tryz.prog 72 = true := by kernel_rfl
theorem bs_80_4_all_F12 : ∀ (x0 : Int) (x1 : Int) (x2 : Int) (x3 : Int) (w : World), (Instr.buildSlice 80 4 [(0, .int .u8 x0), (1, .int .u8 x1), (2, .int .u8 x2), (3, .int .u8 x3)].toArray).run Tryz.prog w = .ok (.slice (some ⟨w.heap.size, 0, none⟩) 4 4) { w with heap := w.heap.push (.cells [.int .u8 x0, .int .u8 x1, .int .u8 x2, .int .u8 x3].toArray 5) } := fun _ _ _ _ _ => by kernel_rfl
theorem bu_92_0_1_2_F12 : ∀ (x0a : Option Addr) (x0n x0c : Nat) (x1 : List UInt8) (x2 : Int) (w : World), (Instr.build 92 [(0, .slice x0a x0n x0c), (1, str x1), (2, .int .u64 x2)].toArray).run Tryz.prog w = .ok (.agg [.slice x0a x0n x0c, str x1, .int .u64 x2].toArray) w := fun _ _ _ _ _ _ => by kernel_rfl
theorem ik_5_F12 : intK Tryz.prog 5 = some .u8 := by kernel_rfl
theorem sz_92_F12 : sizeB Tryz.prog 92 = some 3 := by kernel_rfl
theorem zl_92_F12 : zeroL Tryz.prog 92 = some [.slice none 0 0, str [], .int .u64 0] := by kernel_rfl

theorem outW_len (l : List Int) : (l.flatMap Sha.outW).length = 4 * l.length := by
  induction l with
  | nil => rfl
  | cons x l ih => simp only [List.flatMap_cons, List.length_append, ih, List.length_cons, Sha.outW, List.length_nil]; omega
theorem own_lenB {e k : Nat} {u : Value} {n : Int} : own e 1 u (k + 1) ((Sha.lenB n k).map u8v ++ [.int .u8 ((u8i (IntKind.u64.wrap (n * 8) / 2 ^ (56 - 8 * k))).toNat : Int)]) = own e 1 u (k + 1) ((Sha.lenB n (k + 1)).map u8v) := by
  unfold Sha.lenB; rw [Sums.range_take]; simp [u8v]
theorem own_outW {e : Nat} {u : Value} {l : List Int} {x : Int} : own e 1 u ((l.flatMap Sha.outW).length + 4) ((l.flatMap Sha.outW).map u8v ++ [.int .u8 ((u8i (x / 16777216)).toNat : Int), .int .u8 ((u8i (x / 65536)).toNat : Int), .int .u8 ((u8i (x / 256)).toNat : Int), .int .u8 ((u8i x).toNat : Int)]) = own e 1 u ((l ++ [x]).flatMap Sha.outW).length (((l ++ [x]).flatMap Sha.outW).map u8v) := by
  simp [Sha.outW, u8v]

attribute [local irreducible] cel own exS Sha.block

set_option maxRecDepth 100000 in
set_option maxHeartbeats 1000000 in
theorem sum_spec (Ub b : Nat) (h : Sha.S5) (r : List UInt8) (n : Int) (sa : Option Addr) (sn sc : Nat) (hr : r.length < 64) : Spec Tryz.prog 75 #[.pointer (some ⟨b, 0, none⟩), .slice sa sn sc, .func (.func 74) #[] #[]] [HashAt Ub b h r n] (Ret fun v hl => v = str (Sha.outB (Sha.blocks h (r ++ Sha.padded r.length n)).1) ∧ hl = []) := by
 refine Spec.enter Tryz.func75 rfl rfl rfl (fun F w0 => ?_)
 dsimp only [argL, List.cons_append, List.nil_append]
 refine CG.seq ?_
 refine CG.openS (HashP Ub b h r n) tK1 (fun v => ?_)
 unfold HashP
 dsimp only [List.cons_append, List.nil_append]
 refine CG.openOwn (v := v) tK1 oM (fun g0 cap0 cur hv1 hcap hmx hcl hct => ?_)
 subst hv1
 refine CG.ownNil 28 1 ?_
 have hsl : sliceL cur 0 (5 * 1) = Sha.cells h := by rw [cur5 hct]; rfl
 refine CG.reg (G.as ?_)
 refine G.nil (EN.then ?_)
 refine CG.cut (fun L H => ∃ (b7 : Nat) (ad : Option Addr) (c2 : Nat), L = [(0, .pointer (some ⟨b, 0, none⟩)), (1, .slice sa sn sc), (2, .func (.func 74) #[] #[]), (7, .pointer (some ⟨b7, 0, none⟩))] ∧ H = [cel b7 92 [.slice ad 5 c2, str r, .int .u64 n], own 28 1 (.slice ad 5 c2) 5 (Sha.cells h), cel b Ub [.slice (some ⟨g0, 0, none⟩) 5 cap0, str r, .int .u64 n], cel g0 28 cur] ++ F) ?_ ?_
 ·
  refine CG.regA (.ask 4 14 (.ord [0, 1, 2, 3, 4, 5, 6, 7, 8, 9, 10, 11, 12, 13, 14, 15]) (.ord [0, 1, 2, 3, 5, 6, 7, 8, 9, 10, 11, 12, 14, 4, 13, 15])) [17, 22, 26] (Keeps _ [cel b Ub [.slice (some ⟨g0, 0, none⟩) 5 cap0, str r, .int .u64 n], cel g0 28 cur]) mixed (by kernel_rfl) (fun w hw => Keeps.of hw tK) ?_
  intro o ho; simp only [Ask.orders, List.cons_append, List.nil_append, List.mem_cons, List.not_mem_nil, or_false] at ho
  rcases ho with rfl | rfl
  ·
   dsimp only [pick, nth]
   refine G.mv ?_
   refine G.np ?_
   refine G.q rfl rfl rfl rfl (q_field0 rfl rfl fo_92_0_F11) (G.rK rfl rfl rfl rfl rfl (fun R => r_load rfl rfl ag_90_F11 mB rfl) ?_)
   refine G.e rfl rfl rfl rfl (e_append_off rfl rfl rfl se_90_F10 nf_28_F11 rfl tK1 mB (hsl) (by simp) (cells_one _) oM) (fun _ _ _ w hR hw => by subst hR; exact Keeps.of hw tK) ?_
   rintro _ _ rfl
   simp only [Nat.zero_add, List.nil_append]
   refine G.ownShape tK1 ?_
   rintro ad c2 hv0
   cases hv0
   refine G.mv ?_
   refine G.np ?_
   refine G.q rfl rfl rfl rfl (q_field0 rfl rfl fo_92_1_F11) (G.rK rfl rfl rfl rfl rfl (fun R => r_load rfl rfl ag_9_F1 mB rfl) ?_)
   refine G.mv ?_
   refine G.np ?_
   refine G.q rfl rfl rfl rfl (q_field0 rfl rfl fo_92_2_F11) (G.rK rfl rfl rfl rfl rfl (fun R => r_load rfl rfl ag_58_F1 mB rfl) ?_)
   refine G.q rfl rfl rfl rfl (q_build rfl rfl (bu_92_0_1_2_F12 _ _ _ _ _)) (G.e rfl rfl rfl rfl (e_alloc rfl zl_92_F12) (fun _ _ _ w hR hw => by obtain ⟨_, _, rfl⟩ := hR; exact Keeps.of hw tK) ?_)
   rintro _ _ ⟨b7, rfl, rfl⟩
   refine G.saK sz_92_F12 ?_
   refine G.nil (EN.sub (sC 0 (sC 1 (sC 2 (sC 6 (sC 7 Sub.nil))))) ?_)
   exact EN.cut (hl := [_, _, _, _]) (⟨_, _, _, rfl, rfl⟩) sB rfl tK sF
  ·
   dsimp only [pick, nth]
   refine G.mv ?_
   refine G.np ?_
   refine G.q rfl rfl rfl rfl (q_field0 rfl rfl fo_92_0_F11) (G.rK rfl rfl rfl rfl rfl (fun R => r_load rfl rfl ag_90_F11 mB rfl) ?_)
   refine G.mv ?_
   refine G.np ?_
   refine G.q rfl rfl rfl rfl (q_field0 rfl rfl fo_92_1_F11) (G.rK rfl rfl rfl rfl rfl (fun R => r_load rfl rfl ag_9_F1 mB rfl) ?_)
   refine G.mv ?_
   refine G.np ?_
   refine G.q rfl rfl rfl rfl (q_field0 rfl rfl fo_92_2_F11) (G.rK rfl rfl rfl rfl rfl (fun R => r_load rfl rfl ag_58_F1 mB rfl) ?_)
   refine G.e rfl rfl rfl rfl (e_alloc rfl zl_92_F12) (fun _ _ _ w hR hw => by obtain ⟨_, _, rfl⟩ := hR; exact Keeps.of hw tK) ?_
   rintro _ _ ⟨b7, rfl, rfl⟩
   refine G.e rfl rfl rfl rfl (e_append_off rfl rfl rfl se_90_F10 nf_28_F11 rfl tK1 mB (hsl) (by simp) (cells_one _) oM) (fun _ _ _ w hR hw => by subst hR; exact Keeps.of hw tK) ?_
   rintro _ _ rfl
   simp only [Nat.zero_add, List.nil_append]
   refine G.ownShape tK1 ?_
   rintro ad c2 hv0
   cases hv0
   refine G.q rfl rfl rfl rfl (q_build rfl rfl (bu_92_0_1_2_F12 _ _ _ _ _)) (G.saK sz_92_F12 ?_)
   refine G.nil (EN.sub (sC 0 (sC 1 (sC 2 (sC 6 (sC 7 Sub.nil))))) ?_)
   exact EN.cut (hl := [_, _, _, _]) (⟨_, _, _, rfl, rfl⟩) sB rfl tK sF
 ·
  rintro L H ⟨b7, ad, c2, rfl, rfl⟩
  try dsimp only [List.cons_append, List.nil_append]
  refine CG.seq (CG.sr (G.mv ?_))
  refine G.np ?_
  refine G.q rfl rfl rfl rfl (q_field0 rfl rfl fo_92_0_F11) (G.ld ag_90_F11 ?_)
  refine G.q rfl rfl rfl rfl (q_eqsl rfl rfl rfl se_90_F10) (G.nil (EN.then ?_))
  refine CG.condB rfl (fun h32 => ?_) (fun h32 => ?_)
  ·
   cases h32
  ·
   refine CG.skip (EN.tsr (G.as ?_))
   refine G.nil (EN.ts (CG.block (CG.loopI (fun m L H => ∃ j : Nat, j ≤ Sha.padN r.length ∧ m = (Sha.padN r.length) - j ∧ L = [(0, .pointer (some ⟨b, 0, none⟩)), (1, .slice sa sn sc), (2, .func (.func 74) #[] #[]), (7, .pointer (some ⟨b7, 0, none⟩)), (8, str (128 :: List.replicate j 0))] ∧ H = [cel b7 92 [.slice ad 5 c2, str r, .int .u64 n], own 28 1 (.slice ad 5 c2) 5 (Sha.cells h), cel b Ub [.slice (some ⟨g0, 0, none⟩) 5 cap0, str r, .int .u64 n]] ++ F) ((Sha.padN r.length) - 0) (hl := [_, _, _]) (⟨0, Nat.zero_le _, rfl, rfl, rfl⟩) sB rfl tK sF ?_)))
   rintro m L H ⟨j, hk, rfl, rfl, rfl⟩
   try dsimp only [List.cons_append, List.nil_append]
   have hpl : ((128 : UInt8) :: List.replicate j 0).length = j + 1 := by simp
   have hj64 : Sha.padN r.length ≤ 63 := by unfold Sha.padN; omega
   have hpd : (r.length + 1 + Sha.padN r.length) % 64 = 56 := by unfold Sha.padN; omega
   refine CG.seq (CG.sr (G.mv ?_))
   refine G.np ?_
   refine G.q rfl rfl rfl rfl (q_field0 rfl rfl fo_92_1_F11) (G.ld ag_9_F1 ?_)
   refine G.q rfl rfl rfl rfl (q_len_str rfl rfl us_9_F1) (G.mv ?_)
   refine G.q rfl rfl rfl rfl (q_len_str rfl rfl us_9_F1) ?_
   rw [hpl]
   refine G.q rfl rfl rfl rfl (q_add_i rfl rfl rfl oM) (G.q rfl rfl rfl rfl (q_rem_n rfl rfl rfl oM) (G.q rfl rfl rfl rfl (q_neq rfl rfl rfl) (G.nil (EN.sub (sC 0 (sC 1 (sC 2 (sC 7 (sC 8 (sC 43 Sub.nil)))))) ?_))))
   refine EN.then ?_
   refine CG.cond rfl (fun h43 => ?_) (fun h43 => ?_)
   ·
    have hj2 : j < Sha.padN r.length := by omega
    have hrep : (128 : UInt8) :: List.replicate j 0 ++ [0] = 128 :: List.replicate (j + 1) 0 := by rw [List.replicate_succ']; rfl
    refine CG.skip (EN.then (CG.block (CG.reg (G.mv ?_))))
    refine G.q rfl rfl rfl rfl (q_add_s rfl rfl rfl (by simp; omega)) (G.as ?_)
    refine G.nil (EN.in_normal ?_)
    rw [hrep]
    exact EN.round (hl := [_, _, _]) ((Sha.padN r.length) - (j + 1)) oM (⟨j + 1, by omega, rfl, rfl, rfl⟩) sB rfl tK sF
   ·
    obtain rfl : j = Sha.padN r.length := by omega
    refine CG.exit ?_
    refine EN.then_exit (EN.then_exit (EN.in_here ?_))
    refine EN.tsr (G.as ?_)
    refine G.nil (EN.ts (CG.sr (G.as ?_)))
    refine G.nil (EN.then (CG.block (CG.ownNil 5 1 ?_)))
    refine CG.loopI (fun m L H => ∃ k : Nat, ∃ (v : Value), k ≤ 8 ∧ m = (8) - k ∧ L = [(0, .pointer (some ⟨b, 0, none⟩)), (1, .slice sa sn sc), (2, .func (.func 74) #[] #[]), (7, .pointer (some ⟨b7, 0, none⟩)), (8, str (128 :: List.replicate (Sha.padN r.length) 0)), (9, v), (10, .int .i64 (56 - 8 * (k : Int)))] ∧ H = [own 5 1 v k ((Sha.lenB n k).map u8v), cel b7 92 [.slice ad 5 c2, str r, .int .u64 n], own 28 1 (.slice ad 5 c2) 5 (Sha.cells h), cel b Ub [.slice (some ⟨g0, 0, none⟩) 5 cap0, str r, .int .u64 n]] ++ F) ((8) - 0) (hl := [_, _, _, _]) (⟨0, .slice none 0 0, Nat.zero_le _, rfl, rfl, rfl⟩) sB rfl tK sF ?_
    rintro m L H ⟨k, v, hk, rfl, rfl, rfl⟩
    try dsimp only [List.cons_append, List.nil_append]
    refine CG.seq (CG.sr (G.mv ?_))
    refine G.q rfl rfl rfl rfl (q_geq rfl rfl rfl) (G.nil (EN.then ?_))
    refine CG.cond rfl (fun h47 => ?_) (fun h47 => ?_)
    ·
     have hk2 : k < 8 := by omega
     have hsh : min (56 - 8 * (k : Int)).toNat IntKind.u64.bits = 56 - 8 * k := by simp only [IntKind.bits]; omega
     refine CG.skip (EN.ts (CG.block (CG.reg (G.mv ?_))))
     refine G.mv ?_
     refine G.np ?_
     refine G.q rfl rfl rfl rfl (q_field0 rfl rfl fo_92_2_F11) (G.ld ag_58_F1 ?_)
     refine G.q rfl rfl rfl rfl (q_mul rfl rfl rfl) (G.mv ?_)
     refine G.q rfl rfl rfl rfl (q_shr rfl rfl rfl oM) ?_
     rw [hsh]
     refine G.q rfl rfl rfl rfl (q_conv_u8 rfl rfl is_58_F1 ik_5_F12) (G.e rfl rfl rfl rfl (e_bslice rfl rfl (bs_80_1_all_F2 _)) (fun _ _ _ _ _ _ => trivial) ?_)
     rintro _ _ ⟨b59, rfl, rfl⟩
     refine G.e rfl rfl rfl rfl (e_append rfl rfl rfl se_80_F2 nf_5_F2 rfl tK1 mB (by rfl) (by simp [Value.oneCell', str]) oM) (fun _ _ _ _ _ _ => trivial) ?_
     rintro _ _ rfl
     rw [own_lenB]
     refine G.ownShape tK1 ?_
     rintro ad3 c3 rfl
     refine G.as ?_
     refine G.nil (EN.sub (sC 0 (sC 1 (sC 2 (sC 7 (sC 8 (sC 9 (sC 10 Sub.nil))))))) ?_)
     refine EN.in_normal (EN.tr ?_)
     refine G.mv ?_
     refine G.q rfl rfl rfl rfl (q_sub_i rfl rfl rfl oM) (G.as ?_)
     refine G.nil ?_
     rw [show (56 - 8 * (k : Int)) - 8 = 56 - 8 * ((k + 1 : Nat) : Int) by omega]
     exact EN.round (hl := [_, _, _, _]) ((8) - (k + 1)) oM (⟨k + 1, _, by omega, rfl, rfl, rfl⟩) sB rfl tK sF
    ·
     obtain rfl : k = 8 := by omega
     refine CG.exit ?_
     refine EN.then_exit (EN.then_exit (EN.in_here ?_))
     refine EN.tsr (G.mv ?_)
     refine G.mv ?_
     refine G.r rfl rfl rfl rfl (r_b2s rfl rfl bT_80_9_F12 mB) ?_
     refine G.q rfl rfl rfl rfl (q_add_s rfl rfl rfl (by simp [Sha.lenB]; omega)) (G.mv ?_)
     refine G.mv ?_
     refine G.closeS (HashP 92 b7 h r n) _ tK ?_
     refine G.call (xs := [_, _, _, _]) rfl rfl (write5_spec 92 b7 h r (Sha.padded r.length n) n (.slice sa sn sc) (by simp [Sha.padded, Sha.lenB]; omega) oM) bd_72_F12 rfl rfl rfl rfl tK (fun _ _ _ _ _ _ => trivial) ?_
     rintro _ _ ⟨rfl, rfl⟩
     try dsimp only [List.cons_append, List.nil_append]
     refine G.nil (EN.sub (sC 7 Sub.nil) ?_)
     refine EN.tsr (G.as ?_)
     refine G.nil (EN.ts (CG.seq ?_))
     generalize (Sha.blocks h (r ++ Sha.padded r.length n)).1 = h2
     generalize (Sha.blocks h (r ++ Sha.padded r.length n)).2 = r2
     refine CG.openS (HashP 92 b7 h2 r2 _) tK1 (fun v => ?_)
     unfold HashP
     dsimp only [List.cons_append, List.nil_append]
     refine CG.openOwn (v := v) tK1 oM (fun g2 cap2 cur2 hv2 hcap2 hmx2 hcl2 hct2 => ?_)
     subst hv2
     refine CG.reg (G.q rfl rfl rfl rfl (q_field0 rfl rfl fo_92_0_F11) (G.ld ag_90_F11 ?_))
     refine G.q rfl rfl rfl rfl (q_len_sl rfl rfl se_90_F10) (G.mv ?_)
     refine G.nil (EN.then (CG.block (CG.ownNil 5 1 ?_)))
     refine CG.loopI (fun m L H => ∃ k : Nat, ∃ (w : Value), k ≤ 5 ∧ m = (5) - k ∧ L = [(11, w), (69, .slice (some ⟨g2, 0, none⟩) 5 cap2), (70, .int .i64 (5 : Nat)), (71, .int .i64 k)] ∧ H = [own 5 1 w (((Sha.wordsL h2).take k).flatMap Sha.outW).length ((((Sha.wordsL h2).take k).flatMap Sha.outW).map u8v), cel g2 28 cur2] ++ F) ((5) - 0) (hl := [_, _]) (⟨0, .slice none 0 0, Nat.zero_le _, rfl, rfl, rfl⟩) sB rfl tK sF ?_
     rintro m L H ⟨k, w, hk, rfl, rfl, rfl⟩
     try dsimp only [List.cons_append, List.nil_append]
     refine CG.sr (G.q rfl rfl rfl rfl (q_lss rfl rfl rfl) (G.nil (EN.ts ?_)))
     refine CG.cond rfl (fun h72 => ?_) (fun h72 => ?_)
     ·
      obtain ⟨x, hx⟩ := get_some (l := Sha.wordsL h2) (k := k) (by simp [Sha.wordsL]; omega)
      have hs := take_snoc hx
      have hwl : (((Sha.wordsL h2).take k).flatMap Sha.outW).length = 4 * k := by
        rw [outW_len]; simp [Sha.wordsL]; omega
      have hcell : nth cur2 k = some (.int .u32 x) := nth_take hct2 (by rw [show Sha.cells h2 = (Sha.wordsL h2).map u32v from rfl, List.getElem?_map, hx]; rfl)
      refine CG.skip (EN.ts (CG.block (CG.sr (G.q rfl rfl rfl rfl (q_ixaddr1 rfl rfl rfl se_90_F10 sz_28_F3 oM) (G.r rfl rfl rfl rfl (r_load rfl rfl ag_28_F3 (.there .here) (hcell)) ?_)))))
      refine G.as ?_
      refine G.nil (EN.tr ?_)
      refine G.mv ?_
      refine G.mv ?_
      refine G.q rfl rfl rfl rfl (q_shrc (d := 16777216) rfl rfl rfl (by decide) (by decide)) (G.q rfl rfl rfl rfl (q_conv_u8 rfl rfl is_28_F2 ik_5_F12) (G.mv ?_))
      refine G.q rfl rfl rfl rfl (q_shrc (d := 65536) rfl rfl rfl (by decide) (by decide)) (G.q rfl rfl rfl rfl (q_conv_u8 rfl rfl is_28_F2 ik_5_F12) (G.mv ?_))
      refine G.q rfl rfl rfl rfl (q_shrc (d := 256) rfl rfl rfl (by decide) (by decide)) (G.q rfl rfl rfl rfl (q_conv_u8 rfl rfl is_28_F2 ik_5_F12) (G.mv ?_))
      refine G.q rfl rfl rfl rfl (q_conv_u8 rfl rfl is_28_F2 ik_5_F12) (G.e rfl rfl rfl rfl (e_bslice rfl rfl (bs_80_4_all_F12 _ _ _ _)) (fun _ _ _ _ _ _ => trivial) ?_)
      rintro _ _ ⟨b87, rfl, rfl⟩
      refine G.e rfl rfl rfl rfl (e_append rfl rfl rfl se_80_F2 nf_5_F2 rfl tK1 mB (by rfl) (by simp [Value.oneCell', str]) oM) (fun _ _ _ _ _ _ => trivial) ?_
      rintro _ _ rfl
      rw [own_outW, ← hs]
      refine G.ownShape tK1 ?_
      rintro ad3 c3 rfl
      refine G.as ?_
      refine G.nil (EN.sub (sC 11 (sC 69 (sC 70 (sC 71 Sub.nil)))) ?_)
      refine EN.in_normal (EN.tr ?_)
      refine G.q rfl rfl rfl rfl (q_add_i rfl rfl rfl oM) (G.mv ?_)
      refine G.nil ?_
      exact EN.round (hl := [_, _]) ((5) - (k + 1)) oM (⟨k + 1, _, by omega, rfl, rfl, rfl⟩) sB rfl tK sF
     ·
      obtain rfl : k = 5 := by omega
      refine CG.exit ?_
      refine EN.then_exit (EN.then_exit (EN.in_here ?_))
      refine EN.tsr (G.mv ?_)
      refine G.r rfl rfl rfl rfl (r_b2s rfl rfl bT_80_9_F12 mB) ?_
      refine G.as ?_
      refine G.nil (EN.then (CG.ret ?_))
      exact fin_ret1 rfl rfl tK sF (⟨rfl, rfl⟩) _ (.inl rfl)

end Go.Eng
/-
  SHA-1: Hash1, Sum1.
-/
set_option linter.unusedVariables false
set_option linter.unusedSimpArgs false
namespace Go.Eng
open Go.Proofs
theorem bd_45_F14 : bodied Tryz.prog 45 = true := by kernel_rfl
theorem bd_46_F14 : bodied Tryz.prog 46 = true := by kernel_rfl
theorem bd_73_F14 : bodied Tryz.prog 73 = true := by kernel_rfl
theorem bd_75_F14 : bodied Tryz.prog 75 = true := by kernel_rfl
theorem fo_94_0_F14 : fieldOff Tryz.prog 94 0 = some 0 := by kernel_rfl
theorem zl_94_F14 : zeroL Tryz.prog 94 = some [.slice none 0 0, str [], .int .u64 0] := by kernel_rfl

theorem blocks_lt (h : Sha.S5) (t : List UInt8) : (Sha.blocks h t).2.length < 64 := by
  induction h, t using Sha.blocks.induct with
  | case1 h t hh ih => rw [Sha.blocks, dif_pos hh]; exact ih
  | case2 h t hh => rw [Sha.blocks, dif_neg hh]; simp only; omega
theorem sum1_len (t : List UInt8) : (Sha.sum1 t).length = 20 := by
  unfold Sha.sum1 Sha.outB; rw [outW_len]; rfl

attribute [local irreducible] cel own exS Sha.block HashAt

set_option maxRecDepth 100000 in
set_option maxHeartbeats 1000000 in
theorem h1write_spec (b : Nat) (t : List UInt8) (ht : t.length ≤ 900000000) : Spec Tryz.prog 45 #[.pointer (some ⟨b, 0, none⟩), str t] [cel b 94 [.slice none 0 0, str [], .int .u64 0]] (Ret fun v hl => v = .tuple #[] ∧ hl = [HashAt 94 b (Sha.blocks Sha.start1 t).1 (Sha.blocks Sha.start1 t).2 (0 + (t.length : Int))]) := by
 refine Spec.enter Tryz.func45 rfl rfl rfl (fun F w0 => ?_)
 dsimp only [argL, List.cons_append, List.nil_append]
 refine CG.regT [] mixed (by kernel_rfl) ?_
 refine G.mv ?_
 refine G.np ?_
 refine G.q rfl rfl rfl rfl (q_field0 rfl rfl fo_94_0_F14) (G.mv ?_)
 refine G.call (xs := []) rfl rfl (start1_spec) bd_73_F14 rfl rfl rfl rfl tK (fun _ _ _ _ _ _ => trivial) ?_
 rintro _ _ ⟨bs, rfl, rfl⟩
 try dsimp only [List.cons_append, List.nil_append]
 refine G.call (xs := [_, _, _, _]) rfl rfl (write0_spec 94 b bs 28 5 t ht) bd_72_F12 rfl rfl rfl rfl tK (fun _ _ _ _ _ _ => trivial) ?_
 rintro _ _ ⟨rfl, rfl⟩
 try dsimp only [List.cons_append, List.nil_append]
 refine G.nil ?_
 exact fin_ret0 rfl tK sF (⟨rfl, rfl⟩) _ (.inr rfl)

set_option maxRecDepth 100000 in
set_option maxHeartbeats 1000000 in
theorem h1sum_spec (b : Nat) (h : Sha.S5) (r : List UInt8) (n : Int) (hr : r.length < 64) : Spec Tryz.prog 46 #[.pointer (some ⟨b, 0, none⟩)] [HashAt 94 b h r n] (Ret fun v hl => v = str (Sha.outB (Sha.blocks h (r ++ Sha.padded r.length n)).1) ∧ hl = []) := by
 refine Spec.enter Tryz.func46 rfl rfl rfl (fun F w0 => ?_)
 dsimp only [argL, List.cons_append, List.nil_append]
 refine CG.sr (G.as ?_)
 refine G.nil (EN.ts ?_)
 refine CG.regT [] mixed (by kernel_rfl) ?_
 refine G.mv ?_
 refine G.np ?_
 refine G.q rfl rfl rfl rfl (q_field0 rfl rfl fo_94_0_F14) (G.call (xs := []) rfl rfl (start1_spec) bd_73_F14 rfl rfl rfl rfl tK (fun _ _ _ _ _ _ => trivial) ?_)
 rintro _ _ ⟨bs, rfl, rfl⟩
 try dsimp only [List.cons_append, List.nil_append]
 refine G.call (xs := [_, _, _]) rfl rfl (sum_spec 94 b h r n (some ⟨bs, 0, none⟩) 5 5 hr) bd_75_F14 rfl rfl rfl rfl tK (fun _ _ _ _ _ _ => trivial) ?_
 rintro _ _ ⟨rfl, rfl⟩
 try dsimp only [List.cons_append, List.nil_append]
 refine G.as ?_
 refine G.nil (EN.then (CG.ret ?_))
 exact fin_ret1 rfl rfl tK sF (⟨rfl, rfl⟩) _ (.inl rfl)

set_option maxRecDepth 100000 in
set_option maxHeartbeats 1000000 in
theorem sum1_spec (t : List UInt8) (ht : t.length ≤ 900000000) : Spec Tryz.prog 20 #[str t] [] (Ret fun v hl => v = str (Sha.sum1 t) ∧ hl = []) := by
 refine Spec.enter Tryz.func20 rfl rfl rfl (fun F w0 => ?_)
 dsimp only [argL, List.cons_append, List.nil_append]
 refine CG.sr (G.as ?_)
 refine G.nil (EN.tsr (G.e rfl rfl rfl rfl (e_alloc rfl zl_94_F14) (fun _ _ _ _ _ _ => trivial) ?_))
 rintro _ _ ⟨b3, rfl, rfl⟩
 refine G.nil (EN.tsr (G.mv ?_))
 refine G.call (xs := [_, _]) rfl rfl (h1write_spec b3 t ht) bd_45_F14 rfl rfl rfl rfl tK (fun _ _ _ _ _ _ => trivial) ?_
 rintro _ _ ⟨rfl, rfl⟩
 try dsimp only [List.cons_append, List.nil_append]
 refine G.nil (EN.tsr (G.call (xs := [_]) rfl rfl (h1sum_spec b3 _ _ _ (blocks_lt _ _)) bd_46_F14 rfl rfl rfl rfl tK (fun _ _ _ _ _ _ => trivial) ?_))
 rintro _ _ ⟨rfl, rfl⟩
 try dsimp only [List.cons_append, List.nil_append]
 refine G.as ?_
 refine G.nil (EN.then (CG.ret ?_))
 exact fin_ret1 rfl rfl tK sF (⟨rfl, rfl⟩) _ (.inl rfl)

end Go.Eng
/-
  RFC 1951 written: Stored, symbolOf, Deflate; zlib.Write.
-/
set_option linter.unusedVariables false
set_option linter.unusedSimpArgs false
namespace Go.Eng
open Go.Proofs
theorem bd_116_F15 : bodied Tryz.prog 116 = true := by kernel_rfl
theorem bd_117_F15 : bodied Tryz.prog 117 = true := by kernel_rfl
theorem bd_93_F15 : bodied Tryz.prog 93 = true := by kernel_rfl
theorem bd_94_F15 : bodied Tryz.prog 94 = true := by kernel_rfl
theorem bd_95_F15 : bodied Tryz.prog 95 = true := by kernel_rfl
theorem bd_98_F15 : bodied Tryz.prog 98 = true := by kernel_rfl
theorem bd_99_F15 : bodied Tryz.prog 99 = true := by kernel_rfl
theorem ik_28_F15 : intK Tryz.prog 28 = some .u32 := by kernel_rfl
theorem ik_3_F15 : intK Tryz.prog 3 = some .i64 := by kernel_rfl
theorem ik_58_F15 : intK Tryz.prog 58 = some .u64 := by kernel_rfl
theorem mE_107_F15 : mapE Tryz.prog 107 = some (9, 3) := by kernel_rfl
theorem zB_3_F15 : zeroB Tryz.prog 3 = some (.int .i64 0) := by kernel_rfl
theorem zl_135_F15 : zeroL Tryz.prog 135 = some [.slice none 0 0, .int .u64 0, .int .i64 0] := by kernel_rfl

attribute [local irreducible] cel own exS Huff.code Defl.lit Defl.dst Defl.rep

set_option maxRecDepth 100000 in
set_option maxHeartbeats 1000000 in
theorem symL_spec (n : Nat) (h : 1 ≤ n ∧ n ≤ 100000) (h0 : (Infl.lengthBase 0).1 ≤ n) : Spec Tryz.prog 95 #[.int .i64 n, .int .i64 28, .func (.func 96) #[] #[]] [] (Ret fun v hl => v = .tuple #[.int .i64 (Defl.symOf Infl.lengthBase n 28).1, .int .u32 (Defl.symOf Infl.lengthBase n 28).2.1, .int .i64 (Defl.symOf Infl.lengthBase n 28).2.2] ∧ hl = []) := by
 refine Spec.enter Tryz.func95 rfl rfl rfl (fun F w0 => ?_)
 dsimp only [argL, List.cons_append, List.nil_append]
 refine CG.sr (G.as ?_)
 refine G.as ?_
 refine G.as ?_
 refine G.nil (EN.tsr (G.mv ?_))
 refine G.as ?_
 refine G.nil (EN.then (CG.block (CG.loopI (fun m L H => ∃ i : Nat, i ≤ 28 ∧ m = i + 1 ∧ Defl.symOf Infl.lengthBase n 28 = Defl.symOf Infl.lengthBase n i ∧ L = [(0, .int .i64 n), (2, .func (.func 96) #[] #[]), (9, .int .i64 i)] ∧ H = F) (28 + 1) (⟨28, by omega, rfl, rfl, rfl, rfl⟩) sB rfl tK sF ?_)))
 rintro m L H ⟨i, hi, rfl, hgo, rfl, rfl⟩
 have hb := Infl.lengthBase_le hi
 refine CG.seq (CG.block (CG.sr (G.mv ?_)))
 refine G.mv ?_
 refine G.callv (f := 96) (xs := [_]) rfl rfl rfl (lengthBase_spec i hi) bd_96_F6 rfl rfl rfl rfl tK (fun _ _ _ _ _ _ => trivial) ?_
 rintro _ _ ⟨rfl, rfl⟩
 try dsimp only [List.cons_append, List.nil_append]
 refine G.mv ?_
 refine G.q rfl rfl rfl rfl (q_extract rfl rfl rfl) (G.q rfl rfl rfl rfl (q_extract rfl rfl rfl) (G.as ?_))
 refine G.as ?_
 refine G.nil (EN.tsr (G.mv ?_))
 refine G.mv ?_
 refine G.q rfl rfl rfl rfl (q_leq rfl rfl rfl) (G.nil (EN.then ?_))
 refine CG.cond rfl (fun h23 => ?_) (fun h23 => ?_)
 ·
  have hs : Defl.symOf Infl.lengthBase n i = (i, n - (Infl.lengthBase i).1, (Infl.lengthBase i).2) := by
    cases i with
    | zero => rfl
    | succ i => unfold Defl.symOf; rw [if_pos oM]
  rw [hgo, hs]
  have e1 : (n : Int) - ((Infl.lengthBase i).1 : Nat) = ((n - (Infl.lengthBase i).1 : Nat) : Int) := by omega
  refine CG.sr (G.mv ?_)
  refine G.mv ?_
  refine G.mv ?_
  refine G.q rfl rfl rfl rfl (q_sub_i rfl rfl rfl oM) ?_
  rw [e1]
  refine G.q rfl rfl rfl rfl (q_conv_in rfl rfl is_3_F4 ik_28_F15 (wrapu_in (b := 32) rfl rfl oM)) (G.mv ?_)
  refine G.as ?_
  refine G.as ?_
  refine G.as ?_
  refine G.nil (EN.sub (sC 0 (sC 2 (sC 6 (sC 7 (sC 8 (sC 9 Sub.nil)))))) ?_)
  refine EN.then (CG.ret (EN.in_ret ?_))
  refine EN.then_ret (EN.then_ret (EN.in_ret ?_))
  exact fin_ret3 rfl rfl rfl rfl tK sF (⟨rfl, rfl⟩) _ (.inl rfl)
 ·
  obtain ⟨j, rfl⟩ : ∃ j, i = j + 1 := ⟨i - 1, by
    rcases Nat.eq_zero_or_pos i with h | h
    · subst h; omega
    · omega⟩
  have hgo2 : Defl.symOf Infl.lengthBase n 28 = Defl.symOf Infl.lengthBase n j := by rw [hgo]; show (if _ then _ else _) = _; rw [if_neg oM]
  have hij : ((j + 1 : Nat) : Int) - 1 = (j : Int) := by omega
  refine CG.skip (EN.in_normal (EN.tr ?_))
  refine G.mv ?_
  refine G.q rfl rfl rfl rfl (q_sub_i rfl rfl rfl oM) (G.as ?_)
  refine G.nil ?_
  rw [hij]
  exact EN.round (j + 1) oM (⟨j, by omega, rfl, hgo2, rfl, rfl⟩) sB rfl tK sF

set_option maxRecDepth 100000 in
set_option maxHeartbeats 1000000 in
theorem symD_spec (n : Nat) (h : 1 ≤ n ∧ n ≤ 100000) (h0 : (Infl.distBase 0).1 ≤ n) : Spec Tryz.prog 95 #[.int .i64 n, .int .i64 29, .func (.func 97) #[] #[]] [] (Ret fun v hl => v = .tuple #[.int .i64 (Defl.symOf Infl.distBase n 29).1, .int .u32 (Defl.symOf Infl.distBase n 29).2.1, .int .i64 (Defl.symOf Infl.distBase n 29).2.2] ∧ hl = []) := by
 refine Spec.enter Tryz.func95 rfl rfl rfl (fun F w0 => ?_)
 dsimp only [argL, List.cons_append, List.nil_append]
 refine CG.sr (G.as ?_)
 refine G.as ?_
 refine G.as ?_
 refine G.nil (EN.tsr (G.mv ?_))
 refine G.as ?_
 refine G.nil (EN.then (CG.block (CG.loopI (fun m L H => ∃ i : Nat, i ≤ 29 ∧ m = i + 1 ∧ Defl.symOf Infl.distBase n 29 = Defl.symOf Infl.distBase n i ∧ L = [(0, .int .i64 n), (2, .func (.func 97) #[] #[]), (9, .int .i64 i)] ∧ H = F) (29 + 1) (⟨29, by omega, rfl, rfl, rfl, rfl⟩) sB rfl tK sF ?_)))
 rintro m L H ⟨i, hi, rfl, hgo, rfl, rfl⟩
 have hb := Infl.distBase_le hi
 refine CG.seq (CG.block (CG.sr (G.mv ?_)))
 refine G.mv ?_
 refine G.callv (f := 97) (xs := [_]) rfl rfl rfl (distBase_spec i hi) bd_97_F6 rfl rfl rfl rfl tK (fun _ _ _ _ _ _ => trivial) ?_
 rintro _ _ ⟨rfl, rfl⟩
 try dsimp only [List.cons_append, List.nil_append]
 refine G.mv ?_
 refine G.q rfl rfl rfl rfl (q_extract rfl rfl rfl) (G.q rfl rfl rfl rfl (q_extract rfl rfl rfl) (G.as ?_))
 refine G.as ?_
 refine G.nil (EN.tsr (G.mv ?_))
 refine G.mv ?_
 refine G.q rfl rfl rfl rfl (q_leq rfl rfl rfl) (G.nil (EN.then ?_))
 refine CG.cond rfl (fun h23 => ?_) (fun h23 => ?_)
 ·
  have hs : Defl.symOf Infl.distBase n i = (i, n - (Infl.distBase i).1, (Infl.distBase i).2) := by
    cases i with
    | zero => rfl
    | succ i => unfold Defl.symOf; rw [if_pos oM]
  rw [hgo, hs]
  have e1 : (n : Int) - ((Infl.distBase i).1 : Nat) = ((n - (Infl.distBase i).1 : Nat) : Int) := by omega
  refine CG.sr (G.mv ?_)
  refine G.mv ?_
  refine G.mv ?_
  refine G.q rfl rfl rfl rfl (q_sub_i rfl rfl rfl oM) ?_
  rw [e1]
  refine G.q rfl rfl rfl rfl (q_conv_in rfl rfl is_3_F4 ik_28_F15 (wrapu_in (b := 32) rfl rfl oM)) (G.mv ?_)
  refine G.as ?_
  refine G.as ?_
  refine G.as ?_
  refine G.nil (EN.sub (sC 0 (sC 2 (sC 6 (sC 7 (sC 8 (sC 9 Sub.nil)))))) ?_)
  refine EN.then (CG.ret (EN.in_ret ?_))
  refine EN.then_ret (EN.then_ret (EN.in_ret ?_))
  exact fin_ret3 rfl rfl rfl rfl tK sF (⟨rfl, rfl⟩) _ (.inl rfl)
 ·
  obtain ⟨j, rfl⟩ : ∃ j, i = j + 1 := ⟨i - 1, by
    rcases Nat.eq_zero_or_pos i with h | h
    · subst h; omega
    · omega⟩
  have hgo2 : Defl.symOf Infl.distBase n 29 = Defl.symOf Infl.distBase n j := by rw [hgo]; show (if _ then _ else _) = _; rw [if_neg oM]
  have hij : ((j + 1 : Nat) : Int) - 1 = (j : Int) := by omega
  refine CG.skip (EN.in_normal (EN.tr ?_))
  refine G.mv ?_
  refine G.q rfl rfl rfl rfl (q_sub_i rfl rfl rfl oM) (G.as ?_)
  refine G.nil ?_
  rw [hij]
  exact EN.round (j + 1) oM (⟨j, by omega, rfl, hgo2, rfl, rfl⟩) sB rfl tK sF

set_option maxRecDepth 100000 in
set_option maxHeartbeats 1000000 in
theorem stored2_spec (s : List UInt8) (hs : s.length ≤ 65535) : Spec Tryz.prog 99 #[str s] [] (Ret fun v hl => v = str (Defl.stored s) ∧ hl = []) := by
 have hz2 := WR.put_len WR.zero 1 3
 have hz3 : WR.zero.out.length = 0 := rfl
 have hz4 : WR.zero.hav = 0 := rfl
 have hz0 : (WR.zero.put 1 3).out.length ≤ 1000000000 := by omega
 have hz1 : ((WR.zero.put 1 3).bytes (Sums.little (s.length : Int) 2 ++ Sums.little ((65535 - s.length : Nat) : Int) 2 ++ s)).out.length ≤ 1000000000 := by
   have := (WR.align_len (WR.put_ok WR.zero_ok 1 3)).2
   simp [WR.bytes, Sums.little]; omega
 refine Spec.enter Tryz.func99 rfl rfl rfl (fun F w0 => ?_)
 dsimp only [argL, List.cons_append, List.nil_append]
 refine CG.sr (G.as ?_)
 refine G.nil (EN.tsr (G.e rfl rfl rfl rfl (e_alloc rfl zl_135_F15) (fun _ _ _ _ _ _ => trivial) ?_))
 rintro _ _ ⟨b3, rfl, rfl⟩
 refine G.nil (EN.then (CG.block (CG.ownNil 5 1 ?_)))
 refine CG.closeS (WrP b3 WR.zero) (.slice none 0 0) tK ?_
 refine CG.loopI (fun m L H => m = 1 ∧ L = [(0, str s), (3, .pointer (some ⟨b3, 0, none⟩))] ∧ H = [WrAt b3 WR.zero] ++ F) (1) (hl := [_]) (⟨rfl, rfl, rfl⟩) sB rfl tK sF ?_
 rintro m L H ⟨rfl, rfl, rfl⟩
 try dsimp only [List.cons_append, List.nil_append]
 refine CG.block (CG.sr (G.mv ?_))
 refine G.q rfl rfl rfl rfl (q_len_str rfl rfl us_9_F1) (G.q rfl rfl rfl rfl (q_min rfl rfl rfl) ?_)
 rw [show (if (65535 : Int) < (s.length : Int) then (65535 : Int) else (s.length : Int)) = (s.length : Int) from if_neg oM]
 refine G.as ?_
 refine G.nil (EN.tsr (G.as ?_))
 refine G.nil (EN.ts (CG.sr (G.mv ?_)))
 refine G.mv ?_
 refine G.q rfl rfl rfl rfl (q_len_str rfl rfl us_9_F1) (G.q rfl rfl rfl rfl (q_eql rfl rfl rfl) (G.nil (EN.then ?_)))
 refine CG.cond rfl (fun h12 => ?_) (fun h12 => absurd (rfl) h12)
 refine CG.reg (G.as ?_)
 refine G.nil (EN.tsr (G.mv ?_))
 refine G.call (xs := [_, _, _]) rfl rfl (wbits_spec b3 WR.zero 1 3 WR.zero_ok (by decide) oM (by decide)) bd_92_F2 rfl rfl rfl rfl tK (fun _ _ _ _ _ _ => trivial) ?_
 rintro _ _ ⟨rfl, rfl⟩
 try dsimp only [List.cons_append, List.nil_append]
 refine G.nil (EN.sub (sC 0 (sC 3 (sC 4 (sC 5 Sub.nil)))) ?_)
 refine EN.ts ?_
 refine CG.regT [16, 20] mixed (by kernel_rfl) ?_
 refine G.mv ?_
 refine G.q rfl rfl rfl rfl (q_conv_in rfl rfl is_3_F4 ik_58_F15 (wrapu_in (b := 64) rfl rfl oM)) (G.call (xs := [_, _]) rfl rfl (little_spec (s.length : Int) 2 oM oM) bd_117_F15 rfl rfl rfl rfl tK (fun _ _ _ _ _ _ => trivial) ?_)
 rintro _ _ ⟨rfl, rfl⟩
 try dsimp only [List.cons_append, List.nil_append]
 refine G.mv ?_
 refine G.q rfl rfl rfl rfl (q_xor rfl rfl rfl) ?_
 rw [Defl.xor_val hs]
 refine G.q rfl rfl rfl rfl (q_conv_in rfl rfl is_3_F4 ik_58_F15 (wrapu_in (b := 64) rfl rfl oM)) (G.call (xs := [_, _]) rfl rfl (little_spec ((65535 - s.length : Nat) : Int) 2 oM oM) bd_117_F15 rfl rfl rfl rfl tK (fun _ _ _ _ _ _ => trivial) ?_)
 rintro _ _ ⟨rfl, rfl⟩
 try dsimp only [List.cons_append, List.nil_append]
 refine G.q rfl rfl rfl rfl (q_add_s rfl rfl rfl (by simp [Sums.little])) (G.mv ?_)
 refine G.mv ?_
 refine G.q rfl rfl rfl rfl (q_slice_hi rfl rfl rfl us_9_F1 (Nat.le_refl _)) ?_
 rw [List.take_length]
 refine G.q rfl rfl rfl rfl (q_add_s rfl rfl rfl (by simp [Sums.little]; omega)) (G.call (xs := [_, _]) rfl rfl (wbytes_spec b3 _ _ (WR.put_ok WR.zero_ok _ _) hz0 (by simp [Sums.little]; omega)) bd_116_F15 rfl rfl rfl rfl tK (fun _ _ _ _ _ _ => trivial) ?_)
 rintro _ _ ⟨rfl, rfl⟩
 try dsimp only [List.cons_append, List.nil_append]
 refine G.nil (EN.sub (sC 0 (sC 3 (sC 4 (sC 5 Sub.nil)))) ?_)
 refine EN.tsr (G.mv ?_)
 refine G.mv ?_
 refine G.q rfl rfl rfl rfl (q_slice_lo rfl rfl rfl us_9_F1 oM) (G.as ?_)
 refine G.nil (EN.tsr (G.mv ?_))
 refine G.q rfl rfl rfl rfl (q_eql rfl rfl rfl) (G.nil (EN.then ?_))
 refine CG.cond rfl (fun h32 => ?_) (fun h32 => absurd (rfl) h32)
 refine CG.sr (G.call (xs := [_]) rfl rfl (wtext_spec b3 _ (WR.bytes_ok (WR.put_ok WR.zero_ok _ _) _) hz1) bd_98_F15 rfl rfl rfl rfl tK (fun _ _ _ _ _ _ => trivial) ?_)
 rintro _ _ ⟨rfl, rfl⟩
 try dsimp only [List.cons_append, List.nil_append]
 refine G.as ?_
 refine G.nil (EN.then (CG.ret (EN.in_ret ?_)))
 refine EN.then_ret (EN.in_ret ?_)
 exact fin_ret1 rfl rfl tK sF (⟨rfl, rfl⟩) _ (.inl rfl)

set_option maxRecDepth 100000 in
set_option maxHeartbeats 1000000 in
theorem deflate_spec (s : List UInt8) (hs : s.length ≤ 65535) : Spec Tryz.prog 63 #[str s] [] (Ret fun v hl => v = str (Defl.deflate s) ∧ hl = []) := by
 have hzl := Defl.put_wl WR.zero 3 3
 have hz3 : Defl.wl WR.zero = 0 := rfl
 have hwl : ∀ W : WR, 8 * W.out.length ≤ Defl.wl W := fun W => by unfold Defl.wl; omega
 have hWz := WR.put_ok WR.zero_ok 3 3
 have hl0 := hwl WR.zero
 have hb0 : (Infl.lengthBase 0).1 = 3 := rfl
 have hb1 : (Infl.distBase 0).1 = 1 := rfl
 refine Spec.enter Tryz.func63 rfl rfl rfl (fun F w0 => ?_)
 dsimp only [argL, List.cons_append, List.nil_append]
 refine CG.sr (G.as ?_)
 refine G.nil (EN.tsr (G.e rfl rfl rfl rfl (e_alloc rfl zl_135_F15) (fun _ _ _ _ _ _ => trivial) ?_))
 rintro _ _ ⟨b3, rfl, rfl⟩
 refine G.nil (EN.tsr (G.call (xs := []) rfl rfl (fixed_spec) bd_91_F8 rfl rfl rfl rfl tK (fun _ _ _ _ _ _ => trivial) ?_))
 rintro _ _ ⟨bl, bd, rfl, rfl⟩
 try dsimp only [List.cons_append, List.nil_append]
 refine G.mv ?_
 refine G.q rfl rfl rfl rfl (q_extract rfl rfl rfl) (G.q rfl rfl rfl rfl (q_extract rfl rfl rfl) (G.as ?_))
 refine G.as ?_
 refine G.nil (EN.ts (CG.ownNil 5 1 ?_))
 refine CG.closeS (WrP b3 WR.zero) (.slice none 0 0) tK ?_
 refine CG.reg (G.call (xs := [_, _, _]) rfl rfl (wbits_spec b3 WR.zero 3 3 WR.zero_ok (by decide) oM (by decide)) bd_92_F2 rfl rfl rfl rfl tK (fun _ _ _ _ _ _ => trivial) ?_)
 rintro _ _ ⟨rfl, rfl⟩
 try dsimp only [List.cons_append, List.nil_append]
 refine G.nil (EN.tsr (G.e rfl rfl rfl rfl (e_makeMap str rfl) (fun _ _ _ _ _ _ => trivial) ?_))
 rintro _ _ ⟨bm, rfl, rfl⟩
 refine G.as ?_
 refine G.nil (EN.ts (CG.sr (G.as ?_)))
 refine G.nil (EN.then (CG.block (CG.loopI (fun m L H => ∃ (f i : Nat) (seen : Defl.Seen) (W : WR), W.Ok ∧ i ≤ s.length ∧ Defl.SeenOk s i seen ∧ s.length - i ≤ f ∧ Defl.wl W ≤ 6 + 32 * i ∧ Defl.go s f i seen W = Defl.go s s.length 0 (fun _ => none) (WR.zero.put 3 3) ∧ m = s.length - i ∧ L = [(0, str s), (3, .pointer (some ⟨b3, 0, none⟩)), (4, .pointer (some ⟨bl, 0, none⟩)), (5, .pointer (some ⟨bd, 0, none⟩)), (6, .map (some bm)), (7, .int .i64 i)] ∧ H = [WrAt b3 W, TabAt bl Infl.fixedLit, TabAt bd Infl.fixedDist, mapH str bm (fun k => (seen k).map iv)] ++ F) (s.length) (hl := [_, _, _, _]) (⟨s.length, 0, fun _ => none, _, hWz, Nat.zero_le _, fun _ _ h => by simp at h, by omega, by omega, rfl, by omega, rfl, rfl⟩) sB rfl tK sF ?_)))
 rintro m L H ⟨f, i, seen, W, hW, hi, hsn, hf, hwl1, hgo, rfl, rfl, rfl⟩
 try dsimp only [List.cons_append, List.nil_append]
 have hwl2 := hwl W
 refine CG.seq (CG.sr (G.mv ?_))
 refine G.mv ?_
 refine G.q rfl rfl rfl rfl (q_len_str rfl rfl us_9_F1) (G.q rfl rfl rfl rfl (q_lss rfl rfl rfl) (G.nil (EN.then ?_)))
 refine CG.cond rfl (fun h31 => ?_) (fun h31 => ?_)
 ·
  have hil : i < s.length := by omega
  obtain ⟨f, rfl⟩ : ∃ g, f = g + 1 := ⟨f - 1, by omega⟩
  rw [Defl.go, if_neg oM] at hgo
  have e3 : (i : Int) + 3 = ((i + 3 : Nat) : Int) := by omega
  have hfl := Defl.find_le hsn
  refine CG.skip (EN.then (CG.block (CG.sr (G.as ?_))))
  refine G.as ?_
  refine G.nil (EN.then ?_)
  refine CG.cut (fun L H => L = [(0, str s), (3, .pointer (some ⟨b3, 0, none⟩)), (4, .pointer (some ⟨bl, 0, none⟩)), (5, .pointer (some ⟨bd, 0, none⟩)), (6, .map (some bm)), (7, .int .i64 i), (8, .int .i64 (Defl.find s i seen).1), (9, .int .i64 (Defl.find s i seen).2)] ∧ H = [WrAt b3 W, TabAt bl Infl.fixedLit, TabAt bd Infl.fixedDist, mapH str bm (fun k => (Defl.note s i seen k).map iv)] ++ F) ?_ ?_
  ·
   refine CG.sr (G.mv ?_)
   refine G.q rfl rfl rfl rfl (q_add_i rfl rfl rfl oM) (G.mv ?_)
   refine G.q rfl rfl rfl rfl (q_len_str rfl rfl us_9_F1) (G.q rfl rfl rfl rfl (q_leq rfl rfl rfl) (G.nil (EN.then ?_)))
   refine CG.cond rfl (fun h36 => ?_) (fun h36 => ?_)
   ·
    have h36b : i + 3 ≤ s.length := by omega
    have hnt := Defl.note_upd (seen := seen) h36b
    refine CG.seq (CG.seq ?_)
    rcases hse : seen ((s.take (i + 3)).drop i) with _ | a
    ·
     refine CG.reg (G.mv ?_)
     refine G.mv ?_
     refine G.mv ?_
     refine G.mv ?_
     refine G.q rfl rfl rfl rfl (q_add_i rfl rfl rfl oM) ?_
     rw [e3]
     refine G.q rfl rfl rfl rfl (q_slice_lh rfl rfl rfl rfl us_9_F1 oM) (G.r rfl rfl rfl rfl (r_lookup (kv := str) rfl rfl rfl mE_107_F15 (keyStr us_9_F1) zB_3_F15 mB) ?_)
     try dsimp only [if_true, Bool.false_eq_true, if_false]
     rw [hse, Option.map_none, Option.getD_none, Option.isSome_none]
     have hfd := Defl.find_none h36b hse
     refine G.mv ?_
     refine G.q rfl rfl rfl rfl (q_extract rfl rfl rfl) (G.q rfl rfl rfl rfl (q_extract rfl rfl rfl) (G.as ?_))
     refine G.as ?_
     refine G.nil (EN.sub (sC 0 (sC 3 (sC 4 (sC 5 (sC 6 (sC 7 (sC 8 (sC 9 (sC 10 (sC 11 Sub.nil)))))))))) ?_)
     refine EN.tsr (G.mv ?_)
     refine G.mv ?_
     refine G.skip rfl rfl rfl (G.skip rfl rfl rfl (G.skip rfl rfl rfl (G.skip rfl rfl rfl (G.q rfl rfl rfl rfl (q_pick_f rfl rfl rfl) (G.nil ?_)))))
     refine EN.then (CG.cond_f rfl ?_)
     refine CG.skip (EN.tr ?_)
     refine G.mv ?_
     refine G.mv ?_
     refine G.mv ?_
     refine G.mv ?_
     refine G.q rfl rfl rfl rfl (q_add_i rfl rfl rfl oM) ?_
     rw [e3]
     refine G.q rfl rfl rfl rfl (q_slice_lh rfl rfl rfl rfl us_9_F1 oM) (G.mv ?_)
     refine G.mu0 (kv := str) mE_107_F15 (keyStr us_9_F1) ?_
     refine G.nil (EN.sub (sC 0 (sC 3 (sC 4 (sC 5 (sC 6 (sC 7 (sC 8 (sC 9 Sub.nil)))))))) ?_)
     rw [hfd]
     rw [hnt]
     exact EN.cut (hl := [_, _, _, _]) (⟨rfl, rfl⟩) sB rfl tK sF
    ·
     refine CG.reg (G.mv ?_)
     refine G.mv ?_
     refine G.mv ?_
     refine G.mv ?_
     refine G.q rfl rfl rfl rfl (q_add_i rfl rfl rfl oM) ?_
     rw [e3]
     refine G.q rfl rfl rfl rfl (q_slice_lh rfl rfl rfl rfl us_9_F1 oM) (G.r rfl rfl rfl rfl (r_lookup (kv := str) rfl rfl rfl mE_107_F15 (keyStr us_9_F1) zB_3_F15 mB) ?_)
     try dsimp only [if_true, Bool.false_eq_true, if_false]
     rw [hse, Option.map_some, Option.getD_some, Option.isSome_some]
     obtain ⟨ha1, ha2⟩ := hsn _ _ hse
     refine G.mv ?_
     refine G.q rfl rfl rfl rfl (q_extract rfl rfl rfl) (G.q rfl rfl rfl rfl (q_extract rfl rfl rfl) (G.as ?_))
     refine G.as ?_
     refine G.nil (EN.sub (sC 0 (sC 3 (sC 4 (sC 5 (sC 6 (sC 7 (sC 8 (sC 9 (sC 10 (sC 11 Sub.nil)))))))))) ?_)
     refine EN.tsr (G.mv ?_)
     refine G.mv ?_
     refine G.mv ?_
     refine G.mv ?_
     refine G.q rfl rfl rfl rfl (q_sub_i rfl rfl rfl oM) (G.q rfl rfl rfl rfl (q_leq rfl rfl rfl) (G.q rfl rfl rfl rfl (q_pick_t rfl rfl rfl) (G.nil (EN.then ?_))))
     refine CG.cond rfl (fun h53 => ?_) (fun h53 => ?_)
     ·
      have hfd := Defl.find_some h36b hse h53
      refine CG.cut (fun L H => L = [(0, str s), (3, .pointer (some ⟨b3, 0, none⟩)), (4, .pointer (some ⟨bl, 0, none⟩)), (5, .pointer (some ⟨bd, 0, none⟩)), (6, .map (some bm)), (7, .int .i64 i), (8, .int .i64 (Defl.ml s a i 258 0)), (10, .int .i64 a)] ∧ H = [WrAt b3 W, TabAt bl Infl.fixedLit, TabAt bd Infl.fixedDist, mapH str bm (fun k => (seen k).map iv)] ++ F) ?_ ?_
      ·
       refine CG.block (CG.loopI (fun m L H => ∃ n : Nat, n ≤ 258 ∧ Defl.ml s a i (258 - n) n = Defl.ml s a i 258 0 ∧ m = 258 - n ∧ L = [(0, str s), (3, .pointer (some ⟨b3, 0, none⟩)), (4, .pointer (some ⟨bl, 0, none⟩)), (5, .pointer (some ⟨bd, 0, none⟩)), (6, .map (some bm)), (7, .int .i64 i), (8, .int .i64 n), (10, .int .i64 a)] ∧ H = [WrAt b3 W, TabAt bl Infl.fixedLit, TabAt bd Infl.fixedDist, mapH str bm (fun k => (seen k).map iv)] ++ F) (258) (hl := [_, _, _, _]) (⟨0, by omega, rfl, rfl, rfl, rfl⟩) sB rfl tK sF ?_)
       rintro m L H ⟨n, hn, hml, rfl, rfl, rfl⟩
       try dsimp only [List.cons_append, List.nil_append]
       have ean : (a : Int) + n = ((a + n : Nat) : Int) := by omega
       have ein : (i : Int) + n = ((i + n : Nat) : Int) := by omega
       refine CG.seq (CG.seq ?_)
       refine CG.regT [] mixed (by kernel_rfl) ?_
       refine G.mv ?_
       refine G.q rfl rfl rfl rfl (q_lss rfl rfl rfl) (G.mv ?_)
       refine G.split (t := 56) rfl (fun g56 => ?_) (fun g56 => ?_)
       ·
        refine G.mv ?_
        refine G.mv ?_
        refine G.q rfl rfl rfl rfl (q_add_i rfl rfl rfl oM) (G.mv ?_)
        refine G.q rfl rfl rfl rfl (q_len_str rfl rfl us_9_F1) (G.q rfl rfl rfl rfl (q_lss rfl rfl rfl) (G.q rfl rfl rfl rfl (q_pick_t rfl rfl rfl) (G.mv ?_)))
        refine G.split (t := 64) rfl (fun g64 => ?_) (fun g64 => ?_)
        ·
         refine G.mv ?_
         refine G.mv ?_
         refine G.mv ?_
         refine G.q rfl rfl rfl rfl (q_add_i rfl rfl rfl oM) ?_
         try rw [ean]
         refine G.q rfl rfl rfl rfl (q_index rfl rfl rfl us_9_F1 (getD_u8 (S := s) (i := a + n) oM)) (G.mv ?_)
         refine G.mv ?_
         refine G.mv ?_
         refine G.q rfl rfl rfl rfl (q_add_i rfl rfl rfl oM) ?_
         try rw [ein]
         refine G.q rfl rfl rfl rfl (q_index rfl rfl rfl us_9_F1 (getD_u8 (S := s) (i := i + n) oM)) (G.q rfl rfl rfl rfl (q_eql rfl rfl rfl) (G.q rfl rfl rfl rfl (q_pick_t rfl rfl rfl) (G.nil (EN.sub (sC 0 (sC 3 (sC 4 (sC 5 (sC 6 (sC 7 (sC 8 (sC 10 (sC 76 Sub.nil))))))))) ?_))))
         refine EN.then ?_
         refine CG.cond rfl (fun h76 => ?_) (fun h76 => ?_)
         ·
          have hml2 : Defl.ml s a i (258 - (n + 1)) (n + 1) = Defl.ml s a i 258 0 := by
            rw [← hml, show 258 - n = (258 - (n + 1)) + 1 by omega, Defl.ml, if_pos ⟨by omega, UInt8.toNat_inj.1 oM⟩]
          refine CG.skip (EN.then (CG.block (CG.reg (G.mv ?_))))
          refine G.q rfl rfl rfl rfl (q_add_i rfl rfl rfl oM) (G.as ?_)
          refine G.nil (EN.in_normal ?_)
          exact EN.round (hl := [_, _, _, _]) (258 - (n + 1)) oM (⟨n + 1, by omega, hml2, rfl, rfl, rfl⟩) sB rfl tK sF
         ·
          have hml2 : Defl.ml s a i 258 0 = n := by
            rw [← hml, show 258 - n = (258 - (n + 1)) + 1 by omega, Defl.ml, if_neg (fun h => h76 (by rw [h.2]))]
          refine CG.exit ?_
          refine EN.then_exit (EN.then_exit (EN.in_here ?_))
          rw [← hml2]
          exact EN.cut (hl := [_, _, _, _]) (⟨rfl, rfl⟩) sB rfl tK sF
        ·
         have hml2 : Defl.ml s a i 258 0 = n := by rw [← hml, show 258 - n = (258 - (n + 1)) + 1 by omega, Defl.ml, if_neg oM]
         refine G.skip rfl rfl rfl (G.skip rfl rfl rfl (G.skip rfl rfl rfl (G.skip rfl rfl rfl ?_)))
         try rw [ean]
         refine G.skip rfl rfl rfl (G.skip rfl rfl rfl (G.skip rfl rfl rfl (G.skip rfl rfl rfl (G.skip rfl rfl rfl ?_))))
         try rw [ein]
         refine G.skip rfl rfl rfl (G.skip rfl rfl rfl (G.q rfl rfl rfl rfl (q_pick_f rfl rfl rfl) (G.nil (EN.sub (sC 0 (sC 3 (sC 4 (sC 5 (sC 6 (sC 7 (sC 8 (sC 10 (sC 76 Sub.nil))))))))) ?_))))
         refine EN.then (CG.cond_f rfl ?_)
         refine CG.exit ?_
         refine EN.then_exit (EN.then_exit (EN.in_here ?_))
         rw [← hml2]
         exact EN.cut (hl := [_, _, _, _]) (⟨rfl, rfl⟩) sB rfl tK sF
       ·
        have hml2 : Defl.ml s a i 258 0 = n := by rw [← hml, show 258 - n = 0 by omega]; rfl
        refine G.skip rfl rfl rfl (G.skip rfl rfl rfl (G.skip rfl rfl rfl (G.skip rfl rfl rfl (G.skip rfl rfl rfl (G.skip rfl rfl rfl ?_)))))
        refine G.q rfl rfl rfl rfl (q_pick_f rfl rfl rfl) (G.mv ?_)
        refine G.skip rfl rfl rfl (G.skip rfl rfl rfl (G.skip rfl rfl rfl (G.skip rfl rfl rfl ?_)))
        try rw [ean]
        refine G.skip rfl rfl rfl (G.skip rfl rfl rfl (G.skip rfl rfl rfl (G.skip rfl rfl rfl (G.skip rfl rfl rfl ?_))))
        try rw [ein]
        refine G.skip rfl rfl rfl (G.skip rfl rfl rfl (G.q rfl rfl rfl rfl (q_pick_f rfl rfl rfl) (G.nil (EN.sub (sC 0 (sC 3 (sC 4 (sC 5 (sC 6 (sC 7 (sC 8 (sC 10 (sC 76 Sub.nil))))))))) ?_))))
        refine EN.then (CG.cond_f rfl ?_)
        refine CG.exit ?_
        refine EN.then_exit (EN.then_exit (EN.in_here ?_))
        rw [← hml2]
        exact EN.cut (hl := [_, _, _, _]) (⟨rfl, rfl⟩) sB rfl tK sF
      ·
       rintro L H ⟨rfl, rfl⟩
       try dsimp only [List.cons_append, List.nil_append]
       have hml3 := Defl.ml_le s a i 258 0
       have eb : (i : Int) - a = ((i - a : Nat) : Int) := by omega
       refine CG.reg (G.mv ?_)
       refine G.mv ?_
       refine G.q rfl rfl rfl rfl (q_sub_i rfl rfl rfl oM) ?_
       rw [eb]
       refine G.as ?_
       refine G.nil (EN.tr ?_)
       refine G.mv ?_
       refine G.mv ?_
       refine G.mv ?_
       refine G.mv ?_
       refine G.q rfl rfl rfl rfl (q_add_i rfl rfl rfl oM) ?_
       rw [e3]
       refine G.q rfl rfl rfl rfl (q_slice_lh rfl rfl rfl rfl us_9_F1 oM) (G.mv ?_)
       refine G.mu0 (kv := str) mE_107_F15 (keyStr us_9_F1) ?_
       refine G.nil (EN.sub (sC 0 (sC 3 (sC 4 (sC 5 (sC 6 (sC 7 (sC 8 (sC 9 Sub.nil)))))))) ?_)
       rw [hfd]
       rw [hnt]
       exact EN.cut (hl := [_, _, _, _]) (⟨rfl, rfl⟩) sB rfl tK sF
     ·
      have hfd := Defl.find_far h36b hse h53
      refine CG.skip (EN.tr ?_)
      refine G.mv ?_
      refine G.mv ?_
      refine G.mv ?_
      refine G.mv ?_
      refine G.q rfl rfl rfl rfl (q_add_i rfl rfl rfl oM) ?_
      rw [e3]
      refine G.q rfl rfl rfl rfl (q_slice_lh rfl rfl rfl rfl us_9_F1 oM) (G.mv ?_)
      refine G.mu0 (kv := str) mE_107_F15 (keyStr us_9_F1) ?_
      refine G.nil (EN.sub (sC 0 (sC 3 (sC 4 (sC 5 (sC 6 (sC 7 (sC 8 (sC 9 Sub.nil)))))))) ?_)
      rw [hfd]
      rw [hnt]
      exact EN.cut (hl := [_, _, _, _]) (⟨rfl, rfl⟩) sB rfl tK sF
   ·
    obtain ⟨hfd, hnt⟩ := Defl.find_no (s := s) (i := i) (seen := seen) oM
    refine CG.skip ?_
    rw [hfd]
    rw [hnt]
    exact EN.cut (hl := [_, _, _, _]) (⟨rfl, rfl⟩) sB rfl tK sF
  ·
   rintro L H ⟨rfl, rfl⟩
   try dsimp only [List.cons_append, List.nil_append]
   refine CG.seq (CG.sr (G.mv ?_))
   refine G.q rfl rfl rfl rfl (q_lss rfl rfl rfl) (G.nil (EN.then ?_))
   refine CG.cond rfl (fun h90 => ?_) (fun h90 => ?_)
   ·
    have hc1 : (s.getD i 0).toNat < 288 := by have := (s.getD i 0).toNat_lt; omega
    have hc2 := Defl.code_lt hc1
    have h95 := getD_u8 (S := s) (i := i) hil
    refine CG.sr (G.mv ?_)
    refine G.mv ?_
    refine G.mv ?_
    refine G.q rfl rfl rfl rfl (q_index rfl rfl rfl us_9_F1 (h95)) (G.q rfl rfl rfl rfl (q_conv_in rfl rfl is_5_F1 ik_3_F15 (wrap64_in oM)) (G.call (xs := [_, _]) rfl rfl (hcode_spec bl Infl.fixedLit (s.getD i 0).toNat _ (by rw [Infl.lit_len]; omega) (by rw [Infl.lit_sorted]; omega) (Defl.lit_get hc1) (Defl.len_pos _)) bd_93_F15 rfl rfl rfl rfl tK (fun _ _ _ _ _ _ => trivial) ?_))
    rintro _ _ ⟨rfl, rfl⟩
    unfold codeV
    try dsimp only [List.cons_append, List.nil_append]
    refine G.mv ?_
    refine G.q rfl rfl rfl rfl (q_extract rfl rfl rfl) (G.q rfl rfl rfl rfl (q_extract rfl rfl rfl) (G.as ?_))
    refine G.as ?_
    refine G.nil (EN.sub (sC 0 (sC 3 (sC 4 (sC 5 (sC 6 (sC 7 (sC 8 (sC 9 (sC 12 (sC 13 Sub.nil)))))))))) ?_)
    refine EN.tsr (G.mv ?_)
    refine G.mv ?_
    refine G.call (xs := [_, _, _]) rfl rfl (wcode_spec b3 W _ _ hW hc2.1 hc2.2 oM) bd_94_F15 rfl rfl rfl rfl tK (fun _ _ _ _ _ _ => trivial) ?_
    rintro _ _ ⟨rfl, rfl⟩
    rw [Defl.lit_eq]
    try dsimp only [List.cons_append, List.nil_append]
    refine G.nil (EN.tsr (G.mv ?_))
    refine G.q rfl rfl rfl rfl (q_add_i rfl rfl rfl oM) ?_
    have hj1 : i < i + 1 := by omega
    have hj2 : i + 1 ≤ s.length := by omega
    have hW2 := Defl.lit_ok hW (s.getD i 0).toNat
    have hwl3 := Defl.lit_len W hc1
    rw [if_pos oM] at hgo
    refine G.as ?_
    refine G.nil (EN.then (CG.exit ?_))
    refine EN.then_exit (EN.in_here ?_)
    exact EN.round (hl := [_, _, _, _]) (s.length - (i + 1)) oM (⟨f, i + 1, Defl.note s i seen, _, hW2, hj2, Defl.note_ok hsn hj1, by omega, by omega, hgo, rfl, rfl, rfl⟩) sB rfl tK sF
   ·
    have hf3 : 3 ≤ (Defl.find s i seen).1 := by omega
    have hsl1 := Defl.symOf_le Infl.lengthBase (Defl.find s i seen).1 28
    have hsl2 := Defl.symOf_le Infl.distBase (Defl.find s i seen).2 29
    have hsm1 := Defl.sym_more Infl.lengthBase (Defl.find s i seen).1 28 5 (fun i hi => Defl.lengthBase_lt hi)
    have hsm2 := Defl.sym_more Infl.distBase (Defl.find s i seen).2 29 13 (fun i hi => (Infl.distBase_le hi).2.2)
    have hsr1 := Defl.sym_rest Infl.lengthBase (Defl.find s i seen).1 28
    have hsr2 := Defl.sym_rest Infl.distBase (Defl.find s i seen).2 29
    have hWa := Defl.lit_ok hW (257 + (Defl.symOf Infl.lengthBase (Defl.find s i seen).1 28).1)
    have hWb := WR.put_ok hWa (Defl.symOf Infl.lengthBase (Defl.find s i seen).1 28).2.1 (Defl.symOf Infl.lengthBase (Defl.find s i seen).1 28).2.2
    have hWc := Defl.dst_ok hWb (Defl.symOf Infl.distBase (Defl.find s i seen).2 29).1
    have hla := Defl.lit_len W (c := 257 + (Defl.symOf Infl.lengthBase (Defl.find s i seen).1 28).1) oM
    have hlb := Defl.put_wl (Defl.lit W (257 + (Defl.symOf Infl.lengthBase (Defl.find s i seen).1 28).1)) (Defl.symOf Infl.lengthBase (Defl.find s i seen).1 28).2.1 (Defl.symOf Infl.lengthBase (Defl.find s i seen).1 28).2.2
    have hlc := Defl.dst_len ((Defl.lit W (257 + (Defl.symOf Infl.lengthBase (Defl.find s i seen).1 28).1)).put (Defl.symOf Infl.lengthBase (Defl.find s i seen).1 28).2.1 (Defl.symOf Infl.lengthBase (Defl.find s i seen).1 28).2.2) (c := (Defl.symOf Infl.distBase (Defl.find s i seen).2 29).1) oM
    have hwa := hwl (Defl.lit W (257 + (Defl.symOf Infl.lengthBase (Defl.find s i seen).1 28).1))
    have hwb := hwl ((Defl.lit W (257 + (Defl.symOf Infl.lengthBase (Defl.find s i seen).1 28).1)).put (Defl.symOf Infl.lengthBase (Defl.find s i seen).1 28).2.1 (Defl.symOf Infl.lengthBase (Defl.find s i seen).1 28).2.2)
    have hwc := hwl (Defl.dst ((Defl.lit W (257 + (Defl.symOf Infl.lengthBase (Defl.find s i seen).1 28).1)).put (Defl.symOf Infl.lengthBase (Defl.find s i seen).1 28).2.1 (Defl.symOf Infl.lengthBase (Defl.find s i seen).1 28).2.2) (Defl.symOf Infl.distBase (Defl.find s i seen).2 29).1)
    have e257 : (257 : Int) + ((Defl.symOf Infl.lengthBase (Defl.find s i seen).1 28).1 : Nat) = ((257 + (Defl.symOf Infl.lengthBase (Defl.find s i seen).1 28).1 : Nat) : Int) := by omega
    have ej : (i : Int) + ((Defl.find s i seen).1 : Nat) = ((i + (Defl.find s i seen).1 : Nat) : Int) := by omega
    have hj1 : i < i + (Defl.find s i seen).1 := by omega
    have hj2 : i + (Defl.find s i seen).1 ≤ s.length := by omega
    have hW2 := Defl.rep_ok hW (Defl.find s i seen).1 (Defl.find s i seen).2
    have hwl3 := Defl.rep_len W (Defl.find s i seen).1 (Defl.find s i seen).2
    refine CG.skip (EN.tsr (G.mv ?_))
    refine G.call (xs := [_, _, _]) rfl rfl (symL_spec (Defl.find s i seen).1 oM oM) bd_95_F15 rfl rfl rfl rfl tK (fun _ _ _ _ _ _ => trivial) ?_
    rintro _ _ ⟨rfl, rfl⟩
    try dsimp only [List.cons_append, List.nil_append]
    refine G.mv ?_
    refine G.q rfl rfl rfl rfl (q_extract rfl rfl rfl) (G.q rfl rfl rfl rfl (q_extract rfl rfl rfl) (G.q rfl rfl rfl rfl (q_extract rfl rfl rfl) (G.as ?_)))
    refine G.as ?_
    refine G.as ?_
    refine G.nil (EN.tsr (G.mv ?_))
    refine G.mv ?_
    refine G.q rfl rfl rfl rfl (q_add_i rfl rfl rfl oM) ?_
    rw [e257]
    refine G.call (xs := [_, _]) rfl rfl (hcode_spec bl Infl.fixedLit (257 + (Defl.symOf Infl.lengthBase (Defl.find s i seen).1 28).1) _ (by rw [Infl.lit_len]; omega) (by rw [Infl.lit_sorted]; omega) (Defl.lit_get oM) (Defl.len_pos _)) bd_93_F15 rfl rfl rfl rfl tK (fun _ _ _ _ _ _ => trivial) ?_
    rintro _ _ ⟨rfl, rfl⟩
    unfold codeV
    try dsimp only [List.cons_append, List.nil_append]
    refine G.mv ?_
    refine G.q rfl rfl rfl rfl (q_extract rfl rfl rfl) (G.q rfl rfl rfl rfl (q_extract rfl rfl rfl) (G.as ?_))
    refine G.as ?_
    refine G.nil (EN.sub (sC 0 (sC 3 (sC 4 (sC 5 (sC 6 (sC 7 (sC 8 (sC 9 (sC 14 (sC 15 (sC 16 (sC 17 (sC 18 Sub.nil))))))))))))) ?_)
    refine EN.tsr (G.mv ?_)
    refine G.mv ?_
    refine G.call (xs := [_, _, _]) rfl rfl (wcode_spec b3 W _ _ hW (Defl.code_lt oM).1 (Defl.code_lt oM).2 oM) bd_94_F15 rfl rfl rfl rfl tK (fun _ _ _ _ _ _ => trivial) ?_
    rintro _ _ ⟨rfl, rfl⟩
    rw [Defl.lit_eq]
    try dsimp only [List.cons_append, List.nil_append]
    refine G.nil (EN.tsr (G.mv ?_))
    refine G.mv ?_
    refine G.call (xs := [_, _, _]) rfl rfl (wbits_spec b3 _ _ _ hWa oM oM oM) bd_92_F2 rfl rfl rfl rfl tK (fun _ _ _ _ _ _ => trivial) ?_
    rintro _ _ ⟨rfl, rfl⟩
    try dsimp only [List.cons_append, List.nil_append]
    refine G.nil (EN.tsr (G.mv ?_))
    refine G.call (xs := [_, _, _]) rfl rfl (symD_spec (Defl.find s i seen).2 oM oM) bd_95_F15 rfl rfl rfl rfl tK (fun _ _ _ _ _ _ => trivial) ?_
    rintro _ _ ⟨rfl, rfl⟩
    try dsimp only [List.cons_append, List.nil_append]
    refine G.mv ?_
    refine G.q rfl rfl rfl rfl (q_extract rfl rfl rfl) (G.q rfl rfl rfl rfl (q_extract rfl rfl rfl) (G.q rfl rfl rfl rfl (q_extract rfl rfl rfl) (G.as ?_)))
    refine G.as ?_
    refine G.as ?_
    refine G.nil (EN.sub (sC 0 (sC 3 (sC 4 (sC 5 (sC 6 (sC 7 (sC 8 (sC 14 (sC 15 (sC 16 (sC 17 (sC 18 Sub.nil)))))))))))) ?_)
    refine EN.tsr (G.mv ?_)
    refine G.mv ?_
    refine G.call (xs := [_, _]) rfl rfl (hcode_spec bd Infl.fixedDist (Defl.symOf Infl.distBase (Defl.find s i seen).2 29).1 5 (by rw [Infl.dist_len]; omega) (by rw [Infl.dist_sorted]; omega) (Defl.dst_get oM) oM) bd_93_F15 rfl rfl rfl rfl tK (fun _ _ _ _ _ _ => trivial) ?_
    rintro _ _ ⟨rfl, rfl⟩
    unfold codeV
    try dsimp only [List.cons_append, List.nil_append]
    refine G.mv ?_
    refine G.q rfl rfl rfl rfl (q_extract rfl rfl rfl) (G.q rfl rfl rfl rfl (q_extract rfl rfl rfl) (G.as ?_))
    refine G.as ?_
    refine G.nil (EN.tsr (G.mv ?_))
    refine G.mv ?_
    refine G.call (xs := [_, _, _]) rfl rfl (wcode_spec b3 _ _ _ hWb (Defl.dcode_lt oM).1 (Defl.dcode_lt oM).2 oM) bd_94_F15 rfl rfl rfl rfl tK (fun _ _ _ _ _ _ => trivial) ?_
    rintro _ _ ⟨rfl, rfl⟩
    rw [Defl.dst_eq]
    try dsimp only [List.cons_append, List.nil_append]
    refine G.nil (EN.sub (sC 0 (sC 3 (sC 4 (sC 5 (sC 6 (sC 7 (sC 8 (sC 15 (sC 16 Sub.nil))))))))) ?_)
    refine EN.tsr (G.mv ?_)
    refine G.mv ?_
    refine G.call (xs := [_, _, _]) rfl rfl (wbits_spec b3 _ _ _ hWc oM oM oM) bd_92_F2 rfl rfl rfl rfl tK (fun _ _ _ _ _ _ => trivial) ?_
    rintro _ _ ⟨rfl, rfl⟩
    rw [Defl.rep_eq]
    try dsimp only [List.cons_append, List.nil_append]
    refine G.nil (EN.tr ?_)
    refine G.mv ?_
    refine G.mv ?_
    refine G.q rfl rfl rfl rfl (q_add_i rfl rfl rfl oM) ?_
    rw [ej]
    rw [if_neg oM] at hgo
    refine G.as ?_
    refine G.nil (EN.sub (sC 0 (sC 3 (sC 4 (sC 5 (sC 6 (sC 7 Sub.nil)))))) ?_)
    refine EN.in_normal ?_
    exact EN.round (hl := [_, _, _, _]) (s.length - (i + (Defl.find s i seen).1)) oM (⟨f, i + (Defl.find s i seen).1, Defl.note s i seen, _, hW2, hj2, Defl.note_ok hsn hj1, by omega, by omega, hgo, rfl, rfl, rfl⟩) sB rfl tK sF
 ·
  have hil : i = s.length := by omega
  have hgo2 : W = Defl.go s s.length 0 (fun _ => none) (WR.zero.put 3 3) := by
    rw [← hgo]; cases f with
    | zero => rfl
    | succ f => rw [Defl.go, if_pos oM]
  refine CG.exit ?_
  refine EN.then_exit (EN.then_exit (EN.in_here ?_))
  refine EN.ts ?_
  have hWe := Defl.lit_ok (hgo2 ▸ hW) 256
  have hle := Defl.lit_len W (c := 256) oM
  rw [hgo2] at hle
  have hwl4 := hwl1
  rw [hgo2] at hwl4
  have hwe := hwl (Defl.lit (Defl.go s s.length 0 (fun _ => none) (WR.zero.put 3 3)) 256)
  refine CG.reg (G.mv ?_)
  refine G.call (xs := [_, _]) rfl rfl (hcode_spec bl Infl.fixedLit 256 _ (by rw [Infl.lit_len]; omega) (by rw [Infl.lit_sorted]; omega) (Defl.lit_get oM) (Defl.len_pos _)) bd_93_F15 rfl rfl rfl rfl tK (fun _ _ _ _ _ _ => trivial) ?_
  rintro _ _ ⟨rfl, rfl⟩
  unfold codeV
  try dsimp only [List.cons_append, List.nil_append]
  refine G.mv ?_
  refine G.q rfl rfl rfl rfl (q_extract rfl rfl rfl) (G.q rfl rfl rfl rfl (q_extract rfl rfl rfl) (G.as ?_))
  refine G.as ?_
  refine G.nil (EN.sub (sC 0 (sC 3 (sC 19 (sC 20 Sub.nil)))) ?_)
  refine EN.tsr (G.mv ?_)
  refine G.mv ?_
  refine G.call (xs := [_, _, _]) rfl rfl (wcode_spec b3 W _ _ hW (Defl.code_lt oM).1 (Defl.code_lt oM).2 oM) bd_94_F15 rfl rfl rfl rfl tK (fun _ _ _ _ _ _ => trivial) ?_
  rintro _ _ ⟨rfl, rfl⟩
  rw [Defl.lit_eq, hgo2]
  try dsimp only [List.cons_append, List.nil_append]
  refine G.nil (EN.ts (CG.sr (G.call (xs := [_]) rfl rfl (wtext_spec b3 _ hWe oM) bd_98_F15 rfl rfl rfl rfl tK (fun _ _ _ _ _ _ => trivial) ?_)))
  rintro _ _ ⟨rfl, rfl⟩
  try dsimp only [List.cons_append, List.nil_append]
  refine G.as ?_
  refine G.nil (EN.tsr (G.mv ?_))
  refine G.q rfl rfl rfl rfl (q_len_str rfl rfl us_9_F1) (G.mv ?_)
  refine G.call (xs := [_]) rfl rfl (stored2_spec s hs) bd_99_F15 rfl rfl rfl rfl tK (fun _ _ _ _ _ _ => trivial) ?_
  rintro _ _ ⟨rfl, rfl⟩
  try dsimp only [List.cons_append, List.nil_append]
  refine G.q rfl rfl rfl rfl (q_len_str rfl rfl us_9_F1) (G.q rfl rfl rfl rfl (q_lss rfl rfl rfl) (G.nil (EN.sub (sC 0 (sC 21 (sC 159 Sub.nil))) ?_)))
  refine EN.then ?_
  refine CG.cond rfl (fun h159 => ?_) (fun h159 => ?_)
  ·
   have he : Defl.deflate s = Defl.stream s := if_pos (by unfold Defl.stream; omega)
   refine CG.sr (G.mv ?_)
   refine G.as ?_
   refine G.nil (EN.then (CG.ret (EN.then_ret ?_)))
   rw [he]
   try unfold Defl.stream
   exact fin_ret1 rfl rfl tK sF (⟨rfl, rfl⟩) _ (.inl rfl)
  ·
   have he : Defl.deflate s = Defl.stored s := if_neg (by unfold Defl.stream; omega)
   refine CG.skip (EN.tsr (G.mv ?_))
   refine G.call (xs := [_]) rfl rfl (stored2_spec s hs) bd_99_F15 rfl rfl rfl rfl tK (fun _ _ _ _ _ _ => trivial) ?_
   rintro _ _ ⟨rfl, rfl⟩
   try dsimp only [List.cons_append, List.nil_append]
   refine G.as ?_
   refine G.nil (EN.then (CG.ret ?_))
   rw [he]
   try unfold Defl.stream
   exact fin_ret1 rfl rfl tK sF (⟨rfl, rfl⟩) _ (.inl rfl)

end Go.Eng
/-
  DERIVED: THE SHELF's CONTRACTS AT THIS DUMP, IN PLAIN WORDS (tools/lay-plain.mjs out of 'TryzShelf.lean', which tools/lay-shelf.mjs wrote): THE SAME DECLARATIONS UNDER THE SAME NAMES: 'import', 'namespace', 'open', 'def', 'theorem' AND NOTHING ELSE: no command of the shelf's: FOR A HAND-IN. Each laying: the table of numbers ('.._ren') and one theorem, a field a fact of the dump's own or the kernel's comparison; each contract: ONE APPLICATION.
-/
namespace Go.Proofs
open Go.Shelf
def Tryz.laysM171_ren : Go.Shelf.Ren := ⟨fun | 171 => 100 | 243 => 118 | 246 => 127 | 283 => 131 | 284 => 132 | 285 => 133 | 286 => 134 | 129 => 136 | 317 => 135 | 318 => 137 | 319 => 138 | 320 => 139 | 337 => 140 | 338 => 141 | n => n, fun | 3 => 3 | 9 => 9 | 2 => 2 | 4 => 4 | 171 => 180 | 0 => 0 | 53 => 58 | 37 => 80 | 5 => 5 | 173 => 183 | 212 => 186 | 51 => 28 | 20 => 20 | 213 => 187 | 46 => 89 | 232 => 190 | 233 => 191 | n => n, fun | 17 => 0 | 18 => 1 | 19 => 2 | n => n⟩
theorem Tryz.laysM171 : Go.Proofs.LaysM.n171 Tryz.prog Tryz.laysM171_ren := {
  mixed := by kernel_rfl
  f129 := Tryz.func136.trans (congrArg some (by kernel_rfl))
  f171 := Tryz.func100.trans (congrArg some (by kernel_rfl))
  f243 := Tryz.func118.trans (congrArg some (by kernel_rfl))
  f246 := Tryz.func127.trans (congrArg some (by kernel_rfl))
  f283 := Tryz.func131.trans (congrArg some (by kernel_rfl))
  f284 := Tryz.func132.trans (congrArg some (by kernel_rfl))
  f285 := Tryz.func133.trans (congrArg some (by kernel_rfl))
  f286 := Tryz.func134.trans (congrArg some (by kernel_rfl))
  f317 := Tryz.func135.trans (congrArg some (by kernel_rfl))
  f318 := Tryz.func137.trans (congrArg some (by kernel_rfl))
  f319 := Tryz.func138.trans (congrArg some (by kernel_rfl))
  f320 := Tryz.func139.trans (congrArg some (by kernel_rfl))
  f337 := Tryz.func140.trans (congrArg some (by kernel_rfl))
  f338 := Tryz.func141.trans (congrArg some (by kernel_rfl))
  t0 := Tryz.underlying0
  a0 := Tryz.isAgg0
  z0 := Tryz.sizeOf0
  v0 := Tryz.zeroValue0
  t2 := Tryz.underlying2
  a2 := Tryz.isAgg2
  z2 := Tryz.sizeOf2
  v2 := Tryz.zeroValue2
  t3 := Tryz.underlying3
  a3 := Tryz.isAgg3
  z3 := Tryz.sizeOf3
  v3 := Tryz.zeroValue3
  t4 := Tryz.underlying4
  a4 := Tryz.isAgg4
  z4 := Tryz.sizeOf4
  v4 := Tryz.zeroValue4
  t5 := Tryz.underlying5
  a5 := Tryz.isAgg5
  z5 := Tryz.sizeOf5
  v5 := Tryz.zeroValue5
  t9 := Tryz.underlying9
  a9 := Tryz.isAgg9
  z9 := Tryz.sizeOf9
  v9 := Tryz.zeroValue9
  t20 := Tryz.underlying20
  a20 := Tryz.isAgg20
  z20 := Tryz.sizeOf20
  v20 := Tryz.zeroValue20
  t37 := Tryz.underlying80
  a37 := Tryz.isAgg80
  z37 := Tryz.sizeOf80
  v37 := Tryz.zeroValue80
  t46 := Tryz.underlying89
  a46 := Tryz.isAgg89
  z46 := Tryz.sizeOf89
  v46 := Tryz.zeroValue89
  t51 := Tryz.underlying28
  a51 := Tryz.isAgg28
  z51 := Tryz.sizeOf28
  v51 := Tryz.zeroValue28
  t53 := Tryz.underlying58
  a53 := Tryz.isAgg58
  z53 := Tryz.sizeOf58
  v53 := Tryz.zeroValue58
  t171 := Tryz.underlying180
  a171 := Tryz.isAgg180
  z171 := Tryz.sizeOf180
  v171 := Tryz.zeroValue180
  t173 := Tryz.underlying183
  a173 := Tryz.isAgg183
  z173 := Tryz.sizeOf183
  v173 := Tryz.zeroValue183
  t212 := Tryz.underlying186
  a212 := Tryz.isAgg186
  z212 := Tryz.sizeOf186
  v212 := Tryz.zeroValue186
  t213 := Tryz.underlying187
  a213 := Tryz.isAgg187
  z213 := Tryz.sizeOf187
  t232 := Tryz.underlying190
  a232 := Tryz.isAgg190
  z232 := Tryz.sizeOf190
  v232 := Tryz.zeroValue190
  t233 := Tryz.underlying191
  a233 := Tryz.isAgg191
  z233 := Tryz.sizeOf191
  v233 := Tryz.zeroValue191
  g17 := by kernel_rfl
  g18 := by kernel_rfl
  g19 := by kernel_rfl
  i0 := by kernel_rfl
  i2 := by kernel_rfl
  i3 := by kernel_rfl
  i4 := by kernel_rfl
  i5 := by kernel_rfl
  i9 := by kernel_rfl
  i20 := by kernel_rfl
  i37 := by kernel_rfl
  i46 := by kernel_rfl
  i51 := by kernel_rfl
  i53 := by kernel_rfl
  i171 := by kernel_rfl
  i173 := by kernel_rfl
  i212 := by kernel_rfl
  i232 := by kernel_rfl
  i233 := by kernel_rfl
  m17 := by kernel_rfl
  m18 := by kernel_rfl
  m19 := by kernel_rfl }
open Go.RowKit Go.Sort Go.Lib in
/-- strconv.Itoa: "Itoa is equivalent to FormatInt(int64(i), 10).": i's DECIMAL NUMERAL ('Lib.itoa': a '-' where i is negative, then the digits), FOR EVERY int. The world behind the call: the world before it, new blocks behind the heap (the library's 'var a [24]byte'), draws. (LAID: no walk: one application.) -/
theorem Tryz.strconv_Itoa (n : Int) (h0 : -9223372036854775808 ≤ n) (h1 : n ≤ 9223372036854775807) (w : World) (htab : Lib.TabIs Tryz.prog w "internal/strconv.uint64pow10" .u64 Lib.pow10Tab) :
    Calls Tryz.prog 100 #[.int .i64 n] w fun e w' => e = .returned (.string ⟨(Lib.itoa n).toArray⟩) ∧ ∃ k os, w' = grow (w.drewN k) os := Any.strconv_Itoa Tryz.laysM171 n h0 h1 w htab
def Tryz.lays171_ren : Go.Shelf.Ren := ⟨fun | 171 => 100 | 243 => 118 | 246 => 127 | 283 => 131 | 284 => 132 | 285 => 133 | 286 => 134 | 129 => 136 | 317 => 135 | 318 => 137 | 319 => 138 | 320 => 139 | 337 => 140 | 338 => 141 | n => n, fun | 3 => 3 | 9 => 9 | 2 => 2 | 4 => 4 | 171 => 180 | 0 => 0 | 53 => 58 | 37 => 80 | 5 => 5 | 173 => 183 | 212 => 186 | 51 => 28 | 20 => 20 | 213 => 187 | 46 => 89 | 232 => 190 | 233 => 191 | n => n, fun | 17 => 0 | 18 => 1 | 19 => 2 | n => n⟩
theorem Tryz.lays171 : Go.Proofs.Lays.n171 Tryz.prog Tryz.lays171_ren := {
  mixed := by kernel_rfl
  f129 := Tryz.func136.trans (congrArg some (by kernel_rfl))
  f171 := Tryz.func100.trans (congrArg some (by kernel_rfl))
  f243 := Tryz.func118.trans (congrArg some (by kernel_rfl))
  f246 := Tryz.func127.trans (congrArg some (by kernel_rfl))
  f283 := Tryz.func131.trans (congrArg some (by kernel_rfl))
  f284 := Tryz.func132.trans (congrArg some (by kernel_rfl))
  f285 := Tryz.func133.trans (congrArg some (by kernel_rfl))
  f286 := Tryz.func134.trans (congrArg some (by kernel_rfl))
  f317 := Tryz.func135.trans (congrArg some (by kernel_rfl))
  f318 := Tryz.func137.trans (congrArg some (by kernel_rfl))
  f319 := Tryz.func138.trans (congrArg some (by kernel_rfl))
  f320 := Tryz.func139.trans (congrArg some (by kernel_rfl))
  f337 := Tryz.func140.trans (congrArg some (by kernel_rfl))
  f338 := Tryz.func141.trans (congrArg some (by kernel_rfl))
  t0 := Tryz.underlying0
  a0 := Tryz.isAgg0
  z0 := Tryz.sizeOf0
  v0 := Tryz.zeroValue0
  t2 := Tryz.underlying2
  a2 := Tryz.isAgg2
  z2 := Tryz.sizeOf2
  v2 := Tryz.zeroValue2
  t3 := Tryz.underlying3
  a3 := Tryz.isAgg3
  z3 := Tryz.sizeOf3
  v3 := Tryz.zeroValue3
  t4 := Tryz.underlying4
  a4 := Tryz.isAgg4
  z4 := Tryz.sizeOf4
  v4 := Tryz.zeroValue4
  t5 := Tryz.underlying5
  a5 := Tryz.isAgg5
  z5 := Tryz.sizeOf5
  v5 := Tryz.zeroValue5
  t9 := Tryz.underlying9
  a9 := Tryz.isAgg9
  z9 := Tryz.sizeOf9
  v9 := Tryz.zeroValue9
  t20 := Tryz.underlying20
  a20 := Tryz.isAgg20
  z20 := Tryz.sizeOf20
  v20 := Tryz.zeroValue20
  t37 := Tryz.underlying80
  a37 := Tryz.isAgg80
  z37 := Tryz.sizeOf80
  v37 := Tryz.zeroValue80
  t46 := Tryz.underlying89
  a46 := Tryz.isAgg89
  z46 := Tryz.sizeOf89
  v46 := Tryz.zeroValue89
  t51 := Tryz.underlying28
  a51 := Tryz.isAgg28
  z51 := Tryz.sizeOf28
  v51 := Tryz.zeroValue28
  t53 := Tryz.underlying58
  a53 := Tryz.isAgg58
  z53 := Tryz.sizeOf58
  v53 := Tryz.zeroValue58
  t171 := Tryz.underlying180
  a171 := Tryz.isAgg180
  z171 := Tryz.sizeOf180
  v171 := Tryz.zeroValue180
  t173 := Tryz.underlying183
  a173 := Tryz.isAgg183
  z173 := Tryz.sizeOf183
  v173 := Tryz.zeroValue183
  t212 := Tryz.underlying186
  a212 := Tryz.isAgg186
  z212 := Tryz.sizeOf186
  v212 := Tryz.zeroValue186
  t213 := Tryz.underlying187
  a213 := Tryz.isAgg187
  z213 := Tryz.sizeOf187
  t232 := Tryz.underlying190
  a232 := Tryz.isAgg190
  z232 := Tryz.sizeOf190
  v232 := Tryz.zeroValue190
  t233 := Tryz.underlying191
  a233 := Tryz.isAgg191
  z233 := Tryz.sizeOf191
  v233 := Tryz.zeroValue191
  g17 := by kernel_rfl
  g18 := by kernel_rfl
  g19 := by kernel_rfl }
open Go.RowKit Go.Sort Go.Lib in
/-- THE ROAD WITHOUT THE TABLE: 0 <= i < 100: NO PREMISE ON THE WORLD, AND THE WORLD IS AS IT WAS: a row that keeps its argument in that range need list no table ('laid = []'). (LAID: no walk: one application.) -/
theorem Tryz.strconv_Itoa_small (i : Nat) (hi : i < 100) (w : World) :
    Calls Tryz.prog 100 #[.int .i64 i] w fun e w' => e = .returned (.string ⟨(Lib.decDigits i).toArray⟩) ∧ w' = w := Any.strconv_Itoa_small Tryz.lays171 i hi w
end Go.Proofs
/-
  zlib.Write; objects: Encode, Id.
-/
set_option linter.unusedVariables false
set_option linter.unusedSimpArgs false
namespace Go.Eng
open Go.Proofs
theorem ag_51_F16 : aggB Tryz.prog 51 = some true := by kernel_rfl
theorem bd_100_F16 : bodied Tryz.prog 100 = true := by kernel_rfl
theorem bd_20_F16 : bodied Tryz.prog 20 = true := by kernel_rfl
theorem bd_26_F16 : bodied Tryz.prog 26 = true := by kernel_rfl
theorem bd_35_F16 : bodied Tryz.prog 35 = true := by kernel_rfl
theorem bd_62_F16 : bodied Tryz.prog 62 = true := by kernel_rfl
theorem bd_63_F16 : bodied Tryz.prog 63 = true := by kernel_rfl
theorem bd_67_F16 : bodied Tryz.prog 67 = true := by kernel_rfl
theorem sz_51_F16 : sizeB Tryz.prog 51 = some 2 := by kernel_rfl

/-- strconv's table of powers -/
def TabI (tz : TypeId × Nat × Nat) : HP := tabH 0 (Lib.pow10Tab.map fun z => .int .u64 z) tz
theorem itoa_spec {tz : TypeId × Nat × Nat} (n : Int) (h0 : -9223372036854775808 ≤ n) (h1 : n ≤ 9223372036854775807) : Spec Tryz.prog 100 #[.int .i64 n] [TabI tz] (Ret fun v hl => v = str (Lib.itoa n) ∧ hl = [TabI tz]) :=
  Spec.shelf (name := "internal/strconv.uint64pow10") (by kernel_rfl) (fun w h => Tryz.strconv_Itoa n h0 h1 w h)
def encode (k : Int) (d : List UInt8) : List UInt8 := oname k ++ [32] ++ Lib.itoa (d.length : Int) ++ [0] ++ d
def encodeV (k : Int) (d : List UInt8) : Value := if ocheck k d = 0 then .tuple #[str (encode k d), .int .i64 0] else .tuple #[str [], .int .i64 (ocheck k d)]
def idV (k : Int) (d : List UInt8) : Value := if ocheck k d = 0 then .tuple #[str (Sums.hex (Sha.sum1 (encode k d))), .int .i64 0] else .tuple #[str [], .int .i64 (ocheck k d)]
theorem oname_len (k : Int) : (oname k).length ≤ 6 := by unfold oname; repeat' split
                                                         all_goals simp
theorem ocheck_len {k : Int} {d : List UInt8} (h : ocheck k d = 0) : d.length ≤ 65000 := by unfold ocheck at h; split at h; cases h; split at h; cases h; omega
theorem encode_len {k : Int} {d : List UInt8} (h : d.length ≤ 65000) : (encode k d).length ≤ 65100 := by
  have h1 := oname_len k
  have h2 := Lib.itoa_length_le (d.length : Int) (by omega) (by omega)
  unfold encode; simp; omega

attribute [local irreducible] cel own exS tabH TabI Defl.deflate Sha.sum1 Sums.hex oname ocheck

set_option maxRecDepth 100000 in
set_option maxHeartbeats 1000000 in
theorem zwrite_spec (s : List UInt8) (hs : s.length ≤ 65535) : Spec Tryz.prog 37 #[str s] [] (Ret fun v hl => v = str ([120, 1] ++ Defl.deflate s ++ Sums.big (Sums.adler s) 4) ∧ hl = []) := by
 have hd := Defl.deflate_len s hs
 refine Spec.enter Tryz.func37 rfl rfl rfl (fun F w0 => ?_)
 dsimp only [argL, List.cons_append, List.nil_append]
 refine CG.sr (G.as ?_)
 refine G.nil (EN.tsr (G.mv ?_))
 refine G.call (xs := [_]) rfl rfl (deflate_spec s hs) bd_63_F16 rfl rfl rfl rfl tK (fun _ _ _ _ _ _ => trivial) ?_
 rintro _ _ ⟨rfl, rfl⟩
 try dsimp only [List.cons_append, List.nil_append]
 refine G.mv ?_
 refine G.call (xs := [_, _]) rfl rfl (frame_spec (Defl.deflate s) s oM oM) bd_62_F16 rfl rfl rfl rfl tK (fun _ _ _ _ _ _ => trivial) ?_
 rintro _ _ ⟨rfl, rfl⟩
 try dsimp only [List.cons_append, List.nil_append]
 refine G.as ?_
 refine G.nil (EN.then (CG.ret ?_))
 exact fin_ret1 rfl rfl tK sF (⟨rfl, rfl⟩) _ (.inl rfl)

set_option maxRecDepth 100000 in
set_option maxHeartbeats 1000000 in
theorem encode_spec {tz : TypeId × Nat × Nat} (k : Int) (d : List UInt8) : Spec Tryz.prog 67 #[.agg #[.int .i64 k, str d]] [TabI tz] (Ret fun v hl => v = encodeV k d ∧ hl = [TabI tz]) := by
 have hn := oname_len k
 refine Spec.enter Tryz.func67 rfl rfl rfl (fun F w0 => ?_)
 dsimp only [argL, List.cons_append, List.nil_append]
 refine CG.sr (G.e rfl rfl rfl rfl (e_box rfl rfl) (fun _ _ _ _ _ _ => trivial) ?_)
 rintro _ _ ⟨b1, rfl, rfl⟩
 refine G.as ?_
 refine G.as ?_
 refine G.nil (EN.ts (CG.sr (G.ldA ag_51_F16 sz_51_F16 ?_)))
 refine G.call (xs := [_]) rfl rfl (ocheck_spec k d) bd_35_F16 rfl rfl rfl rfl tK (fun _ _ _ _ _ _ => trivial) ?_
 rintro _ _ ⟨rfl, rfl⟩
 try dsimp only [List.cons_append, List.nil_append]
 refine G.as ?_
 refine G.nil (EN.tsr (G.mv ?_))
 refine G.q rfl rfl rfl rfl (q_neq rfl rfl rfl) (G.nil (EN.then ?_))
 refine CG.cond rfl (fun h8 => ?_) (fun h8 => ?_)
 ·
  have he : encodeV k d = .tuple #[str [], .int .i64 (ocheck k d)] := if_neg oM
  refine CG.sr (G.mv ?_)
  refine G.as ?_
  refine G.as ?_
  refine G.nil (EN.then (CG.ret (EN.then_ret ?_)))
  rw [he]
  try unfold encode
  exact fin_ret2 rfl rfl rfl tK sF (⟨rfl, rfl⟩) _ (.inl rfl)
 ·
  have hc0 : ocheck k d = 0 := by omega
  have hdl := ocheck_len hc0
  have he : encodeV k d = .tuple #[str (encode k d), .int .i64 0] := if_pos hc0
  have hi := Lib.itoa_length_le (d.length : Int) oM oM
  refine CG.skip (EN.ts ?_)
  refine CG.regC [11, 15, 21] (Keeps _ [cel b1 51 [.int .i64 k, str d]]) mixed (by kernel_rfl) (fun w hw => Keeps.of hw tK) ?_
  refine G.q rfl rfl rfl rfl (q_field0 rfl rfl fo_51_0_F13) (G.rK rfl rfl rfl rfl rfl (fun R => r_load rfl rfl ag_3_F1 mB rfl) ?_)
  refine G.call (xs := [_]) rfl rfl (oname_spec k) bd_61_F13 rfl rfl rfl rfl tK (fun _ _ _ w hR hw => by obtain ⟨_, rfl⟩ := hR; exact Keeps.of hw tK) ?_
  rintro _ _ ⟨rfl, rfl⟩
  try dsimp only [List.cons_append, List.nil_append]
  refine G.q rfl rfl rfl rfl (q_add_s rfl rfl rfl (by simp; omega)) (G.q rfl rfl rfl rfl (q_field0 rfl rfl fo_51_1_F13) (G.rK rfl rfl rfl rfl rfl (fun R => r_load rfl rfl ag_9_F1 mB rfl) ?_))
  refine G.q rfl rfl rfl rfl (q_len_str rfl rfl us_9_F1) (G.call (xs := [_]) rfl rfl (itoa_spec (d.length : Int) oM oM) bd_100_F16 rfl rfl rfl rfl tK (fun _ _ _ w hR hw => by obtain ⟨_, rfl⟩ := hR; exact Keeps.of hw tK) ?_)
  rintro _ _ ⟨rfl, rfl⟩
  try dsimp only [List.cons_append, List.nil_append]
  refine G.q rfl rfl rfl rfl (q_add_s rfl rfl rfl (by simp; omega)) (G.q rfl rfl rfl rfl (q_add_s rfl rfl rfl (by simp; omega)) (G.q rfl rfl rfl rfl (q_field0 rfl rfl fo_51_1_F13) (G.rK rfl rfl rfl rfl rfl (fun R => r_load rfl rfl ag_9_F1 mB rfl) ?_)))
  refine G.q rfl rfl rfl rfl (q_add_s rfl rfl rfl (by simp; omega)) (G.as ?_)
  refine G.as ?_
  refine G.nil (EN.sub (sC 2 (sC 3 Sub.nil)) ?_)
  refine EN.then (CG.ret ?_)
  rw [he]
  try unfold encode
  exact fin_ret2 rfl rfl rfl tK sF (⟨rfl, rfl⟩) _ (.inl rfl)

set_option maxRecDepth 100000 in
set_option maxHeartbeats 1000000 in
theorem oid_spec {tz : TypeId × Nat × Nat} (k : Int) (d : List UInt8) : Spec Tryz.prog 39 #[.agg #[.int .i64 k, str d]] [TabI tz] (Ret fun v hl => v = idV k d ∧ hl = [TabI tz]) := by
 refine Spec.enter Tryz.func39 rfl rfl rfl (fun F w0 => ?_)
 dsimp only [argL, List.cons_append, List.nil_append]
 refine CG.seq ?_
 by_cases hc : ocheck k d = 0
 ·
  refine CG.reg (G.e rfl rfl rfl rfl (e_box rfl rfl) (fun _ _ _ _ _ _ => trivial) ?_)
  rintro _ _ ⟨b1, rfl, rfl⟩
  refine G.as ?_
  refine G.as ?_
  refine G.nil (EN.tsr (G.ldA ag_51_F16 sz_51_F16 ?_))
  refine G.call (xs := [_]) rfl rfl (encode_spec k d) bd_67_F16 rfl rfl rfl rfl tK (fun _ _ _ _ _ _ => trivial) ?_
  rintro _ _ ⟨rfl, rfl⟩
  rw [show encodeV k d = .tuple #[str (encode k d), .int .i64 0] from if_pos hc]
  try dsimp only [List.cons_append, List.nil_append]
  refine G.mv ?_
  refine G.q rfl rfl rfl rfl (q_extract rfl rfl rfl) (G.q rfl rfl rfl rfl (q_extract rfl rfl rfl) (G.as ?_))
  refine G.as ?_
  refine G.nil (EN.ts (CG.sr (G.mv ?_)))
  refine G.q rfl rfl rfl rfl (q_neq rfl rfl rfl) (G.nil (EN.then ?_))
  refine CG.cond rfl (fun h12 => absurd h12 (fun h => h rfl)) (fun h12 => ?_)
  refine CG.skip (EN.ts ?_)
  have hel := encode_len (k := k) (ocheck_len hc)
  refine CG.reg (G.mv ?_)
  refine G.call (xs := [_]) rfl rfl (sum1_spec (encode k d) oM) bd_20_F16 rfl rfl rfl rfl tK (fun _ _ _ _ _ _ => trivial) ?_
  rintro _ _ ⟨rfl, rfl⟩
  try dsimp only [List.cons_append, List.nil_append]
  refine G.call (xs := [_]) rfl rfl (hex_spec (Sha.sum1 (encode k d)) (by rw [sum1_len]; omega)) bd_26_F16 rfl rfl rfl rfl tK (fun _ _ _ _ _ _ => trivial) ?_
  rintro _ _ ⟨rfl, rfl⟩
  try dsimp only [List.cons_append, List.nil_append]
  refine G.as ?_
  refine G.as ?_
  refine G.nil (EN.sub (sC 2 (sC 3 Sub.nil)) ?_)
  refine EN.then (CG.ret ?_)
  rw [show idV k d = .tuple #[str (Sums.hex (Sha.sum1 (encode k d))), .int .i64 0] from if_pos hc]
  exact fin_ret2 rfl rfl rfl tK sF (⟨rfl, rfl⟩) _ (.inl rfl)
 ·
  refine CG.reg (G.e rfl rfl rfl rfl (e_box rfl rfl) (fun _ _ _ _ _ _ => trivial) ?_)
  rintro _ _ ⟨b1, rfl, rfl⟩
  refine G.as ?_
  refine G.as ?_
  refine G.nil (EN.tsr (G.ldA ag_51_F16 sz_51_F16 ?_))
  refine G.call (xs := [_]) rfl rfl (encode_spec k d) bd_67_F16 rfl rfl rfl rfl tK (fun _ _ _ _ _ _ => trivial) ?_
  rintro _ _ ⟨rfl, rfl⟩
  rw [show encodeV k d = .tuple #[str [], .int .i64 (ocheck k d)] from if_neg hc]
  try dsimp only [List.cons_append, List.nil_append]
  refine G.mv ?_
  refine G.q rfl rfl rfl rfl (q_extract rfl rfl rfl) (G.q rfl rfl rfl rfl (q_extract rfl rfl rfl) (G.as ?_))
  refine G.as ?_
  refine G.nil (EN.ts (CG.sr (G.mv ?_)))
  refine G.q rfl rfl rfl rfl (q_neq rfl rfl rfl) (G.nil (EN.then ?_))
  refine CG.cond rfl (fun h12 => ?_) (fun h12 => absurd oM h12)
  refine CG.sr (G.mv ?_)
  refine G.as ?_
  refine G.as ?_
  refine G.nil (EN.sub (sC 2 (sC 3 (sC 4 Sub.nil))) ?_)
  refine EN.then (CG.ret (EN.then_ret ?_))
  rw [show idV k d = .tuple #[str [], .int .i64 (ocheck k d)] from if_neg hc]
  exact fin_ret2 rfl rfl rfl tK sF (⟨rfl, rfl⟩) _ (.inl rfl)

end Go.Eng
/-
  Packs read: byte, head, back, Read.
-/
set_option linter.unusedVariables false
set_option linter.unusedSimpArgs false
namespace Go.Eng
open Go.Proofs
theorem bd_51_F19 : bodied Tryz.prog 51 = true := by kernel_rfl
theorem bu_30__F19 : ∀ (w : World), (Instr.build 30 [].toArray).run Tryz.prog w = .ok (.agg [.int .i64 0, .int .i64 0, .int .i64 0, str [], .int .i64 0, str [], .int .u32 0].toArray) w := fun _ => by kernel_rfl
theorem fo_65_0_F19 : fieldOff Tryz.prog 65 0 = some 0 := by kernel_rfl
theorem fo_65_1_F19 : fieldOff Tryz.prog 65 1 = some 1 := by kernel_rfl
theorem ia_61_F19 : niB Tryz.prog 61 = true := by kernel_rfl
theorem ik_3_F19 : intK Tryz.prog 3 = some .i64 := by kernel_rfl
theorem is_61_F19 : (Tryz.prog.underlying 61).isSome = true := by kernel_rfl
theorem sz_23_F19 : sizeB Tryz.prog 23 = some 1 := by kernel_rfl
theorem sz_30_F19 : sizeB Tryz.prog 30 = some 7 := by kernel_rfl
theorem zB_61_F19 : zeroB Tryz.prog 61 = some (.int .i64 0) := by kernel_rfl

/-- the reader's panic -/
def wr (k : Nat) : List PanicEntry := [{ v := .iface 61 (.int .i64 k), recovered := false }]
def bytePost (s : List UInt8) (b a : Nat) : Ending → List HP → Prop := RetP (fun v hl => ∃ c : UInt8, s[a]? = some c ∧ v = .int .i64 (c.toNat : Nat) ∧ hl = [cel b 65 [str s, .int .i64 (a + 1 : Nat)]]) (fun ch hl => s[a]? = none ∧ ch = wr 6 ∧ hl = [cel b 65 [str s, .int .i64 (a : Nat)]])
def headPost (s : List UInt8) (b a : Nat) : Ending → List HP → Prop := RetP (fun v hl => ∃ p : Nat × Nat × Nat, Pk.head s a = .ok p ∧ v = .tuple #[.int .i64 (p.1 : Nat), .int .i64 (p.2.1 : Nat)] ∧ hl = [cel b 65 [str s, .int .i64 (p.2.2 : Nat)]]) (fun ch hl => ∃ e a2 : Nat, Pk.head s a = .err e ∧ ch = wr e ∧ hl = [cel b 65 [str s, .int .i64 (a2 : Nat)]])
def backPost (s : List UInt8) (b a : Nat) : Ending → List HP → Prop := RetP (fun v hl => ∃ p : Nat × Nat, Pk.back s a = .ok p ∧ v = .int .i64 (p.1 : Nat) ∧ hl = [cel b 65 [str s, .int .i64 (p.2 : Nat)]]) (fun ch hl => ∃ e a2 : Nat, Pk.back s a = .err e ∧ ch = wr e ∧ hl = [cel b 65 [str s, .int .i64 (a2 : Nat)]])

attribute [local irreducible] cel own exS ownG tabH Sums.hex crc32 zread

set_option maxRecDepth 100000 in
set_option maxHeartbeats 1000000 in
theorem byte_spec (s : List UInt8) (b a : Nat) (hs : s.length ≤ 1000000000) : Spec Tryz.prog 51 #[.pointer (some ⟨b, 0, none⟩)] [cel b 65 [str s, .int .i64 (a : Nat)]] (bytePost s b a) := by
 refine Spec.enter Tryz.func51 rfl rfl rfl (fun F w0 => ?_)
 dsimp only [argL, List.cons_append, List.nil_append]
 refine CG.sr (G.as ?_)
 refine G.nil (EN.ts (CG.seq ?_))
 refine CG.regT [] mixed (by kernel_rfl) ?_
 refine G.mv ?_
 refine G.np ?_
 refine G.q rfl rfl rfl rfl (q_field0 rfl rfl fo_65_1_F19) (G.ld ag_3_F1 ?_)
 refine G.mv ?_
 refine G.np ?_
 refine G.q rfl rfl rfl rfl (q_field0 rfl rfl fo_65_0_F19) (G.ld ag_9_F1 ?_)
 refine G.q rfl rfl rfl rfl (q_len_str rfl rfl us_9_F1) (G.q rfl rfl rfl rfl (q_geq rfl rfl rfl) (G.nil (EN.sub (sC 0 (sC 2 (sC 12 Sub.nil))) ?_)))
 refine EN.then ?_
 refine CG.cond rfl (fun h12 => ?_) (fun h12 => ?_)
 ·
  have hn : s[a]? = none := List.getElem?_eq_none oM
  refine CG.reg (G.q rfl rfl rfl rfl (q_ifaceB rfl rfl ia_61_F19) (G.panic rfl rfl rfl ?_))
  refine EN.then_panic ?_
  exact fin_panic (⟨hn, rfl, rfl⟩) tK sF
 ·
  obtain ⟨c, hc⟩ := get_some (l := s) (k := a) oM
  have ea : (a : Int) + 1 = ((a + 1 : Nat) : Int) := by omega
  have ea2 : ((a + 1 : Nat) : Int) - 1 = (a : Int) := by omega
  have hcl := c.toNat_lt
  refine CG.skip (EN.tsr (G.mv ?_))
  refine G.np ?_
  refine G.q rfl rfl rfl rfl (q_field0 rfl rfl fo_65_1_F19) (G.ld ag_3_F1 ?_)
  refine G.q rfl rfl rfl rfl (q_add_i rfl rfl rfl oM) ?_
  rw [ea]
  refine G.np ?_
  refine G.q rfl rfl rfl rfl (q_field0 rfl rfl fo_65_1_F19) ?_
  refine G.st0 sz_3_F1 ?_
  refine G.nil (EN.ts ?_)
  refine CG.regT [31] mixed (by kernel_rfl) ?_
  refine G.mv ?_
  refine G.np ?_
  refine G.q rfl rfl rfl rfl (q_field0 rfl rfl fo_65_0_F19) (G.ld ag_9_F1 ?_)
  refine G.mv ?_
  refine G.np ?_
  refine G.q rfl rfl rfl rfl (q_field0 rfl rfl fo_65_1_F19) (G.ld ag_3_F1 ?_)
  refine G.q rfl rfl rfl rfl (q_sub_i rfl rfl rfl oM) ?_
  rw [ea2]
  refine G.q rfl rfl rfl rfl (q_index rfl rfl rfl us_9_F1 (hc)) (G.q rfl rfl rfl rfl (q_conv_in rfl rfl is_5_F1 ik_3_F19 (wrap64_in oM)) (G.as ?_))
  refine G.nil (EN.sub (sC 2 Sub.nil) ?_)
  refine EN.then (CG.ret ?_)
  exact fin_ret1 rfl rfl tK sF (⟨c, hc, rfl, rfl⟩) _ (.inl rfl)

set_option maxRecDepth 100000 in
set_option maxHeartbeats 1000000 in
theorem phead_spec (s : List UInt8) (b a : Nat) (hs : s.length ≤ 1000000000) : Spec Tryz.prog 24 #[.pointer (some ⟨b, 0, none⟩)] [cel b 65 [str s, .int .i64 (a : Nat)]] (headPost s b a) := by
 refine Spec.enter Tryz.func24 rfl rfl rfl (fun F w0 => ?_)
 dsimp only [argL, List.cons_append, List.nil_append]
 refine CG.sr (G.as ?_)
 refine G.as ?_
 refine G.nil (EN.tsr (G.mv ?_))
 refine G.callX (xs := [_]) rfl rfl (byte_spec s b a hs) bd_51_F19 rfl rfl rfl tK (fun _ h => h) ?_ ?_
 ·
  rintro ch hl ⟨hn, rfl, rfl⟩
  have hE : Pk.head s a = .err 6 := by unfold Pk.head; rw [hn]
  try dsimp only [List.cons_append, List.nil_append]
  refine EN.then_panic ?_
  exact fin_panic (⟨_, _, hE, rfl, rfl⟩) tK sF
 ·
  rintro v hl ⟨c, hc, rfl, rfl⟩
  have hcl := c.toNat_lt
  have hci := (List.getElem?_eq_some_iff.1 hc).1
  have ek : (c.toNat : Int) / 16 % 8 = ((c.toNat / 16 % 8 : Nat) : Int) := by omega
  have en : (c.toNat : Int) % 16 = ((c.toNat % 16 : Nat) : Int) := by omega
  try dsimp only [List.cons_append, List.nil_append]
  refine G.as ?_
  refine G.nil (EN.tsr (G.mv ?_))
  refine G.q rfl rfl rfl rfl (q_shrc (d := 16) rfl rfl rfl (by decide) (by decide)) (G.q rfl rfl rfl rfl (q_andm (j := 3) (d := 8) rfl rfl rfl lOm lOm (by decide) (by decide) (by decide)) ?_)
  rw [ek]
  refine G.mv ?_
  refine G.q rfl rfl rfl rfl (q_andm (j := 4) (d := 16) rfl rfl rfl lOm lOm (by decide) (by decide) (by decide)) ?_
  rw [en]
  refine G.as ?_
  refine G.as ?_
  refine G.as ?_
  refine G.nil (EN.ts (CG.block (CG.loopI (fun m L H => ∃ (f cc n sh a1 : Nat), Pk.headGo s f cc n sh a1 = Pk.headGo s (s.length + 1) c.toNat (c.toNat % 16) 4 (a + 1) ∧ s.length - a1 < f ∧ a1 ≤ s.length ∧ n < 2 ^ sh ∧ sh ≤ 32 ∧ cc < 256 ∧ m = s.length - a1 ∧ L = [(0, .pointer (some ⟨b, 0, none⟩)), (4, .int .i64 cc), (5, .int .i64 (c.toNat / 16 % 8 : Nat)), (6, .int .i64 n), (7, .int .i64 sh)] ∧ H = [cel b 65 [str s, .int .i64 (a1 : Nat)]] ++ F) (s.length - (a + 1)) (hl := [_]) (⟨s.length + 1, c.toNat, c.toNat % 16, 4, a + 1, rfl, by omega, by omega, by omega, by omega, by omega, rfl, rfl, rfl⟩) sB rfl tK sF ?_)))
  rintro m L H ⟨f, cc, n, sh, a1, hgo, hf, ha1, hn1, hsh, hcc, rfl, rfl, rfl⟩
  try dsimp only [List.cons_append, List.nil_append]
  obtain ⟨f, rfl⟩ : ∃ g, f = g + 1 := ⟨f - 1, by omega⟩
  rw [Pk.headGo] at hgo
  have esh : (sh : Int) + 7 = ((sh + 7 : Nat) : Int) := by omega
  refine CG.seq (CG.sr (G.mv ?_))
  refine G.q rfl rfl rfl rfl (q_geq rfl rfl rfl) (G.nil (EN.then ?_))
  refine CG.cond rfl (fun h16 => ?_) (fun h16 => ?_)
  ·
   rw [if_neg oM] at hgo
   refine CG.skip (EN.then (CG.block (CG.sr (G.mv ?_))))
   refine G.callX (xs := [_]) rfl rfl (byte_spec s b a1 hs) bd_51_F19 rfl rfl rfl tK (fun _ h => h) ?_ ?_
   ·
    rintro ch hl ⟨hn, rfl, rfl⟩
    rw [hn] at hgo
    simp only at hgo
    have hE : Pk.head s a = .err 6 := by unfold Pk.head; rw [hc]; simp only; rw [← hgo]
    try dsimp only [List.cons_append, List.nil_append]
    refine EN.then_panic ?_
    refine EN.in_panic ?_
    refine EN.then_panic ?_
    refine EN.in_panic ?_
    refine EN.then_panic ?_
    exact fin_panic (⟨_, _, hE, rfl, rfl⟩) tK sF
   ·
    rintro v hl ⟨d, hd, rfl, rfl⟩
    have hdl := d.toNat_lt
    have hdi := (List.getElem?_eq_some_iff.1 hd).1
    try dsimp only [List.cons_append, List.nil_append]
    refine G.as ?_
    refine G.nil (EN.ts (CG.sr (G.mv ?_)))
    refine G.q rfl rfl rfl rfl (q_gtr rfl rfl rfl) (G.nil (EN.then ?_))
    refine CG.cond rfl (fun h20 => ?_) (fun h20 => ?_)
    ·
     rw [hd] at hgo
     simp only at hgo
     rw [if_pos oM] at hgo
     have hE : Pk.head s a = .err 3 := by unfold Pk.head; rw [hc]; simp only; rw [← hgo]
     refine CG.reg (G.q rfl rfl rfl rfl (q_ifaceB rfl rfl ia_61_F19) (G.panic rfl rfl rfl ?_))
     refine EN.then_panic ?_
     refine EN.in_panic ?_
     refine EN.then_panic ?_
     refine EN.in_panic ?_
     refine EN.then_panic ?_
     exact fin_panic (⟨_, _, hE, rfl, rfl⟩) tK sF
    ·
     rw [hd] at hgo
     simp only at hgo
     rw [if_neg oM] at hgo
     have hnn : n + d.toNat % 128 * 2 ^ sh < 2 ^ (sh + 7) := by rw [Nat.pow_add]; have h1 : d.toNat % 128 * 2 ^ sh ≤ 127 * 2 ^ sh := Nat.mul_le_mul oM (Nat.le_refl _); omega
     refine CG.skip (EN.tsr (G.mv ?_))
     refine G.mv ?_
     refine G.q rfl rfl rfl rfl (q_andm (j := 7) (d := 128) rfl rfl rfl lOm lOm (by decide) (by decide) (by decide)) ?_
     rw [show (d.toNat : Int) % 128 = ((d.toNat % 128 : Nat) : Int) by omega]
     refine G.mv ?_
     refine G.q rfl rfl rfl rfl (q_shl rfl rfl rfl oM) (G.q rfl rfl rfl rfl (q_or rfl rfl rfl) ?_)
     rw [Pk.or_shl hn1 oM oM]
     refine G.as ?_
     refine G.nil (EN.sub (sC 0 (sC 4 (sC 5 (sC 6 (sC 7 Sub.nil))))) ?_)
     refine EN.tr ?_
     refine G.mv ?_
     refine G.q rfl rfl rfl rfl (q_add_i rfl rfl rfl oM) ?_
     rw [esh]
     refine G.as ?_
     refine G.nil (EN.in_normal ?_)
     exact EN.round (hl := [_]) (s.length - (a1 + 1)) oM (⟨f, d.toNat, n + d.toNat % 128 * 2 ^ sh, sh + 7, a1 + 1, hgo, by omega, by omega, hnn, by omega, by omega, rfl, rfl, rfl⟩) sB rfl tK sF
  ·
   rw [if_pos oM] at hgo
   have hE : Pk.head s a = .ok (c.toNat / 16 % 8, n, a1) := by unfold Pk.head; rw [hc]; simp only; rw [← hgo]
   refine CG.exit ?_
   refine EN.then_exit (EN.then_exit (EN.in_here ?_))
   refine EN.tsr (G.mv ?_)
   refine G.mv ?_
   refine G.as ?_
   refine G.as ?_
   refine G.nil (EN.sub (sC 2 (sC 3 Sub.nil)) ?_)
   refine EN.then (CG.ret ?_)
   exact fin_ret2 rfl rfl rfl tK sF (⟨_, hE, rfl, rfl⟩) _ (.inl rfl)

set_option maxRecDepth 100000 in
set_option maxHeartbeats 1000000 in
theorem pback_spec (s : List UInt8) (b a : Nat) (hs : s.length ≤ 1000000000) : Spec Tryz.prog 25 #[.pointer (some ⟨b, 0, none⟩)] [cel b 65 [str s, .int .i64 (a : Nat)]] (backPost s b a) := by
 refine Spec.enter Tryz.func25 rfl rfl rfl (fun F w0 => ?_)
 dsimp only [argL, List.cons_append, List.nil_append]
 refine CG.sr (G.as ?_)
 refine G.nil (EN.tsr (G.mv ?_))
 refine G.callX (xs := [_]) rfl rfl (byte_spec s b a hs) bd_51_F19 rfl rfl rfl tK (fun _ h => h) ?_ ?_
 ·
  rintro ch hl ⟨hn, rfl, rfl⟩
  have hE : Pk.back s a = .err 6 := by unfold Pk.back; rw [hn]
  try dsimp only [List.cons_append, List.nil_append]
  refine EN.then_panic ?_
  exact fin_panic (⟨_, _, hE, rfl, rfl⟩) tK sF
 ·
  rintro v hl ⟨c, hc, rfl, rfl⟩
  have hcl := c.toNat_lt
  have hci := (List.getElem?_eq_some_iff.1 hc).1
  have en : (c.toNat : Int) % 128 = ((c.toNat % 128 : Nat) : Int) := by omega
  try dsimp only [List.cons_append, List.nil_append]
  refine G.as ?_
  refine G.nil (EN.tsr (G.mv ?_))
  refine G.q rfl rfl rfl rfl (q_andm (j := 7) (d := 128) rfl rfl rfl lOm lOm (by decide) (by decide) (by decide)) ?_
  rw [en]
  refine G.as ?_
  refine G.nil (EN.ts (CG.block (CG.loopI (fun m L H => ∃ (f cc n a1 : Nat), Pk.backGo s f cc n a1 = Pk.backGo s (s.length + 1) c.toNat (c.toNat % 128) (a + 1) ∧ s.length - a1 < f ∧ a1 ≤ s.length ∧ n ≤ 4000000000 ∧ cc < 256 ∧ m = s.length - a1 ∧ L = [(0, .pointer (some ⟨b, 0, none⟩)), (3, .int .i64 cc), (4, .int .i64 n)] ∧ H = [cel b 65 [str s, .int .i64 (a1 : Nat)]] ++ F) (s.length - (a + 1)) (hl := [_]) (⟨s.length + 1, c.toNat, c.toNat % 128, a + 1, rfl, by omega, by omega, by omega, by omega, rfl, rfl, rfl⟩) sB rfl tK sF ?_)))
  rintro m L H ⟨f, cc, n, a1, hgo, hf, ha1, hn1, hcc, rfl, rfl, rfl⟩
  try dsimp only [List.cons_append, List.nil_append]
  obtain ⟨f, rfl⟩ : ∃ g, f = g + 1 := ⟨f - 1, by omega⟩
  rw [Pk.backGo] at hgo
  refine CG.seq (CG.sr (G.mv ?_))
  refine G.q rfl rfl rfl rfl (q_geq rfl rfl rfl) (G.nil (EN.then ?_))
  refine CG.cond rfl (fun h10 => ?_) (fun h10 => ?_)
  ·
   rw [if_neg oM] at hgo
   refine CG.skip (EN.then (CG.block (CG.seq (CG.sr (G.mv ?_)))))
   refine G.q rfl rfl rfl rfl (q_gtr rfl rfl rfl) (G.nil (EN.then ?_))
   refine CG.cond rfl (fun h12 => ?_) (fun h12 => ?_)
   ·
    rw [if_pos oM] at hgo
    have hE : Pk.back s a = .err 3 := by unfold Pk.back; rw [hc]; simp only; rw [← hgo]
    refine CG.reg (G.q rfl rfl rfl rfl (q_ifaceB rfl rfl ia_61_F19) (G.panic rfl rfl rfl ?_))
    refine EN.then_panic ?_
    refine EN.in_panic ?_
    refine EN.then_panic ?_
    refine EN.in_panic ?_
    refine EN.then_panic ?_
    exact fin_panic (⟨_, _, hE, rfl, rfl⟩) tK sF
   ·
    refine CG.skip (EN.tsr (G.mv ?_))
    refine G.callX (xs := [_]) rfl rfl (byte_spec s b a1 hs) bd_51_F19 rfl rfl rfl tK (fun _ h => h) ?_ ?_
    ·
     rintro ch hl ⟨hn, rfl, rfl⟩
     rw [if_neg oM, hn] at hgo
     simp only at hgo
     have hE : Pk.back s a = .err 6 := by unfold Pk.back; rw [hc]; simp only; rw [← hgo]
     try dsimp only [List.cons_append, List.nil_append]
     refine EN.then_panic ?_
     refine EN.in_panic ?_
     refine EN.then_panic ?_
     refine EN.in_panic ?_
     refine EN.then_panic ?_
     exact fin_panic (⟨_, _, hE, rfl, rfl⟩) tK sF
    ·
     rintro v hl ⟨d, hd, rfl, rfl⟩
     have hdl := d.toNat_lt
     have hdi := (List.getElem?_eq_some_iff.1 hd).1
     rw [if_neg oM, hd] at hgo
     simp only at hgo
     have en2 : (d.toNat : Int) % 128 = ((d.toNat % 128 : Nat) : Int) := by omega
     have en3 : ((n : Int) + 1) * 128 + ((d.toNat % 128 : Nat) : Int) = (((n + 1) * 128 + d.toNat % 128 : Nat) : Int) := by omega
     try dsimp only [List.cons_append, List.nil_append]
     refine G.as ?_
     refine G.nil (EN.tr ?_)
     refine G.mv ?_
     refine G.q rfl rfl rfl rfl (q_add_i rfl rfl rfl oM) (G.q rfl rfl rfl rfl (q_shlcw (d := 128) rfl rfl rfl (by decide) (by decide) lOm lOm) (G.mv ?_))
     refine G.q rfl rfl rfl rfl (q_andm (j := 7) (d := 128) rfl rfl rfl lOm lOm (by decide) (by decide) (by decide)) ?_
     rw [en2]
     refine G.q rfl rfl rfl rfl (q_ord (j := 7) (d := 128) rfl rfl rfl (by decide) lOm lOm lOm (by decide)) ?_
     rw [en3]
     refine G.as ?_
     refine G.nil (EN.sub (sC 0 (sC 3 (sC 4 Sub.nil))) ?_)
     refine EN.in_normal ?_
     exact EN.round (hl := [_]) (s.length - (a1 + 1)) oM (⟨f, d.toNat, (n + 1) * 128 + d.toNat % 128, a1 + 1, hgo, by omega, by omega, by omega, by omega, rfl, rfl, rfl⟩) sB rfl tK sF
  ·
   rw [if_pos oM] at hgo
   have hE : Pk.back s a = .ok (n, a1) := by unfold Pk.back; rw [hc]; simp only; rw [← hgo]
   refine CG.exit ?_
   refine EN.then_exit (EN.then_exit (EN.in_here ?_))
   refine EN.tsr (G.mv ?_)
   refine G.as ?_
   refine G.nil (EN.then (CG.ret ?_))
   exact fin_ret1 rfl rfl tK sF (⟨_, hE, rfl, rfl⟩) _ (.inl rfl)

set_option maxRecDepth 100000 in
set_option maxHeartbeats 1000000 in
theorem read1_r (b4 b5 : Nat) (cs : List Value) (e0 : Value) : SpecD Tryz.prog 23 #[.pointer (some ⟨b4, 0, none⟩), .pointer (some ⟨b5, 0, none⟩)] .returning [cel b4 30 cs, cel b5 23 [e0]] (fun e u2 hl => u2 = .returning ∧ (∃ r, e = .returned r) ∧ hl = [cel b4 30 cs, cel b5 23 [e0]]) := by
 refine SpecD.enter Tryz.func23 rfl rfl rfl rfl rfl rfl rfl rfl (fun hl h => by obtain ⟨⟨_, h⟩, _⟩ := h; cases h) (fun F w0 => ?_)
 dsimp only [argL, List.cons_append, List.nil_append]
 refine G.q rfl rfl rfl rfl (q_tassert_n rfl rfl zB_61_F19 is_61_F19) (G.mv ?_)
 refine G.q rfl rfl rfl rfl (q_extract rfl rfl rfl) (G.q rfl rfl rfl rfl (q_extract rfl rfl rfl) (G.as ?_))
 refine G.as ?_
 refine G.nil (EN.tsr (G.mv ?_))
 refine G.nil (EN.then (CG.cond_f rfl ?_))
 refine CG.skip ?_
 exact fin_ret0 rfl tK sF (⟨⟨_, rfl⟩, rfl⟩) _ (.inr rfl)

set_option maxRecDepth 100000 in
set_option maxHeartbeats 1000000 in
theorem read1_p (b4 b5 : Nat) (c1 c2 c3 c4 c5 c6 c7 e0 : Value) (k : Int) : SpecD Tryz.prog 23 #[.pointer (some ⟨b4, 0, none⟩), .pointer (some ⟨b5, 0, none⟩)] (.panicking [{ v := .iface 61 (.int .i64 k), recovered := false }]) [cel b4 30 [c1, c2, c3, c4, c5, c6, c7], cel b5 23 [e0]] (fun e u2 hl => u2 = .panicking [{ v := .iface 61 (.int .i64 k), recovered := true }] ∧ (∃ r, e = .returned r) ∧ hl = [cel b4 30 Pk.Ent.zero.cells, cel b5 23 [.int .i64 k]]) := by
 refine SpecD.enter Tryz.func23 rfl rfl rfl rfl rfl rfl rfl rfl (fun hl h => by obtain ⟨⟨_, h⟩, _⟩ := h; cases h) (fun F w0 => ?_)
 dsimp only [argL, List.cons_append, List.nil_append]
 refine G.q rfl rfl rfl rfl (q_tassertB rfl rfl ia_61_F19) (G.mv ?_)
 refine G.q rfl rfl rfl rfl (q_extract rfl rfl rfl) (G.q rfl rfl rfl rfl (q_extract rfl rfl rfl) (G.as ?_))
 refine G.as ?_
 refine G.nil (EN.tsr (G.mv ?_))
 refine G.nil (EN.then (CG.cond_t rfl ?_))
 refine CG.reg (G.q rfl rfl rfl rfl (q_build rfl rfl (bu_30__F19)) (G.mv ?_))
 refine G.sa0 sz_30_F19 ?_
 refine G.st0 sz_23_F19 ?_
 refine G.nil ?_
 refine EN.sub Sub.nil ?_
 exact fin_ret0 rfl tK sF (⟨⟨_, rfl⟩, rfl⟩) _ (.inr rfl)

def zerr (size : Nat) (z : List UInt8 × Nat × Nat) : Nat := if z.2.2 = 2 ∨ (z.2.2 = 0 ∧ z.1.length < size) then 3 else z.2.2
def readZ (b : List UInt8) (a k base : Nat) (id : List UInt8) (a2 size : Nat) (z : List UInt8 × Nat × Nat) : Pk.Ent × Nat :=
  if zerr size z ≠ 0 then (.zero, zerr size z) else (⟨a, (a2 + z.2.1 : Nat), k, z.1, base, id, crc32 ((b.take (a2 + z.2.1)).drop a)⟩, 0)
def readR (b : List UInt8) (a k size : Nat) (r : Pk.Res (Nat × List UInt8 × Nat)) : Pk.Ent × Nat := match r with
  | .err e => (.zero, e)
  | .ok q => if 65000 < size then (.zero, 2) else readZ b a k q.1 q.2.1 q.2.2 size (zread b q.2.2 size)
def readH (b : List UInt8) (a : Nat) (r : Pk.Res (Nat × Nat × Nat)) : Pk.Ent × Nat := match r with
  | .err e => (.zero, e)
  | .ok p => readR b a p.1 p.2.1 (Pk.refs b a p.1 p.2.2)
/-- an entry at a place, the error -/
def readE (s : List UInt8) (at_ : Int) : Pk.Ent × Nat := if at_ < 12 ∨ (s.length : Int) - 20 < at_ then (.zero, 1) else readH (s.take (s.length - 20)) at_.toNat (Pk.head (s.take (s.length - 20)) at_.toNat)
theorem readE_in {s : List UInt8} {a : Nat} (h1 : ¬ (a : Int) < 12) (h2 : ¬ (s.length : Int) - 20 < a) : readE s a = readH (s.take (s.length - 20)) a (Pk.head (s.take (s.length - 20)) a) := by
  unfold readE; rw [if_neg (by omega)]; simp
theorem zread_end {s : List UInt8} {a m : Nat} (h : (zread s a m).2.2 = 0) : a + (zread s a m).2.1 ≤ s.length := by
  unfold zread at h ⊢
  by_cases c1 : s.length < a + 2
  · rw [if_pos c1] at h; cases h
  · rw [if_neg c1] at h ⊢
    by_cases c2 : zhead (s.getD a 0) (s.getD (a + 1) 0) = false
    · rw [if_pos c2] at h; cases h
    · rw [if_neg c2] at h ⊢
      by_cases c3 : (Infl.inflate s (a + 2) m).2.2 ≠ 0
      · rw [if_pos c3] at h; exact absurd h c3
      · rw [if_neg c3] at h ⊢
        by_cases c4 : s.length < a + 2 + (Infl.inflate s (a + 2) m).2.1 + 4
        · rw [if_pos c4] at h; cases h
        · rw [if_neg c4] at h ⊢
          split at h
          · cases h
          · rename_i c5
            rw [if_neg c5]; simp only; omega
theorem zerr_0 {size : Nat} {z : List UInt8 × Nat × Nat} (h : zerr size z = 0) : z.2.2 = 0 ∧ size ≤ z.1.length := by
  unfold zerr at h; split at h
  · cases h
  · omega

end Go.Eng
/-
  Packs read: Read.
-/
set_option linter.unusedVariables false
set_option linter.unusedSimpArgs false
namespace Go.Eng
open Go.Proofs
theorem ag_23_F20 : aggB Tryz.prog 23 = some false := by kernel_rfl
theorem ag_30_F20 : aggB Tryz.prog 30 = some true := by kernel_rfl
theorem bd_23_F20 : bodied Tryz.prog 23 = true := by kernel_rfl
theorem bd_24_F20 : bodied Tryz.prog 24 = true := by kernel_rfl
theorem bd_25_F20 : bodied Tryz.prog 25 = true := by kernel_rfl
theorem bd_27_F20 : bodied Tryz.prog 27 = true := by kernel_rfl
theorem bd_28_F20 : bodied Tryz.prog 28 = true := by kernel_rfl
theorem bu_30__F20 : ∀ (w : World), (Instr.build 30 [].toArray).run Tryz.prog w = .ok (.agg [.int .i64 0, .int .i64 0, .int .i64 0, str [], .int .i64 0, str [], .int .u32 0].toArray) w := fun _ => by kernel_rfl
theorem bu_65_0_1_F20 : ∀ (x0 : List UInt8) (x1 : Int) (w : World), (Instr.build 65 [(0, str x0), (1, .int .i64 x1)].toArray).run Tryz.prog w = .ok (.agg [str x0, .int .i64 x1].toArray) w := fun _ _ _ => by kernel_rfl
theorem fo_30_0_F20 : fieldOff Tryz.prog 30 0 = some 0 := by kernel_rfl
theorem fo_30_1_F20 : fieldOff Tryz.prog 30 1 = some 1 := by kernel_rfl
theorem fo_30_2_F20 : fieldOff Tryz.prog 30 2 = some 2 := by kernel_rfl
theorem fo_30_3_F20 : fieldOff Tryz.prog 30 3 = some 3 := by kernel_rfl
theorem fo_30_4_F20 : fieldOff Tryz.prog 30 4 = some 4 := by kernel_rfl
theorem fo_30_5_F20 : fieldOff Tryz.prog 30 5 = some 5 := by kernel_rfl
theorem fo_30_6_F20 : fieldOff Tryz.prog 30 6 = some 6 := by kernel_rfl
theorem ia_61_F20 : niB Tryz.prog 61 = true := by kernel_rfl
theorem zl_23_F20 : zeroL Tryz.prog 23 = some [.int .i64 0] := by kernel_rfl
theorem zl_30_F20 : zeroL Tryz.prog 30 = some [.int .i64 0, .int .i64 0, .int .i64 0, str [], .int .i64 0, str [], .int .u32 0] := by kernel_rfl

attribute [local irreducible] cel own exS ownG tabH Sums.hex crc32 zread readE

set_option maxRecDepth 100000 in
set_option maxHeartbeats 1000000 in
theorem pread_spec (s : List UInt8) (at_ : Int) (hs : s.length ≤ 1000000000) : Spec Tryz.prog 8 #[str s, .int .i64 at_] [] (Ret fun v hl => v = .tuple #[.agg (readE s at_).1.cells.toArray, .int .i64 ((readE s at_).2 : Nat)] ∧ hl = []) := by
 refine Spec.enterD Tryz.func8 rfl rfl rfl (fun F w0 => ?_)
 dsimp only [argL, List.cons_append, List.nil_append]
 refine CG.sr (G.e rfl rfl rfl rfl (e_alloc rfl zl_30_F20) (fun _ _ _ _ _ _ => trivial) ?_)
 rintro _ _ ⟨b4, rfl, rfl⟩
 refine G.e rfl rfl rfl rfl (e_alloc rfl zl_23_F20) (fun _ _ _ _ _ _ => trivial) ?_
 rintro _ _ ⟨b5, rfl, rfl⟩
 refine G.nil (EN.ts (CG.sr (G.mv ?_)))
 refine G.q rfl rfl rfl rfl (q_lss rfl rfl rfl) (G.mv ?_)
 refine G.split (t := 15) rfl (fun g15 => ?_) (fun g15 => ?_)
 ·
  have hE : readE s at_ = (.zero, 1) := by unfold readE; rw [if_pos (.inl g15)]
  refine G.skip rfl rfl rfl (G.skip rfl rfl rfl (G.skip rfl rfl rfl (G.skip rfl rfl rfl (G.skip rfl rfl rfl (G.q rfl rfl rfl rfl (q_pick_t rfl rfl rfl) ?_)))))
  refine G.nil (EN.then (CG.cond_t rfl ?_))
  refine CG.sr (G.q rfl rfl rfl rfl (q_build rfl rfl (bu_30__F20)) ?_)
  refine G.sa0 sz_30_F19 ?_
  refine G.st0 sz_23_F19 ?_
  refine G.nil (EN.sub (sC 0 (sC 1 (sC 4 (sC 5 Sub.nil)))) ?_)
  refine EN.then (CG.ret (EN.then_ret ?_))
  exact finD_0 (RVal.two rfl rfl rfl (LV.agg ag_30_F20 sz_30_F19 mB rfl) (LV.one ag_23_F20 mB)) tK sF (⟨by rw [hE] <;> rfl, rfl⟩) _ (.inl rfl)
 ·
  refine G.mv ?_
  refine G.mv ?_
  refine G.q rfl rfl rfl rfl (q_len_str rfl rfl us_9_F1) (G.q rfl rfl rfl rfl (q_sub_i rfl rfl rfl oM) (G.q rfl rfl rfl rfl (q_gtr rfl rfl rfl) (G.q rfl rfl rfl rfl (q_pick_f rfl rfl rfl) (G.nil (EN.then ?_)))))
  refine CG.cond rfl (fun h21 => ?_) (fun h21 => ?_)
  ·
   have hE : readE s at_ = (.zero, 1) := by unfold readE; rw [if_pos (.inr oM)]
   refine CG.sr (G.q rfl rfl rfl rfl (q_build rfl rfl (bu_30__F20)) ?_)
   refine G.sa0 sz_30_F19 ?_
   refine G.st0 sz_23_F19 ?_
   refine G.nil (EN.sub (sC 0 (sC 1 (sC 4 (sC 5 Sub.nil)))) ?_)
   refine EN.then (CG.ret (EN.then_ret ?_))
   exact finD_0 (RVal.two rfl rfl rfl (LV.agg ag_30_F20 sz_30_F19 mB rfl) (LV.one ag_23_F20 mB)) tK sF (⟨by rw [hE] <;> rfl, rfl⟩) _ (.inl rfl)
  ·
   obtain ⟨a, rfl⟩ := Int.eq_ofNat_of_zero_le (by omega : 0 ≤ at_)
   have hre := readE_in g15 (by omega : ¬ (s.length : Int) - 20 < a)
   obtain ⟨bb, hbb⟩ : ∃ bb, s.take (s.length - 20) = bb := ⟨_, rfl⟩
   have hbl : bb.length = s.length - 20 := by rw [← hbb]; simp
   rw [hbb] at hre
   have e20 : (s.length : Int) - 20 = ((s.length - 20 : Nat) : Int) := by omega
   refine CG.skip (EN.tsr (G.q rfl rfl rfl rfl (q_makeFunc rfl rfl rfl) (G.defer (xs := []) (fi := []) rfl rfl rfl rfl rfl ?_)))
   refine G.nil (EN.sub (sC 0 (sC 1 (sC 4 (sC 5 Sub.nil)))) ?_)
   refine EN.tsr (G.mv ?_)
   refine G.mv ?_
   refine G.q rfl rfl rfl rfl (q_len_str rfl rfl us_9_F1) (G.q rfl rfl rfl rfl (q_sub_i rfl rfl rfl oM) ?_)
   rw [e20]
   refine G.q rfl rfl rfl rfl (q_slice_hi rfl rfl rfl us_9_F1 oM) (G.as ?_)
   refine G.nil (EN.ts ?_)
   rw [hbb]
   refine CG.reg (G.mv ?_)
   refine G.mv ?_
   refine G.q rfl rfl rfl rfl (q_build rfl rfl (bu_65_0_1_F20 _ _)) (G.e rfl rfl rfl rfl (e_box rfl rfl) (fun _ _ _ _ _ _ => trivial) ?_)
   rintro _ _ ⟨b7, rfl, rfl⟩
   refine G.as ?_
   refine G.nil (EN.sub (sC 1 (sC 4 (sC 5 (sC 6 (sC 7 Sub.nil))))) ?_)
   refine EN.tsr (G.mv ?_)
   refine G.q rfl rfl rfl rfl (q_field0 rfl rfl fo_30_0_F20) ?_
   refine G.st0 sz_3_F1 ?_
   refine G.nil (EN.tsr (G.mv ?_))
   refine G.callX (xs := [_]) rfl rfl (phead_spec bb b7 a oM) bd_24_F20 rfl rfl rfl tK (fun _ h => h) ?_ ?_
   ·
    rintro ch hl ⟨e, a2, hp, rfl, rfl⟩
    have hE : readE s a = (.zero, e) := by rw [hre]; unfold readH; rw [hp]
    try dsimp only [List.cons_append, List.nil_append]
    refine EN.then_panic ?_
    exact finD_p (read1_p b4 b5 _ _ _ _ _ _ _ _ _) bd_23_F20 tK (RVal.two rfl rfl rfl (LV.agg ag_30_F20 sz_30_F19 mB rfl) (LV.one ag_23_F20 mB)) tK sF (⟨by rw [hE] <;> rfl, rfl⟩)
   ·
    rintro v hl ⟨p, hp, rfl, rfl⟩
    have hpa := Pk.head_at hp
    try dsimp only [List.cons_append, List.nil_append]
    refine G.mv ?_
    refine G.q rfl rfl rfl rfl (q_extract rfl rfl rfl) (G.q rfl rfl rfl rfl (q_extract rfl rfl rfl) (G.as ?_))
    refine G.as ?_
    refine G.nil (EN.tsr (G.mv ?_))
    refine G.q rfl rfl rfl rfl (q_field0 rfl rfl fo_30_2_F20) ?_
    refine G.st0 sz_3_F1 ?_
    refine G.nil (EN.sub (sC 1 (sC 4 (sC 5 (sC 6 (sC 7 (sC 8 (sC 9 Sub.nil))))))) ?_)
    refine EN.then ?_
    refine CG.cut (fun L H => ∃ q : Nat × List UInt8 × Nat, Pk.refs bb a p.1 p.2.2 = .ok q ∧ L = [(1, .int .i64 a), (4, .pointer (some ⟨b4, 0, none⟩)), (5, .pointer (some ⟨b5, 0, none⟩)), (6, str bb), (7, .pointer (some ⟨b7, 0, none⟩)), (9, .int .i64 (p.2.1 : Nat))] ∧ H = [cel b4 30 [.int .i64 a, .int .i64 0, .int .i64 p.1, str [], .int .i64 (q.1 : Nat), str q.2.1, .int .u32 0], cel b5 23 [.int .i64 0], cel b7 65 [str bb, .int .i64 (q.2.2 : Nat)]] ++ F) ?_ ?_
    ·
     refine CG.sr (G.mv ?_)
     refine G.nil (EN.then (CG.block (CG.seq (CG.sr (G.q rfl rfl rfl rfl (q_eql rfl rfl rfl) ?_)))))
     refine G.as ?_
     refine G.nil (EN.then ?_)
     refine CG.splitT (t := 44) rfl (fun h44 => ?_) (fun h44 => ?_)
     ·
      have hR : Pk.refs bb a p.1 p.2.2 = .ok (0, [], p.2.2) := if_pos oM
      refine CG.cond_t rfl ?_
      refine CG.skip (EN.then (CG.cond_t rfl ?_))
      refine CG.skip (EN.in_normal ?_)
      exact EN.cut (hl := [_, _, _]) (⟨_, hR, rfl, rfl⟩) sB rfl tK sF
     ·
      refine CG.cond_f rfl ?_
      refine CG.sr (G.q rfl rfl rfl rfl (q_eql rfl rfl rfl) (G.as ?_))
      refine G.nil (EN.then ?_)
      refine CG.splitT (t := 44) rfl (fun h44 => ?_) (fun h44 => ?_)
      ·
       have hR : Pk.refs bb a p.1 p.2.2 = .ok (0, [], p.2.2) := if_pos oM
       refine CG.cond_t rfl ?_
       refine CG.skip (EN.then (CG.cond_t rfl ?_))
       refine CG.skip (EN.in_normal ?_)
       exact EN.cut (hl := [_, _, _]) (⟨_, hR, rfl, rfl⟩) sB rfl tK sF
      ·
       refine CG.cond_f rfl ?_
       refine CG.sr (G.q rfl rfl rfl rfl (q_eql rfl rfl rfl) (G.as ?_))
       refine G.nil (EN.then ?_)
       refine CG.splitT (t := 44) rfl (fun h44 => ?_) (fun h44 => ?_)
       ·
        have hR : Pk.refs bb a p.1 p.2.2 = .ok (0, [], p.2.2) := if_pos oM
        refine CG.cond_t rfl ?_
        refine CG.skip (EN.then (CG.cond_t rfl ?_))
        refine CG.skip (EN.in_normal ?_)
        exact EN.cut (hl := [_, _, _]) (⟨_, hR, rfl, rfl⟩) sB rfl tK sF
       ·
        refine CG.cond_f rfl ?_
        refine CG.reg (G.q rfl rfl rfl rfl (q_eql rfl rfl rfl) (G.as ?_))
        refine G.nil (EN.then ?_)
        refine CG.splitT (t := 44) rfl (fun h44 => ?_) (fun h44 => ?_)
        ·
         have hR : Pk.refs bb a p.1 p.2.2 = .ok (0, [], p.2.2) := if_pos oM
         refine CG.cond_t rfl ?_
         refine CG.skip (EN.in_normal ?_)
         exact EN.cut (hl := [_, _, _]) (⟨_, hR, rfl, rfl⟩) sB rfl tK sF
        ·
         refine CG.cond_f rfl ?_
         refine CG.sr (G.q rfl rfl rfl rfl (q_eql rfl rfl rfl) (G.as ?_))
         refine G.nil (EN.then ?_)
         refine CG.cond rfl (fun h49 => ?_) (fun h49 => ?_)
         ·
          refine CG.sr (G.mv ?_)
          refine G.callX (xs := [_]) rfl rfl (pback_spec bb b7 p.2.2 oM) bd_25_F20 rfl rfl rfl tK (fun _ h => h) ?_ ?_
          ·
           rintro ch hl ⟨e, a2, hq, rfl, rfl⟩
           have hR : Pk.refs bb a p.1 p.2.2 = .err e := by unfold Pk.refs; rw [if_neg oM, if_pos oM, hq]
           have hE : readE s a = (.zero, e) := by rw [hre]; unfold readH; rw [hp]; simp only; unfold readR; rw [hR]
           try dsimp only [List.cons_append, List.nil_append]
           refine EN.then_panic ?_
           refine EN.in_panic ?_
           refine EN.then_panic ?_
           exact finD_p (read1_p b4 b5 _ _ _ _ _ _ _ _ _) bd_23_F20 tK (RVal.two rfl rfl rfl (LV.agg ag_30_F20 sz_30_F19 mB rfl) (LV.one ag_23_F20 mB)) tK sF (⟨by rw [hE] <;> rfl, rfl⟩)
          ·
           rintro v hl ⟨n, hn, rfl, rfl⟩
           have hna := Pk.back_at hn
           try dsimp only [List.cons_append, List.nil_append]
           refine G.as ?_
           refine G.nil (EN.sub (sC 1 (sC 4 (sC 5 (sC 6 (sC 7 (sC 9 (sC 10 Sub.nil))))))) ?_)
           refine EN.ts (CG.sr (G.mv ?_))
           refine G.q rfl rfl rfl rfl (q_lss rfl rfl rfl) (G.mv ?_)
           refine G.split (t := 55) rfl (fun g55 => ?_) (fun g55 => ?_)
           ·
            have hR : Pk.refs bb a p.1 p.2.2 = .err 3 := by unfold Pk.refs; rw [if_neg oM, if_pos oM, hn]; exact if_pos oM
            have hE : readE s a = (.zero, 3) := by rw [hre]; unfold readH; rw [hp]; simp only; unfold readR; rw [hR]
            refine G.skip rfl rfl rfl (G.skip rfl rfl rfl (G.skip rfl rfl rfl (G.skip rfl rfl rfl (G.q rfl rfl rfl rfl (q_pick_t rfl rfl rfl) (G.nil ?_)))))
            refine EN.then (CG.cond_t rfl ?_)
            refine CG.reg (G.q rfl rfl rfl rfl (q_ifaceB rfl rfl ia_61_F20) (G.panic rfl rfl rfl ?_))
            refine EN.then_panic ?_
            refine EN.in_panic ?_
            refine EN.then_panic ?_
            exact finD_p (read1_p b4 b5 _ _ _ _ _ _ _ _ _) bd_23_F20 tK (RVal.two rfl rfl rfl (LV.agg ag_30_F20 sz_30_F19 mB rfl) (LV.one ag_23_F20 mB)) tK sF (⟨by rw [hE] <;> rfl, rfl⟩)
           ·
            refine G.mv ?_
            refine G.mv ?_
            refine G.q rfl rfl rfl rfl (q_sub_i rfl rfl rfl oM) (G.q rfl rfl rfl rfl (q_gtr rfl rfl rfl) (G.q rfl rfl rfl rfl (q_pick_f rfl rfl rfl) (G.nil (EN.then ?_))))
            refine CG.cond rfl (fun h60 => ?_) (fun h60 => ?_)
            ·
             have hR : Pk.refs bb a p.1 p.2.2 = .err 3 := by unfold Pk.refs; rw [if_neg oM, if_pos oM, hn]; exact if_pos oM
             have hE : readE s a = (.zero, 3) := by rw [hre]; unfold readH; rw [hp]; simp only; unfold readR; rw [hR]
             refine CG.reg (G.q rfl rfl rfl rfl (q_ifaceB rfl rfl ia_61_F20) (G.panic rfl rfl rfl ?_))
             refine EN.then_panic ?_
             refine EN.in_panic ?_
             refine EN.then_panic ?_
             exact finD_p (read1_p b4 b5 _ _ _ _ _ _ _ _ _) bd_23_F20 tK (RVal.two rfl rfl rfl (LV.agg ag_30_F20 sz_30_F19 mB rfl) (LV.one ag_23_F20 mB)) tK sF (⟨by rw [hE] <;> rfl, rfl⟩)
            ·
             have hR : Pk.refs bb a p.1 p.2.2 = .ok (a - n.1, [], n.2) := by unfold Pk.refs; rw [if_neg oM, if_pos oM, hn]; exact if_neg oM
             have ean : (a : Int) - n.1 = ((a - n.1 : Nat) : Int) := by omega
             refine CG.skip (EN.tr ?_)
             refine G.mv ?_
             refine G.mv ?_
             refine G.q rfl rfl rfl rfl (q_sub_i rfl rfl rfl oM) ?_
             rw [ean]
             refine G.q rfl rfl rfl rfl (q_field0 rfl rfl fo_30_4_F20) ?_
             refine G.st0 sz_3_F1 ?_
             refine G.nil (EN.sub (sC 1 (sC 4 (sC 5 (sC 6 (sC 7 (sC 9 Sub.nil)))))) ?_)
             refine EN.in_normal ?_
             exact EN.cut (hl := [_, _, _]) (⟨_, hR, rfl, rfl⟩) sB rfl tK sF
         ·
          refine CG.sr (G.q rfl rfl rfl rfl (q_eql rfl rfl rfl) (G.as ?_))
          refine G.nil (EN.sub (sC 1 (sC 4 (sC 5 (sC 6 (sC 7 (sC 9 (sC 66 Sub.nil))))))) ?_)
          refine EN.then ?_
          refine CG.cond rfl (fun h66 => ?_) (fun h66 => ?_)
          ·
           refine CG.seq (CG.sr (G.mv ?_))
           refine G.q rfl rfl rfl rfl (q_len_str rfl rfl us_9_F1) (G.mv ?_)
           refine G.np ?_
           refine G.q rfl rfl rfl rfl (q_field0 rfl rfl fo_65_1_F19) (G.ld ag_3_F1 ?_)
           refine G.q rfl rfl rfl rfl (q_sub_i rfl rfl rfl oM) (G.q rfl rfl rfl rfl (q_lss rfl rfl rfl) (G.nil (EN.then ?_)))
           refine CG.cond rfl (fun h75 => ?_) (fun h75 => ?_)
           ·
            have hR : Pk.refs bb a p.1 p.2.2 = .err 6 := by unfold Pk.refs; rw [if_neg oM, if_neg oM, if_pos oM]; exact if_pos oM
            have hE : readE s a = (.zero, 6) := by rw [hre]; unfold readH; rw [hp]; simp only; unfold readR; rw [hR]
            refine CG.reg (G.q rfl rfl rfl rfl (q_ifaceB rfl rfl ia_61_F20) (G.panic rfl rfl rfl ?_))
            refine EN.then_panic ?_
            refine EN.in_panic ?_
            refine EN.then_panic ?_
            exact finD_p (read1_p b4 b5 _ _ _ _ _ _ _ _ _) bd_23_F20 tK (RVal.two rfl rfl rfl (LV.agg ag_30_F20 sz_30_F19 mB rfl) (LV.one ag_23_F20 mB)) tK sF (⟨by rw [hE] <;> rfl, rfl⟩)
           ·
            have hR : Pk.refs bb a p.1 p.2.2 = .ok (0, Sums.hex ((bb.take (p.2.2 + 20)).drop p.2.2), p.2.2 + 20) := by unfold Pk.refs; rw [if_neg oM, if_neg oM, if_pos oM]; exact if_neg oM
            have e20b : (p.2.2 : Int) + 20 = ((p.2.2 + 20 : Nat) : Int) := by omega
            refine CG.skip (EN.ts ?_)
            refine CG.regZ [81, 85] (Keeps _ [cel b7 65 [str bb, .int .i64 (p.2.2 : Nat)]]) mixed (by kernel_rfl) (fun w hw => Keeps.of hw tK) ?_
            refine G.mv ?_
            refine G.mv ?_
            refine G.np ?_
            refine G.q rfl rfl rfl rfl (q_field0 rfl rfl fo_65_1_F19) (G.rK rfl rfl rfl rfl rfl (fun R => r_load rfl rfl ag_3_F1 mB rfl) ?_)
            refine G.mv ?_
            refine G.np ?_
            refine G.q rfl rfl rfl rfl (q_field0 rfl rfl fo_65_1_F19) (G.rK rfl rfl rfl rfl rfl (fun R => r_load rfl rfl ag_3_F1 mB rfl) ?_)
            refine G.q rfl rfl rfl rfl (q_add_i rfl rfl rfl oM) ?_
            rw [e20b]
            refine G.q rfl rfl rfl rfl (q_slice_lh rfl rfl rfl rfl us_9_F1 oM) (G.call (xs := [_]) rfl rfl (hex_spec ((bb.take (p.2.2 + 20)).drop p.2.2) (by simp; omega)) bd_26_F16 rfl rfl rfl rfl tK (fun _ _ _ w hR hw => by obtain ⟨_, rfl⟩ := hR; exact Keeps.of hw tK) ?_)
            rintro _ _ ⟨rfl, rfl⟩
            try dsimp only [List.cons_append, List.nil_append]
            refine G.q rfl rfl rfl rfl (q_field0 rfl rfl fo_30_5_F20) (G.stZ sz_9_F11 ?_)
            refine G.nil (EN.sub (sC 1 (sC 4 (sC 5 (sC 6 (sC 7 (sC 9 Sub.nil)))))) ?_)
            refine EN.tr ?_
            refine G.mv ?_
            refine G.np ?_
            refine G.q rfl rfl rfl rfl (q_field0 rfl rfl fo_65_1_F19) (G.ld ag_3_F1 ?_)
            refine G.q rfl rfl rfl rfl (q_add_i rfl rfl rfl oM) ?_
            rw [e20b]
            refine G.np ?_
            refine G.q rfl rfl rfl rfl (q_field0 rfl rfl fo_65_1_F19) ?_
            refine G.st0 sz_3_F1 ?_
            refine G.nil (EN.in_normal ?_)
            exact EN.cut (hl := [_, _, _]) (⟨_, hR, rfl, rfl⟩) sB rfl tK sF
          ·
           have hR : Pk.refs bb a p.1 p.2.2 = .err 10 := by unfold Pk.refs; rw [if_neg oM, if_neg oM, if_neg oM]
           have hE : readE s a = (.zero, 10) := by rw [hre]; unfold readH; rw [hp]; simp only; unfold readR; rw [hR]
           refine CG.reg (G.q rfl rfl rfl rfl (q_ifaceB rfl rfl ia_61_F20) (G.panic rfl rfl rfl ?_))
           refine EN.in_panic ?_
           refine EN.then_panic ?_
           exact finD_p (read1_p b4 b5 _ _ _ _ _ _ _ _ _) bd_23_F20 tK (RVal.two rfl rfl rfl (LV.agg ag_30_F20 sz_30_F19 mB rfl) (LV.one ag_23_F20 mB)) tK sF (⟨by rw [hE] <;> rfl, rfl⟩)
    ·
     rintro L H ⟨q, hR, rfl, rfl⟩
     try dsimp only [List.cons_append, List.nil_append]
     have hqa := Pk.refs_at hpa.2 hR
     refine CG.seq (CG.sr (G.mv ?_))
     refine G.q rfl rfl rfl rfl (q_gtr rfl rfl rfl) (G.nil (EN.then ?_))
     refine CG.cond rfl (fun h98 => ?_) (fun h98 => ?_)
     ·
      have hE : readE s a = (.zero, 2) := by rw [hre]; unfold readH; rw [hp]; simp only; unfold readR; rw [hR]; exact if_pos oM
      refine CG.reg (G.q rfl rfl rfl rfl (q_ifaceB rfl rfl ia_61_F20) (G.panic rfl rfl rfl ?_))
      refine EN.then_panic ?_
      exact finD_p (read1_p b4 b5 _ _ _ _ _ _ _ _ _) bd_23_F20 tK (RVal.two rfl rfl rfl (LV.agg ag_30_F20 sz_30_F19 mB rfl) (LV.one ag_23_F20 mB)) tK sF (⟨by rw [hE] <;> rfl, rfl⟩)
     ·
      obtain ⟨z, hz⟩ : ∃ z, zread bb q.2.2 p.2.1 = z := ⟨_, rfl⟩
      have hzl := zread_len bb oM q.2.2 p.2.1
      have hzn := zread_end (s := bb) (a := q.2.2) (m := p.2.1)
      rw [hz] at hzl hzn
      have hre2 : readE s a = readZ bb a p.1 q.1 q.2.1 q.2.2 p.2.1 z := by rw [hre]; unfold readH; rw [hp]; simp only; unfold readR; rw [hR]; simp only; rw [if_neg oM, hz]
      refine CG.skip (EN.tsr (G.mv ?_))
      refine G.mv ?_
      refine G.np ?_
      refine G.q rfl rfl rfl rfl (q_field0 rfl rfl fo_65_1_F19) (G.ld ag_3_F1 ?_)
      refine G.mv ?_
      refine G.call (xs := [_, _, _]) rfl rfl (zread_spec bb q.2.2 p.2.1 oM oM oM) bd_27_F20 rfl rfl rfl rfl tK (fun _ _ _ _ _ _ => trivial) ?_
      rintro _ _ ⟨rfl, rfl⟩
      rw [hz]
      unfold inflV
      try dsimp only [List.cons_append, List.nil_append]
      refine G.mv ?_
      refine G.q rfl rfl rfl rfl (q_extract rfl rfl rfl) (G.q rfl rfl rfl rfl (q_extract rfl rfl rfl) (G.q rfl rfl rfl rfl (q_extract rfl rfl rfl) (G.as ?_)))
      refine G.as ?_
      refine G.st0 sz_23_F19 ?_
      refine G.nil (EN.sub (sC 1 (sC 4 (sC 5 (sC 6 (sC 7 (sC 9 (sC 11 (sC 12 Sub.nil)))))))) ?_)
      refine EN.then ?_
      refine CG.cut (fun L H => L = [(1, .int .i64 a), (4, .pointer (some ⟨b4, 0, none⟩)), (5, .pointer (some ⟨b5, 0, none⟩)), (6, str bb), (7, .pointer (some ⟨b7, 0, none⟩)), (9, .int .i64 (p.2.1 : Nat)), (11, str z.1), (12, .int .i64 (z.2.1 : Nat))] ∧ H = [cel b4 30 [.int .i64 a, .int .i64 0, .int .i64 p.1, str [], .int .i64 (q.1 : Nat), str q.2.1, .int .u32 0], cel b5 23 [.int .i64 (zerr p.2.1 z : Nat)], cel b7 65 [str bb, .int .i64 (q.2.2 : Nat)]] ++ F) ?_ ?_
      ·
       refine CG.sr (G.ld ag_23_F20 ?_)
       refine G.q rfl rfl rfl rfl (q_eql rfl rfl rfl) (G.mv ?_)
       refine G.split (t := 113) rfl (fun g113 => ?_) (fun g113 => ?_)
       ·
        have hze : zerr p.2.1 z = 3 := if_pos (.inl oM)
        refine G.skip rfl rfl rfl (G.skip rfl rfl rfl (G.skip rfl rfl rfl (G.skip rfl rfl rfl (G.skip rfl rfl rfl (G.skip rfl rfl rfl ?_)))))
        refine G.skip rfl rfl rfl (G.skip rfl rfl rfl (G.q rfl rfl rfl rfl (q_pick_t rfl rfl rfl) (G.nil (EN.sub (sC 1 (sC 4 (sC 5 (sC 6 (sC 7 (sC 9 (sC 11 (sC 12 (sC 122 Sub.nil))))))))) ?_))))
        refine EN.then (CG.cond_t rfl ?_)
        refine CG.reg ?_
        refine G.st0 sz_23_F19 ?_
        refine G.nil ?_
        rw [hze]
        exact EN.cut (hl := [_, _, _]) (⟨rfl, rfl⟩) sB rfl tK sF
       ·
        refine G.ld ag_23_F20 ?_
        refine G.q rfl rfl rfl rfl (q_eql rfl rfl rfl) (G.mv ?_)
        refine G.split (t := 116) rfl (fun g116 => ?_) (fun g116 => ?_)
        ·
         refine G.mv ?_
         refine G.q rfl rfl rfl rfl (q_len_str rfl rfl us_9_F1) (G.mv ?_)
         refine G.q rfl rfl rfl rfl (q_lss rfl rfl rfl) (G.q rfl rfl rfl rfl (q_pick_t rfl rfl rfl) (G.q rfl rfl rfl rfl (q_pick_f rfl rfl rfl) (G.nil (EN.sub (sC 1 (sC 4 (sC 5 (sC 6 (sC 7 (sC 9 (sC 11 (sC 12 (sC 122 Sub.nil))))))))) ?_))))
         refine EN.then ?_
         refine CG.cond rfl (fun h122 => ?_) (fun h122 => ?_)
         ·
          have hze : zerr p.2.1 z = 3 := if_pos (.inr oM)
          refine CG.reg ?_
          refine G.st0 sz_23_F19 ?_
          refine G.nil ?_
          rw [hze]
          exact EN.cut (hl := [_, _, _]) (⟨rfl, rfl⟩) sB rfl tK sF
         ·
          have hze : zerr p.2.1 z = z.2.2 := if_neg oM
          refine CG.skip ?_
          rw [hze]
          exact EN.cut (hl := [_, _, _]) (⟨rfl, rfl⟩) sB rfl tK sF
        ·
         have hze : zerr p.2.1 z = z.2.2 := if_neg oM
         refine G.skip rfl rfl rfl (G.skip rfl rfl rfl (G.skip rfl rfl rfl (G.skip rfl rfl rfl (G.q rfl rfl rfl rfl (q_pick_f rfl rfl rfl) (G.q rfl rfl rfl rfl (q_pick_f rfl rfl rfl) ?_)))))
         refine G.nil (EN.sub (sC 1 (sC 4 (sC 5 (sC 6 (sC 7 (sC 9 (sC 11 (sC 12 (sC 122 Sub.nil))))))))) ?_)
         refine EN.then (CG.cond_f rfl ?_)
         refine CG.skip ?_
         rw [hze]
         exact EN.cut (hl := [_, _, _]) (⟨rfl, rfl⟩) sB rfl tK sF
      ·
       rintro L H ⟨rfl, rfl⟩
       try dsimp only [List.cons_append, List.nil_append]
       refine CG.seq (CG.sr (G.ld ag_23_F20 ?_))
       refine G.q rfl rfl rfl rfl (q_neq rfl rfl rfl) (G.nil (EN.then ?_))
       refine CG.cond rfl (fun h124 => ?_) (fun h124 => ?_)
       ·
        have hE : readE s a = (.zero, zerr p.2.1 z) := by rw [hre2]; exact if_pos oM
        refine CG.reg (G.ld ag_23_F20 ?_)
        refine G.q rfl rfl rfl rfl (q_ifaceB rfl rfl ia_61_F20) (G.panic rfl rfl rfl ?_)
        refine EN.then_panic ?_
        exact finD_p (read1_p b4 b5 _ _ _ _ _ _ _ _ _) bd_23_F20 tK (RVal.two rfl rfl rfl (LV.agg ag_30_F20 sz_30_F19 mB rfl) (LV.one ag_23_F20 mB)) tK sF (⟨by rw [hE] <;> rfl, rfl⟩)
       ·
        have hz0 := zerr_0 (size := p.2.1) (z := z) oM
        have hzn2 := hzn hz0.1
        have hE : readE s a = (⟨a, (q.2.2 + z.2.1 : Nat), p.1, z.1, q.1, q.2.1, crc32 ((bb.take (q.2.2 + z.2.1)).drop a)⟩, 0) := by rw [hre2]; exact if_neg oM
        have ez : (q.2.2 : Int) + z.2.1 = ((q.2.2 + z.2.1 : Nat) : Int) := by omega
        refine CG.skip (EN.tsr (G.mv ?_))
        refine G.q rfl rfl rfl rfl (q_field0 rfl rfl fo_30_3_F20) ?_
        refine G.st0 sz_9_F11 ?_
        refine G.nil (EN.tsr (G.mv ?_))
        refine G.np ?_
        refine G.q rfl rfl rfl rfl (q_field0 rfl rfl fo_65_1_F19) (G.ld ag_3_F1 ?_)
        refine G.mv ?_
        refine G.q rfl rfl rfl rfl (q_add_i rfl rfl rfl oM) ?_
        rw [ez]
        refine G.q rfl rfl rfl rfl (q_field0 rfl rfl fo_30_1_F20) ?_
        refine G.st0 sz_3_F1 ?_
        refine G.nil (EN.sub (sC 1 (sC 4 (sC 5 (sC 6 Sub.nil)))) ?_)
        refine EN.tsr (G.mv ?_)
        refine G.mv ?_
        refine G.q rfl rfl rfl rfl (q_field0 rfl rfl fo_30_1_F20) (G.ld ag_3_F1 ?_)
        refine G.q rfl rfl rfl rfl (q_slice_lh rfl rfl rfl rfl us_9_F1 oM) (G.call (xs := [_]) rfl rfl (crc32_spec ((bb.take (q.2.2 + z.2.1)).drop a) (by simp; omega)) bd_28_F20 rfl rfl rfl rfl tK (fun _ _ _ _ _ _ => trivial) ?_)
        rintro _ _ ⟨rfl, rfl⟩
        try dsimp only [List.cons_append, List.nil_append]
        refine G.q rfl rfl rfl rfl (q_field0 rfl rfl fo_30_6_F20) ?_
        refine G.st0 sz_28_F3 ?_
        refine G.nil (EN.sub (sC 4 (sC 5 Sub.nil)) ?_)
        refine EN.tsr (G.ldA ag_30_F20 sz_30_F19 ?_)
        refine G.sa0 sz_30_F19 ?_
        refine G.st0 sz_23_F19 ?_
        refine G.nil (EN.then (CG.ret ?_))
        exact finD_r (read1_r b4 b5 _ _) bd_23_F20 tK (RVal.two rfl rfl rfl (LV.agg ag_30_F20 sz_30_F19 mB rfl) (LV.one ag_23_F20 mB)) tK sF (⟨by rw [hE] <;> rfl, rfl⟩) _ (.inl rfl)

end Go.Eng
/-
  Rows of structs, read where they lie; equality of structs and truth values. Speaks of no program.
-/
set_option linter.unusedVariables false
set_option linter.unusedSimpArgs false
namespace Go.Eng
section
variable {P : Program} {L : List (Nat × Value)} {H : List HP} {o : Oper}
/-- a struct held against itself -/
theorem q_neq_same {x y : Operand} {T U : TypeId} {v : Value} (ho : o.op = .binOp .neq T x y U) (hx : ev L x = some v) (hy : ev L y = some v) (hT : ∀ w : World, ((do eqGuard .neq T x y v v; binOp .neq T v v) : Sem Value).run P w = .ok (.bool false) w) : QOp P L o (.bool false) := q_bin ho hx hy hT
theorem q_eql_same {x y : Operand} {T U : TypeId} {v : Value} (ho : o.op = .binOp .eql T x y U) (hx : ev L x = some v) (hy : ev L y = some v) (hT : ∀ w : World, ((do eqGuard .eql T x y v v; binOp .eql T v v) : Sem Value).run P w = .ok (.bool true) w) : QOp P L o (.bool true) := q_bin ho hx hy hT

theorem flat_drop {α : Type} {f : α → List Value} {sz : Nat} (hf : ∀ x, (f x).length = sz) : ∀ (l : List α) (i : Nat), i ≤ l.length → (l.flatMap f).drop (i * sz) = (l.drop i).flatMap f
  | l, 0, _ => by simp
  | [], i + 1, h => by simp
  | x :: l, i + 1, h => by
    rw [List.flatMap_cons, Nat.succ_mul, List.drop_succ_cons, ← flat_drop hf l i (by simpa using h), ← hf x, Nat.add_comm, List.drop_append, hf x]
    simp [hf]
theorem flat_sl {α : Type} {f : α → List Value} {sz : Nat} (hf : ∀ x, (f x).length = sz) {l : List α} {i : Nat} {x : α} (hx : l[i]? = some x) : sliceL (l.flatMap f) (i * sz) sz = f x := by
  have hi := (List.getElem?_eq_some_iff.1 hx).1
  unfold sliceL
  rw [flat_drop hf l i (by omega)]
  have : l.drop i = x :: l.drop (i + 1) := by
    rw [List.drop_eq_getElem_cons hi]; congr 1; exact (List.getElem?_eq_some_iff.1 hx).2
  rw [this, List.flatMap_cons, List.take_append_of_le_length (by rw [hf]; exact Nat.le_refl _), List.take_of_length_le (by rw [hf]; exact Nat.le_refl _)]
theorem flat_nth {α : Type} {f : α → List Value} {sz : Nat} (hf : ∀ x, (f x).length = sz) {l : List α} {i k : Nat} {x : α} {v : Value} (hx : l[i]? = some x) (hk : nth (f x) k = some v) : nth (l.flatMap f) (i * sz + k) = some v := by
  have h := flat_sl hf hx
  rw [nth_eq] at hk ⊢
  have hlt := (List.getElem?_eq_some_iff.1 hk).1
  rw [hf] at hlt
  rw [← h] at hk
  unfold sliceL at hk
  rw [List.getElem?_take, if_pos hlt, List.getElem?_drop] at hk
  exact hk
theorem own_flat {α : Type} {f : α → List Value} {e sz : Nat} {u : Value} {l : List α} {x : α} : own e sz u (l.length + 1) (l.flatMap f ++ f x) = own e sz u (l ++ [x]).length ((l ++ [x]).flatMap f) := by simp

theorem ownG_cell {z : Bool} {T sz n g off c i : Nat} {xs : List Value} {v : Value} {S : Nat → Prop} {w : World} (hh : ownG z T sz (.slice (some ⟨g, off, none⟩) n c) n xs (res S w)) (hi : nth xs i = some v) : w.cell? ⟨g, off + i, none⟩ = some v := by
  obtain ⟨hl, ⟨e, _⟩ | ⟨g', off', cap, cur, e, hg, h5, h6, h7, h8, h9⟩⟩ := hh
  · cases e
  · cases e
    have hg := (res_pt hg).2
    rw [nth_eq, ← h8, List.getElem?_take] at hi
    split at hi
    · rw [List.getElem?_drop, Array.getElem?_toList] at hi
      simp [World.cell?, hg, hi]
    · cases hi
/-- a field of an element of an owned row -/
theorem r_loadO {z : Bool} {x : Operand} {T U sz n c g off i : Nat} {xs : List Value} {v : Value} (ho : o.op = .load T x) (hx : ev L x = some (.pointer (some ⟨g, off + i, none⟩))) (hT : aggB P T = some false) (hm : Mem (ownG z U sz (.slice (some ⟨g, off, none⟩) n c) n xs) H) (hv : nth xs i = some v) : ROp P L H o v := by
  intro N D a w w0 hf hw
  obtain ⟨S, hh⟩ := hw.get hm
  unfold execOp; rw [ho]
  simp [hf.ev hx, Instr.loadAt, Instr.sureAddr, loadVar, run_isAgg hT, ownG_cell hh hv]
/-- a whole element (or a part of it) of an owned row -/
theorem r_loadOA {z : Bool} {x : Operand} {T U sz n c g off i k : Nat} {xs cs : List Value} (ho : o.op = .load T x) (hx : ev L x = some (.pointer (some ⟨g, off + i, none⟩))) (hT : aggB P T = some true) (hz : sizeB P T = some k) (hm : Mem (ownG z U sz (.slice (some ⟨g, off, none⟩) n c) n xs) H) (hl : cs.length = k) (hv : ∀ (j : Nat) (v : Value), cs[j]? = some v → nth xs (i + j) = some v) : ROp P L H o (.agg cs.toArray) := by
  intro N D a w w0 hf hw
  obtain ⟨S, hh⟩ := hw.get hm
  have hrun : (loadCells ⟨g, off + i, none⟩ k).run P w = .ok cs.toArray w := by
    have := run_loadCells_list (P := P) w ⟨g, off + i, none⟩ cs (fun j v hj => by
      rw [Addr.add_lit, Nat.add_assoc]; exact ownG_cell hh (hv j v hj))
    rw [hl] at this; exact this
  unfold execOp; rw [ho]
  simp [hf.ev hx, Instr.loadAt, Instr.sureAddr, loadVar, run_isAgg hT, run_sizeOf hz, hrun]
theorem flat_part {α : Type} {f : α → List Value} {sz : Nat} (hf : ∀ x, (f x).length = sz) {l : List α} {i k n : Nat} {x : α} (hx : l[i]? = some x) : ∀ (j : Nat) (v : Value), (sliceL (f x) k n)[j]? = some v → nth (l.flatMap f) (i * sz + k + j) = some v := by
  intro j v hj
  rw [Nat.add_assoc]
  refine flat_nth hf hx ?_
  rw [nth_eq]
  simp only [sliceL, List.getElem?_take, List.getElem?_drop] at hj
  split at hj
  · exact hj
  · cases hj
theorem flat_whole {α : Type} {f : α → List Value} {sz : Nat} (hf : ∀ x, (f x).length = sz) {l : List α} {i : Nat} {x : α} (hx : l[i]? = some x) : ∀ (j : Nat) (v : Value), (f x)[j]? = some v → nth (l.flatMap f) (i * sz + j) = some v := fun j v hj => flat_nth hf hx (by rw [nth_eq]; exact hj)
end
section
variable {P : Program} {w0 : World} {N : Nat} {Q : Exit → Act → World → Prop} {D : List Deferred} {L : List (Nat × Value)} {H H1 : List HP}
/-- a row with elements has a place -/
theorem CG.someO {c : Code} {z : Bool} {T sz n cap : Nat} {ad : Option Addr} {xs : List Value} (ht : Take H (ownG z T sz (.slice ad n cap) n xs) H1) (hn : 0 < n) (k : ∀ g off, ad = some ⟨g, off, none⟩ → CG P w0 N c Q D L H) : CG P w0 N c Q D L H := by
  refine CG.fact (α := ∃ g off, ad = some ⟨g, off, none⟩) ht (fun h hh => ?_) (fun ⟨g, off, e⟩ => k g off e)
  obtain ⟨_, ⟨_, h0⟩ | ⟨g, off, cap, cur, e, _⟩⟩ := hh
  · omega
  · cases e; exact ⟨g, off, rfl⟩
end
end Go.Eng
/-
  Packs read: Count, All.
-/
set_option linter.unusedVariables false
set_option linter.unusedSimpArgs false
namespace Go.Eng
open Go.Proofs
theorem bd_6_F21 : bodied Tryz.prog 6 = true := by kernel_rfl
theorem bd_8_F21 : bodied Tryz.prog 8 = true := by kernel_rfl
theorem bs_36_1_all_F21 : ∀ (x0_0 : Int) (x0_1 : Int) (x0_2 : Int) (x0_3 : List UInt8) (x0_4 : Int) (x0_5 : List UInt8) (x0_6 : Int) (w : World), (Instr.buildSlice 36 1 [(0, .agg [.int .i64 x0_0, .int .i64 x0_1, .int .i64 x0_2, str x0_3, .int .i64 x0_4, str x0_5, .int .u32 x0_6].toArray)].toArray).run Tryz.prog w = .ok (.slice (some ⟨w.heap.size, 0, none⟩) 1 1) { w with heap := w.heap.push (.cells [.int .i64 x0_0, .int .i64 x0_1, .int .i64 x0_2, str x0_3, .int .i64 x0_4, str x0_5, .int .u32 x0_6].toArray 30) } := fun _ _ _ _ _ _ _ _ => by kernel_rfl
theorem ik_3_F21 : intK Tryz.prog 3 = some .i64 := by kernel_rfl
theorem nf_30_F21 : infoB Tryz.prog 30 = some (some [.int .i64 0, .int .i64 0, .int .i64 0, str [], .int .i64 0, str [], .int .u32 0], 7, 72) := by kernel_rfl
theorem se_36_F21 : sliceE Tryz.prog 36 = some 30 := by kernel_rfl
theorem zl_30_F21 : zeroL Tryz.prog 30 = some [.int .i64 0, .int .i64 0, .int .i64 0, str [], .int .i64 0, str [], .int .u32 0] := by kernel_rfl

def countE (s : List UInt8) : Nat × Nat :=
  if s.length < 32 then (0, 6) else
  if s.take 4 ≠ [80, 65, 67, 75] ∨ Sums.fromBig ((s.take 8).drop 4) ≠ 2 then (0, 3) else
  if 1000 < Sums.fromBig ((s.take 12).drop 8) then (0, 2) else
  if Sha.sum1 (s.take (s.length - 20)) ≠ s.drop (s.length - 20) then (0, 5) else
  ((Sums.fromBig ((s.take 12).drop 8)).toNat, 0)
def allGo (s : List UInt8) : Nat → Int → List Pk.Ent → Pk.Res (List Pk.Ent × Int)
  | 0, a, l => .ok (l, a)
  | k + 1, a, l => if (readE s a).2 ≠ 0 then .err (readE s a).2 else allGo s k (readE s a).1.nx (l ++ [(readE s a).1])
def allR (s : List UInt8) (r : Pk.Res (List Pk.Ent × Int)) : List Pk.Ent × Nat := match r with
  | .err e => ([], e)
  | .ok p => if p.2 ≠ (s.length : Int) - 20 then ([], 3) else (p.1, 0)
/-- the entries, the error -/
def allE (s : List UInt8) : List Pk.Ent × Nat := if (countE s).2 ≠ 0 then ([], (countE s).2) else allR s (allGo s (countE s).1 12 [])
theorem count_le (s : List UInt8) : (countE s).1 ≤ 1000 ∧ ((countE s).2 = 0 → 32 ≤ s.length) := by
  unfold countE
  split
  · simp
  · split
    · simp
    · split
      · simp
      · split
        · simp
        · simp only; omega
theorem ent_cells (x : Pk.Ent) : ([.int .i64 x.at_, .int .i64 x.nx, .int .i64 x.kind, str x.data, .int .i64 x.base, str x.id, .int .u32 x.crc] : List Value) = x.cells := rfl
theorem ent_len (x : Pk.Ent) : x.cells.length = 7 := rfl

attribute [local irreducible] cel own exS ownG tabH Sums.hex crc32 zread readE Sha.sum1 Sums.fromBig

set_option maxRecDepth 100000 in
set_option maxHeartbeats 1000000 in
theorem count_spec (s : List UInt8) (hs : s.length ≤ 800000000) : Spec Tryz.prog 6 #[str s] [] (Ret fun v hl => v = .tuple #[.int .i64 ((countE s).1 : Nat), .int .i64 ((countE s).2 : Nat)] ∧ hl = []) := by
 refine Spec.enter Tryz.func6 rfl rfl rfl (fun F w0 => ?_)
 dsimp only [argL, List.cons_append, List.nil_append]
 refine CG.sr (G.as ?_)
 refine G.as ?_
 refine G.nil (EN.ts (CG.sr (G.mv ?_)))
 refine G.q rfl rfl rfl rfl (q_len_str rfl rfl us_9_F1) (G.q rfl rfl rfl rfl (q_lss rfl rfl rfl) (G.nil (EN.then ?_)))
 refine CG.cond rfl (fun h7 => ?_) (fun h7 => ?_)
 ·
  have hE : countE s = (0, 6) := if_pos oM
  refine CG.sr (G.as ?_)
  refine G.as ?_
  refine G.nil (EN.then (CG.ret (EN.then_ret ?_)))
  rw [hE]
  try rw [← et]
  exact fin_ret2 rfl rfl rfl tK sF (⟨rfl, rfl⟩) _ (.inl rfl)
 ·
  have h32 : 32 ≤ s.length := by omega
  have h4 : 4 ≤ s.length := by omega
  have h48 : 4 ≤ 8 ∧ 8 ≤ s.length := by omega
  have h812 : 8 ≤ 12 ∧ 12 ≤ s.length := by omega
  have hb := Sums.fromBig_lt' (s := (s.take 12).drop 8) (j := 4) (by simp; omega)
  have e20 : (s.length : Int) - 20 = ((s.length - 20 : Nat) : Int) := by omega
  refine CG.skip (EN.ts (CG.sr (G.mv ?_)))
  refine G.q rfl rfl rfl rfl (q_slice_hi rfl rfl rfl us_9_F1 (h4)) (G.q rfl rfl rfl rfl (q_neq_s rfl rfl rfl) (G.mv ?_))
  refine G.split (t := 11) rfl (fun g11 => ?_) (fun g11 => ?_)
  ·
   have hE : countE s = (0, 3) := by unfold countE; rw [if_neg oM, if_pos (.inl g11)]
   refine G.skip rfl rfl rfl (G.skip rfl rfl rfl (G.skip rfl rfl rfl (G.skip rfl rfl rfl (G.q rfl rfl rfl rfl (q_pick_t rfl rfl rfl) (G.nil ?_)))))
   refine EN.sub (sC 0 (sC 2 (sC 3 (sC 16 Sub.nil)))) ?_
   refine EN.then (CG.cond_t rfl ?_)
   refine CG.sr (G.as ?_)
   refine G.as ?_
   refine G.nil (EN.then (CG.ret (EN.then_ret ?_)))
   rw [hE]
   try rw [← et]
   exact fin_ret2 rfl rfl rfl tK sF (⟨rfl, rfl⟩) _ (.inl rfl)
  ·
   refine G.mv ?_
   refine G.q rfl rfl rfl rfl (q_slice_lh rfl rfl rfl rfl us_9_F1 (h48)) (G.call (xs := [_]) rfl rfl (fromBig_spec _ (by simp; omega)) bd_19_F9 rfl rfl rfl rfl tK (fun _ _ _ _ _ _ => trivial) ?_)
   rintro _ _ ⟨rfl, rfl⟩
   try dsimp only [List.cons_append, List.nil_append]
   refine G.q rfl rfl rfl rfl (q_neq rfl rfl rfl) (G.q rfl rfl rfl rfl (q_pick_f rfl rfl rfl) (G.nil (EN.sub (sC 0 (sC 2 (sC 3 (sC 16 Sub.nil)))) ?_)))
   refine EN.then ?_
   refine CG.cond rfl (fun h16 => ?_) (fun h16 => ?_)
   ·
    have hE : countE s = (0, 3) := by unfold countE; rw [if_neg oM, if_pos (.inr h16)]
    refine CG.sr (G.as ?_)
    refine G.as ?_
    refine G.nil (EN.then (CG.ret (EN.then_ret ?_)))
    rw [hE]
    try rw [← et]
    exact fin_ret2 rfl rfl rfl tK sF (⟨rfl, rfl⟩) _ (.inl rfl)
   ·
    have hn3 : ¬ (s.take 4 ≠ [80, 65, 67, 75] ∨ Sums.fromBig ((s.take 8).drop 4) ≠ 2) := fun h => h.elim g11 h16
    refine CG.skip (EN.tsr (G.mv ?_))
    refine G.q rfl rfl rfl rfl (q_slice_lh rfl rfl rfl rfl us_9_F1 (h812)) (G.call (xs := [_]) rfl rfl (fromBig_spec _ (by simp; omega)) bd_19_F9 rfl rfl rfl rfl tK (fun _ _ _ _ _ _ => trivial) ?_)
    rintro _ _ ⟨rfl, rfl⟩
    try dsimp only [List.cons_append, List.nil_append]
    refine G.as ?_
    refine G.nil (EN.ts (CG.sr (G.mv ?_)))
    refine G.q rfl rfl rfl rfl (q_gtr rfl rfl rfl) (G.nil (EN.then ?_))
    refine CG.cond rfl (fun h21 => ?_) (fun h21 => ?_)
    ·
     have hE : countE s = (0, 2) := by unfold countE; rw [if_neg oM, if_neg hn3, if_pos h21]
     refine CG.sr (G.as ?_)
     refine G.as ?_
     refine G.nil (EN.then (CG.ret (EN.then_ret ?_)))
     rw [hE]
     try rw [← et]
     exact fin_ret2 rfl rfl rfl tK sF (⟨rfl, rfl⟩) _ (.inl rfl)
    ·
     refine CG.skip (EN.ts (CG.seq ?_))
     refine CG.regT [] mixed (by kernel_rfl) ?_
     refine G.mv ?_
     refine G.mv ?_
     refine G.q rfl rfl rfl rfl (q_len_str rfl rfl us_9_F1) (G.q rfl rfl rfl rfl (q_sub_i rfl rfl rfl oM) ?_)
     rw [e20]
     refine G.q rfl rfl rfl rfl (q_slice_hi rfl rfl rfl us_9_F1 oM) (G.call (xs := [_]) rfl rfl (sum1_spec _ (by simp; omega)) bd_20_F16 rfl rfl rfl rfl tK (fun _ _ _ _ _ _ => trivial) ?_)
     rintro _ _ ⟨rfl, rfl⟩
     try dsimp only [List.cons_append, List.nil_append]
     refine G.mv ?_
     refine G.mv ?_
     refine G.q rfl rfl rfl rfl (q_len_str rfl rfl us_9_F1) (G.q rfl rfl rfl rfl (q_sub_i rfl rfl rfl oM) ?_)
     rw [e20]
     refine G.q rfl rfl rfl rfl (q_slice_lo rfl rfl rfl us_9_F1 oM) (G.q rfl rfl rfl rfl (q_neq_s rfl rfl rfl) (G.nil (EN.sub (sC 2 (sC 3 (sC 4 (sC 33 Sub.nil)))) ?_)))
     refine EN.then ?_
     refine CG.cond rfl (fun h33 => ?_) (fun h33 => ?_)
     ·
      have hE : countE s = (0, 5) := by unfold countE; rw [if_neg oM, if_neg hn3, if_neg h21, if_pos h33]
      refine CG.sr (G.as ?_)
      refine G.as ?_
      refine G.nil (EN.then (CG.ret (EN.then_ret ?_)))
      rw [hE]
      try rw [← et]
      exact fin_ret2 rfl rfl rfl tK sF (⟨rfl, rfl⟩) _ (.inl rfl)
     ·
      have hE : countE s = ((Sums.fromBig ((s.take 12).drop 8)).toNat, 0) := by unfold countE; rw [if_neg oM, if_neg hn3, if_neg h21, if_neg h33]
      have et : Sums.fromBig ((s.take 12).drop 8) = ((Sums.fromBig ((s.take 12).drop 8)).toNat : Nat) := by omega
      refine CG.skip (EN.tsr (G.mv ?_))
      refine G.q rfl rfl rfl rfl (q_conv_in rfl rfl is_58_F1 ik_3_F21 (wrap64_in oM)) (G.as ?_)
      refine G.as ?_
      refine G.nil (EN.then (CG.ret ?_))
      rw [hE]
      try rw [← et]
      exact fin_ret2 rfl rfl rfl tK sF (⟨rfl, rfl⟩) _ (.inl rfl)

set_option maxRecDepth 100000 in
set_option maxHeartbeats 1000000 in
theorem all_spec (s : List UInt8) (hs : s.length ≤ 800000000) : Spec Tryz.prog 10 #[str s] [] (Ret fun v hl => ∃ sv, v = .tuple #[sv, .int .i64 ((allE s).2 : Nat)] ∧ hl = [own 30 7 sv (allE s).1.length ((allE s).1.flatMap Pk.Ent.cells)]) := by
 obtain ⟨hn1, hn2⟩ := count_le s
 obtain ⟨p, hp⟩ : ∃ p, countE s = p := ⟨_, rfl⟩
 rw [hp] at hn1 hn2
 refine Spec.enter Tryz.func10 rfl rfl rfl (fun F w0 => ?_)
 dsimp only [argL, List.cons_append, List.nil_append]
 refine CG.sr (G.as ?_)
 refine G.as ?_
 refine G.nil (EN.tsr (G.mv ?_))
 refine G.call (xs := [_]) rfl rfl (count_spec s hs) bd_6_F21 rfl rfl rfl rfl tK (fun _ _ _ _ _ _ => trivial) ?_
 rintro _ _ ⟨rfl, rfl⟩
 rw [hp]
 try dsimp only [List.cons_append, List.nil_append]
 refine G.mv ?_
 refine G.q rfl rfl rfl rfl (q_extract rfl rfl rfl) (G.q rfl rfl rfl rfl (q_extract rfl rfl rfl) (G.as ?_))
 refine G.as ?_
 refine G.nil (EN.ts (CG.sr (G.mv ?_)))
 refine G.q rfl rfl rfl rfl (q_neq rfl rfl rfl) (G.nil (EN.then ?_))
 refine CG.cond rfl (fun h16 => ?_) (fun h16 => ?_)
 ·
  have hE : allE s = ([], p.2) := by unfold allE; rw [hp, if_pos oM]
  refine CG.sr (G.mv ?_)
  refine G.as ?_
  refine G.as ?_
  refine G.nil (EN.sub (sC 0 (sC 2 (sC 3 (sC 4 Sub.nil)))) ?_)
  refine EN.then (CG.ret (EN.then_ret (EN.ownNil 30 7 ?_)))
  rw [hE]
  exact fin_ret2 rfl rfl rfl tK sF (⟨_, rfl, rfl⟩) _ (.inl rfl)
 ·
  have hp0 : p.2 = 0 := by omega
  have hE0 : allE s = allR s (allGo s p.1 12 []) := by unfold allE; rw [hp, if_neg oM]
  have h32 := hn2 hp0
  refine CG.skip (EN.tsr (G.as ?_))
  refine G.nil (EN.tsr (G.as ?_))
  refine G.nil (EN.ts (CG.sr (G.mv ?_)))
  refine G.mv ?_
  refine G.nil (EN.sub (sC 0 (sC 2 (sC 3 (sC 6 (sC 7 (sC 18 (sC 19 Sub.nil))))))) ?_)
  refine EN.then (CG.block (CG.ownNil 30 7 ?_))
  refine CG.loopI (fun m L H => ∃ (k : Nat) (a : Int) (l : List Pk.Ent) (v : Value), k + m = p.1 ∧ l.length = k ∧ allGo s m a l = allGo s p.1 12 [] ∧ L = [(0, str s), (6, .int .i64 a), (7, v), (18, .int .i64 p.1), (19, .int .i64 k)] ∧ H = [own 30 7 v l.length (l.flatMap Pk.Ent.cells)] ++ F) (p.1) (hl := [_]) (⟨0, 12, [], .slice none 0 0, by omega, rfl, rfl, rfl, rfl⟩) sB rfl tK sF ?_
  rintro m L H ⟨k, a, l, v, hk, hl, hgo, rfl, rfl⟩
  try dsimp only [List.cons_append, List.nil_append]
  have ek : (k : Int) + 1 = ((k + 1 : Nat) : Int) := by omega
  refine CG.sr (G.q rfl rfl rfl rfl (q_lss rfl rfl rfl) (G.nil (EN.ts ?_)))
  refine CG.cond rfl (fun h20 => ?_) (fun h20 => ?_)
  ·
   obtain ⟨m, rfl⟩ : ∃ j, m = j + 1 := ⟨m - 1, by omega⟩
   rw [allGo] at hgo
   refine CG.skip (EN.ts (CG.block (CG.sr (G.mv ?_))))
   refine G.mv ?_
   refine G.call (xs := [_, _]) rfl rfl (pread_spec s a oM) bd_8_F21 rfl rfl rfl rfl tK (fun _ _ _ _ _ _ => trivial) ?_
   rintro _ _ ⟨rfl, rfl⟩
   try dsimp only [List.cons_append, List.nil_append]
   refine G.mv ?_
   refine G.q rfl rfl rfl rfl (q_extract rfl rfl rfl) (G.q rfl rfl rfl rfl (q_extract rfl rfl rfl) (G.e rfl rfl rfl rfl (e_alloc rfl zl_30_F21) (fun _ _ _ _ _ _ => trivial) ?_))
   rintro _ _ ⟨b8, rfl, rfl⟩
   refine G.sa0 sz_30_F19 ?_
   refine G.as ?_
   refine G.nil (EN.ts (CG.sr (G.mv ?_)))
   refine G.q rfl rfl rfl rfl (q_neq rfl rfl rfl) (G.nil (EN.then ?_))
   refine CG.cond rfl (fun h28 => ?_) (fun h28 => ?_)
   ·
    rw [if_pos oM] at hgo
    have hE : allE s = ([], (readE s a).2) := by rw [hE0, ← hgo]; rfl
    refine CG.sr (G.mv ?_)
    refine G.as ?_
    refine G.as ?_
    refine G.nil (EN.sub (sC 0 (sC 2 (sC 3 (sC 6 (sC 7 (sC 8 (sC 18 (sC 19 Sub.nil)))))))) ?_)
    refine EN.then (CG.ret (EN.then_ret (EN.in_ret ?_)))
    refine EN.then_ret (EN.then_ret (EN.in_ret ?_))
    refine EN.then_ret (EN.ownNil 30 7 ?_)
    rw [hE]
    exact fin_ret2 rfl rfl rfl tK sF (⟨_, rfl, rfl⟩) _ (.inl rfl)
   ·
    rw [if_neg oM] at hgo
    refine CG.skip (EN.tsr (G.mv ?_))
    refine G.ldA ag_30_F20 sz_30_F19 ?_
    refine G.e rfl rfl rfl rfl (e_bslice rfl rfl (bs_36_1_all_F21 _ _ _ _ _ _ _)) (fun _ _ _ _ _ _ => trivial) ?_
    rintro _ _ ⟨b32, rfl, rfl⟩
    refine G.e rfl rfl rfl rfl (e_append rfl rfl rfl se_36_F21 nf_30_F21 rfl tK1 mB (by rfl) (by simp [Value.oneCell', str]) oM) (fun _ _ _ _ _ _ => trivial) ?_
    rintro _ _ rfl
    rw [ent_cells, own_flat]
    refine G.as ?_
    refine G.nil (EN.sub (sC 0 (sC 6 (sC 7 (sC 8 (sC 18 (sC 19 Sub.nil)))))) ?_)
    refine EN.tr ?_
    refine G.q rfl rfl rfl rfl (q_field0 rfl rfl fo_30_1_F20) (G.ld ag_3_F1 ?_)
    refine G.as ?_
    refine G.nil (EN.in_normal (EN.tr ?_))
    refine G.q rfl rfl rfl rfl (q_add_i rfl rfl rfl oM) ?_
    rw [ek]
    refine G.mv ?_
    refine G.nil ?_
    exact EN.round (hl := [_]) (m) oM (⟨k + 1, (readE s a).1.nx, l ++ [(readE s a).1], _, by omega, by simp; omega, hgo, rfl, rfl⟩) sB rfl tK sF
  ·
   obtain rfl : m = 0 := by omega
   rw [allGo] at hgo
   refine CG.exit ?_
   refine EN.then_exit (EN.then_exit (EN.in_here ?_))
   refine EN.ts (CG.sr (G.mv ?_))
   refine G.mv ?_
   refine G.q rfl rfl rfl rfl (q_len_str rfl rfl us_9_F1) (G.q rfl rfl rfl rfl (q_sub_i rfl rfl rfl oM) (G.q rfl rfl rfl rfl (q_neq rfl rfl rfl) (G.nil (EN.sub (sC 7 (sC 41 Sub.nil)) ?_))))
   refine EN.then ?_
   refine CG.cond rfl (fun h41 => ?_) (fun h41 => ?_)
   ·
    have hE : allE s = ([], 3) := by rw [hE0, ← hgo]; exact if_pos oM
    refine CG.sr (G.as ?_)
    refine G.as ?_
    refine G.nil (EN.then (CG.ret (EN.then_ret (EN.ownNil 30 7 ?_))))
    rw [hE]
    exact fin_ret2 rfl rfl rfl tK sF (⟨_, rfl, rfl⟩) _ (.inl rfl)
   ·
    have hE : allE s = (l, 0) := by rw [hE0, ← hgo]; exact if_neg oM
    refine CG.skip (EN.tsr (G.mv ?_))
    refine G.as ?_
    refine G.as ?_
    refine G.nil (EN.then (CG.ret (EN.ownNil 30 7 ?_)))
    rw [hE]
    exact fin_ret2 rfl rfl rfl tK sF (⟨_, rfl, rfl⟩) _ (.inl rfl)

end Go.Eng
/-
  Deltas written: sized, copyOf, Make.
-/
set_option linter.unusedVariables false
set_option linter.unusedSimpArgs false
namespace Go.Eng
open Go.Proofs
theorem ik_5_F17 : intK Tryz.prog 5 = some .u8 := by kernel_rfl

def PlP (b : Nat) (p : List UInt8) (v : Value) : List HP := [cel b 80 [v], ownO 5 1 v p.length (p.map u8v)]
def PlAt (b : Nat) (p : List UInt8) : HP := exS (PlP b p)
def OuP (b : Nat) (p : List UInt8) (v : Value) : List HP := [cel b 80 [v], own 5 1 v p.length (p.map u8v)]
def OuAt (b : Nat) (p : List UInt8) : HP := exS (OuP b p)
theorem own_snoc8 {e : Nat} {u : Value} {l : List UInt8} {c : UInt8} : own e 1 u (l.length + 1) (l.map u8v ++ [.int .u8 (c.toNat : Int)]) = own e 1 u (l ++ [c]).length ((l ++ [c]).map u8v) := by simp [u8v]
theorem u8i_nat (n : Nat) : u8i (n : Int) = UInt8.ofNat n := by unfold u8i; apply UInt8.toNat_inj.1; simp; omega

attribute [local irreducible] cel own exS ownG tabH

set_option maxRecDepth 100000 in
set_option maxHeartbeats 1000000 in
theorem sized_spec (n : Nat) (hn : n ≤ 1000000000) : Spec Tryz.prog 64 #[.int .i64 n] [] (Ret fun v hl => hl = [own 5 1 v (Dlt.sized n).length ((Dlt.sized n).map u8v)]) := by
 refine Spec.enter Tryz.func64 rfl rfl rfl (fun F w0 => ?_)
 dsimp only [argL, List.cons_append, List.nil_append]
 refine CG.sr (G.as ?_)
 refine G.nil (EN.tsr (G.as ?_))
 refine G.nil (EN.ts (CG.block (CG.ownNil 5 1 ?_)))
 refine CG.loopI (fun m L H => ∃ (v : Value) (l : List UInt8), m ≤ n ∧ l.length + m ≤ n ∧ l ++ Dlt.sized m = Dlt.sized n ∧ L = [(0, .int .i64 m), (3, v)] ∧ H = [own 5 1 v l.length (l.map u8v)] ++ F) (n) (hl := [_]) (⟨_, [], Nat.le_refl _, by simp, rfl, rfl, rfl⟩) sB rfl tK sF ?_
 rintro m L H ⟨v, l, hm, hl, hgo, rfl, rfl⟩
 try dsimp only [List.cons_append, List.nil_append]
 refine CG.seq (CG.sr (G.mv ?_))
 refine G.q rfl rfl rfl rfl (q_geq rfl rfl rfl) (G.nil (EN.then ?_))
 refine CG.cond rfl (fun h5 => ?_) (fun h5 => ?_)
 ·
  rw [Dlt.sized, dif_pos oM] at hgo
  have esh : (m : Int) / 128 = ((m / 128 : Nat) : Int) := by omega
  refine CG.skip (EN.ts (CG.block (CG.reg (G.mv ?_))))
  refine G.mv ?_
  refine G.q rfl rfl rfl rfl (q_conv_u8 rfl rfl is_3_F4 ik_5_F17) (G.q rfl rfl rfl rfl (q_or rfl rfl rfl) ?_)
  rw [Dlt.or128]
  refine G.e rfl rfl rfl rfl (e_bslice rfl rfl (bs_80_1_all_F2 _)) (fun _ _ _ _ _ _ => trivial) ?_
  rintro _ _ ⟨b12, rfl, rfl⟩
  refine G.e rfl rfl rfl rfl (e_append rfl rfl rfl se_80_F2 nf_5_F2 rfl tK1 mB (by rfl) (by simp [Value.oneCell', str]) oM) (fun _ _ _ _ _ _ => trivial) ?_
  rintro _ _ rfl
  rw [own_snoc8]
  refine G.ownShape tK1 ?_
  rintro ad c2 rfl
  refine G.as ?_
  refine G.nil (EN.in_normal (EN.tr ?_))
  refine G.mv ?_
  refine G.q rfl rfl rfl rfl (q_shrc (d := 128) rfl rfl rfl (by decide) (by decide)) (G.as ?_)
  refine G.nil ?_
  rw [esh]
  exact EN.round (hl := [_]) (m / 128) oM (⟨_, l ++ [UInt8.ofNat (m % 128 + 128)], by omega, by simp; omega, by rw [List.append_assoc]; exact hgo, rfl, rfl⟩) sB rfl tK sF
 ·
  rw [Dlt.sized, dif_neg oM] at hgo
  have hl2 : l.length ≤ n := by omega
  refine CG.exit ?_
  refine EN.then_exit (EN.then_exit (EN.in_here ?_))
  refine EN.tsr (G.mv ?_)
  refine G.mv ?_
  refine G.q rfl rfl rfl rfl (q_conv_u8 rfl rfl is_3_F4 ik_5_F17) ?_
  rw [u8i_nat]
  refine G.e rfl rfl rfl rfl (e_bslice rfl rfl (bs_80_1_all_F2 _)) (fun _ _ _ _ _ _ => trivial) ?_
  rintro _ _ ⟨b17, rfl, rfl⟩
  refine G.e rfl rfl rfl rfl (e_append rfl rfl rfl se_80_F2 nf_5_F2 rfl tK1 mB (by rfl) (by simp [Value.oneCell', str]) oM) (fun _ _ _ _ _ _ => trivial) ?_
  rintro _ _ rfl
  rw [own_snoc8]
  refine G.as ?_
  refine G.nil (EN.sub (sC 2 Sub.nil) ?_)
  refine EN.then (CG.ret ?_)
  rw [hgo]
  exact fin_ret1 rfl rfl tK sF (rfl) _ (.inl rfl)

set_option maxRecDepth 100000 in
set_option maxHeartbeats 1000000 in
theorem copyOf_spec (o n : Nat) (ho : o ≤ 1000000000) (hn : n ≤ 1000000000) : Spec Tryz.prog 66 #[.int .i64 o, .int .i64 n] [] (Ret fun v hl => hl = [own 5 1 v (Dlt.copyOf o n).length ((Dlt.copyOf o n).map u8v)]) := by
 refine Spec.enter Tryz.func66 rfl rfl rfl (fun F w0 => ?_)
 dsimp only [argL, List.cons_append, List.nil_append]
 refine CG.sr (G.as ?_)
 refine G.nil (EN.tsr (G.e rfl rfl rfl rfl (e_bslice rfl rfl (bs_80_1_all_F2 _)) (fun _ _ _ _ _ _ => trivial) ?_))
 rintro _ _ ⟨b8, rfl, rfl⟩
 refine G.as ?_
 refine G.nil (EN.ts (CG.sr (G.mv ?_)))
 refine G.nil (EN.then (CG.block (CG.closeOwn (g := b8) (sz := 1) (n := 1) (cap := 1) (xs := (Dlt.cpL o n 0).map u8v) tK1 (by decide) (by decide) rfl rfl ?_)))
 refine CG.loopI (fun m L H => ∃ k : Nat, ∃ (v : Value), k ≤ 7 ∧ m = (7) - k ∧ L = [(0, .int .i64 o), (1, .int .i64 n), (5, v), (9, .int .i64 k)] ∧ H = [own 5 1 v (Dlt.cpL o n k).length ((Dlt.cpL o n k).map u8v)] ++ F) ((7) - 0) (hl := [_]) (⟨0, _, Nat.zero_le _, rfl, rfl, rfl⟩) sB rfl tK sF ?_
 rintro m L H ⟨k, v, hk, rfl, rfl, rfl⟩
 try dsimp only [List.cons_append, List.nil_append]
 have hcl := Dlt.cpL_len o n k
 have hfl := Dlt.flags_lt o n k
 refine CG.sr (G.q rfl rfl rfl rfl (q_lss rfl rfl rfl) (G.nil (EN.ts ?_)))
 refine CG.cond rfl (fun h10 => ?_) (fun h10 => ?_)
 ·
  have hk2 : k < 7 := by omega
  refine CG.skip (EN.ts (CG.block (CG.sr (G.mv ?_))))
  refine G.as ?_
  refine G.nil (EN.tsr (G.mv ?_))
  refine G.mv ?_
  refine G.q rfl rfl rfl rfl (q_mul_i rfl rfl rfl oM) (G.q rfl rfl rfl rfl (q_shr rfl rfl rfl oM) ?_)
  rw [Dlt.shr8 o k oM]
  obtain ⟨q1, hq1⟩ : ∃ q, o / 2 ^ (8 * k) = q := ⟨_, rfl⟩
  have hq3 : q1 ≤ o := hq1 ▸ Nat.div_le_self _ _
  rw [hq1]
  refine G.q rfl rfl rfl rfl (q_andm (j := 8) (d := 256) rfl rfl rfl lOm lOm (by decide) (by decide) (by decide)) (G.as ?_)
  refine G.nil (EN.then ?_)
  refine CG.cut (fun L H => L = [(0, .int .i64 o), (1, .int .i64 n), (5, v), (6, .int .i64 k), (7, .int .i64 (Dlt.cx o n k)), (9, .int .i64 k)] ∧ H = [own 5 1 v (Dlt.cpL o n k).length ((Dlt.cpL o n k).map u8v)] ++ F) ?_ ?_
  ·
   refine CG.sr (G.mv ?_)
   refine G.q rfl rfl rfl rfl (q_geq rfl rfl rfl) (G.nil (EN.then ?_))
   refine CG.cond rfl (fun h18 => ?_) (fun h18 => ?_)
   ·
    have e4 : (k : Int) - 4 = ((k - 4 : Nat) : Int) := by omega
    refine CG.reg (G.mv ?_)
    refine G.mv ?_
    refine G.q rfl rfl rfl rfl (q_sub_i rfl rfl rfl oM) ?_
    rw [e4]
    refine G.q rfl rfl rfl rfl (q_mul_i rfl rfl rfl oM) (G.q rfl rfl rfl rfl (q_shr rfl rfl rfl oM) ?_)
    rw [Dlt.shr8 n (k - 4) oM]
    obtain ⟨q2, hq2⟩ : ∃ q, n / 2 ^ (8 * (k - 4)) = q := ⟨_, rfl⟩
    have hq4 : q2 ≤ n := hq2 ▸ Nat.div_le_self _ _
    rw [hq2]
    have hcx : (q2 : Int) % 256 = (Dlt.cx o n k : Nat) := by unfold Dlt.cx; rw [if_pos oM, hq2]; omega
    refine G.q rfl rfl rfl rfl (q_andm (j := 8) (d := 256) rfl rfl rfl lOm lOm (by decide) (by decide) (by decide)) (G.as ?_)
    refine G.nil (EN.sub (sC 0 (sC 1 (sC 5 (sC 6 (sC 7 (sC 9 Sub.nil)))))) ?_)
    rw [hcx]
    exact EN.cut (hl := [_]) (⟨rfl, rfl⟩) sB rfl tK sF
   ·
    have hcx : (q1 : Int) % 256 = (Dlt.cx o n k : Nat) := by unfold Dlt.cx; rw [if_neg oM, hq1]; omega
    refine CG.skip ?_
    rw [hcx]
    exact EN.cut (hl := [_]) (⟨rfl, rfl⟩) sB rfl tK sF
  ·
   rintro L H ⟨rfl, rfl⟩
   try dsimp only [List.cons_append, List.nil_append]
   refine CG.sr (G.mv ?_)
   refine G.q rfl rfl rfl rfl (q_neq rfl rfl rfl) (G.mv ?_)
   refine G.split (t := 27) rfl (fun g27 => ?_) (fun g27 => ?_)
   ·
    have hcn : Dlt.cx o n k ≠ 0 := by omega
    refine G.mv ?_
    refine G.q rfl rfl rfl rfl (q_eql rfl rfl rfl) (G.mv ?_)
    refine G.split (t := 30) rfl (fun g30 => ?_) (fun g30 => ?_)
    ·
     refine G.mv ?_
     refine G.q rfl rfl rfl rfl (q_eql rfl rfl rfl) (G.q rfl rfl rfl rfl (q_pick_t rfl rfl rfl) (G.q rfl rfl rfl rfl (q_not rfl rfl) (G.q rfl rfl rfl rfl (q_pick_t rfl rfl rfl) (G.nil (EN.sub (sC 0 (sC 1 (sC 5 (sC 6 (sC 7 (sC 9 (sC 35 Sub.nil))))))) ?_)))))
     refine EN.then ?_
     refine CG.condB rfl (fun h35 => ?_) (fun h35 => ?_)
     ·
      have htk := Dlt.takes_yes hcn (fun h => by simp at h35; omega)
      have hst := Dlt.cpL_yes htk
      refine CG.seq ?_
      refine CG.openOwn tK1 hcl.2 (fun g cap cur hv hcap hmx hcr hct => ?_)
      subst hv
      have h0 : nth cur 0 = some (.int .u8 ((128 + Dlt.flags o n k : Nat) : Int)) := by
        rw [← Dlt.head_val o n oM]; exact nth_take hct (by simp [Dlt.cpL, u8v])
      have h0l : 0 < cur.length := by omega
      have hset := Huff.set_of (x := .int .u8 ((128 + Dlt.flags o n k + 2 ^ k : Nat) : Int)) h0l
      have hcp := Dlt.cpL_set hct (x := .int .u8 ((128 + Dlt.flags o n k + 2 ^ k : Nat) : Int)) (by unfold u8v; rw [Dlt.head2 hfl hk2])
      have hcq : (Dlt.cpL o n k).length = (UInt8.ofNat (128 + Dlt.flags o n k + 2 ^ k) :: Dlt.copyL o n k).length := rfl
      refine CG.regT [] mixed (by kernel_rfl) ?_
      refine G.mv ?_
      refine G.q rfl rfl rfl rfl (q_ixaddr1 rfl rfl rfl se_80_F2 sz_5_F6 (hcl.2)) (G.r rfl rfl rfl rfl (r_load rfl rfl ag_5_F6 .here (h0)) ?_)
      refine G.mv ?_
      refine G.q rfl rfl rfl rfl (q_shl rfl rfl rfl oM) ?_
      rw [Dlt.shl1 hk2]
      refine G.q rfl rfl rfl rfl (q_or rfl rfl rfl) ?_
      rw [Dlt.flag_or hk2 hfl]
      refine G.q rfl rfl rfl rfl (q_ixaddr1 rfl rfl rfl se_80_F2 sz_5_F6 (hcl.2)) ?_
      refine G.e0 rfl rfl rfl (e_store rfl rfl rfl sz_5_F6 rfl (hset) .here) (fun _ _ _ _ _ _ => trivial) ?_
      rintro _ _ ⟨rfl, rfl⟩
      refine G.nil (EN.sub (sC 0 (sC 1 (sC 5 (sC 7 (sC 9 Sub.nil))))) ?_)
      refine EN.then (CG.closeOwn (g := g) (sz := 1) tK1 hcap hmx (by simpa using hcr) hcp ?_)
      rw [hcq]
      refine CG.reg (G.mv ?_)
      refine G.mv ?_
      refine G.q rfl rfl rfl rfl (q_conv_u8 rfl rfl is_3_F4 ik_5_F17) ?_
      rw [u8i_nat]
      refine G.e rfl rfl rfl rfl (e_bslice rfl rfl (bs_80_1_all_F2 _)) (fun _ _ _ _ _ _ => trivial) ?_
      rintro _ _ ⟨b46, rfl, rfl⟩
      refine G.e rfl rfl rfl rfl (e_append rfl rfl rfl se_80_F2 nf_5_F2 rfl tK1 mB (by rfl) (by simp [Value.oneCell', str]) oM) (fun _ _ _ _ _ _ => trivial) ?_
      rintro _ _ rfl
      rw [own_snoc8]
      refine G.ownShape tK1 ?_
      rintro ad c2 rfl
      refine G.as ?_
      refine G.nil (EN.in_normal (EN.tr ?_))
      refine G.q rfl rfl rfl rfl (q_add_i rfl rfl rfl oM) (G.mv ?_)
      refine G.nil ?_
      rw [hst]
      exact EN.round (hl := [_]) ((7) - (k + 1)) oM (⟨k + 1, _, by omega, rfl, rfl, rfl⟩) sB rfl tK sF
     ·
      have hst := Dlt.cpL_no (o := o) (n := n) (k := k) (Dlt.takes_no (.inr (by simp at h35; omega)))
      refine CG.skip (EN.in_normal (EN.tr ?_))
      refine G.q rfl rfl rfl rfl (q_add_i rfl rfl rfl oM) (G.mv ?_)
      refine G.nil ?_
      rw [hst]
      exact EN.round (hl := [_]) ((7) - (k + 1)) oM (⟨k + 1, _, by omega, rfl, rfl, rfl⟩) sB rfl tK sF
    ·
     have htk := Dlt.takes_yes hcn (fun h => g30 oM)
     have hst := Dlt.cpL_yes htk
     refine G.skip rfl rfl rfl (G.skip rfl rfl rfl (G.q rfl rfl rfl rfl (q_pick_f rfl rfl rfl) (G.q rfl rfl rfl rfl (q_not rfl rfl) (G.q rfl rfl rfl rfl (q_pick_t rfl rfl rfl) (G.nil ?_)))))
     refine EN.sub (sC 0 (sC 1 (sC 5 (sC 6 (sC 7 (sC 9 (sC 35 Sub.nil))))))) ?_
     refine EN.then (CG.cond_t rfl ?_)
     refine CG.seq ?_
     refine CG.openOwn tK1 hcl.2 (fun g cap cur hv hcap hmx hcr hct => ?_)
     subst hv
     have h0 : nth cur 0 = some (.int .u8 ((128 + Dlt.flags o n k : Nat) : Int)) := by
       rw [← Dlt.head_val o n oM]; exact nth_take hct (by simp [Dlt.cpL, u8v])
     have h0l : 0 < cur.length := by omega
     have hset := Huff.set_of (x := .int .u8 ((128 + Dlt.flags o n k + 2 ^ k : Nat) : Int)) h0l
     have hcp := Dlt.cpL_set hct (x := .int .u8 ((128 + Dlt.flags o n k + 2 ^ k : Nat) : Int)) (by unfold u8v; rw [Dlt.head2 hfl hk2])
     have hcq : (Dlt.cpL o n k).length = (UInt8.ofNat (128 + Dlt.flags o n k + 2 ^ k) :: Dlt.copyL o n k).length := rfl
     refine CG.regT [] mixed (by kernel_rfl) ?_
     refine G.mv ?_
     refine G.q rfl rfl rfl rfl (q_ixaddr1 rfl rfl rfl se_80_F2 sz_5_F6 (hcl.2)) (G.r rfl rfl rfl rfl (r_load rfl rfl ag_5_F6 .here (h0)) ?_)
     refine G.mv ?_
     refine G.q rfl rfl rfl rfl (q_shl rfl rfl rfl oM) ?_
     rw [Dlt.shl1 hk2]
     refine G.q rfl rfl rfl rfl (q_or rfl rfl rfl) ?_
     rw [Dlt.flag_or hk2 hfl]
     refine G.q rfl rfl rfl rfl (q_ixaddr1 rfl rfl rfl se_80_F2 sz_5_F6 (hcl.2)) ?_
     refine G.e0 rfl rfl rfl (e_store rfl rfl rfl sz_5_F6 rfl (hset) .here) (fun _ _ _ _ _ _ => trivial) ?_
     rintro _ _ ⟨rfl, rfl⟩
     refine G.nil (EN.sub (sC 0 (sC 1 (sC 5 (sC 7 (sC 9 Sub.nil))))) ?_)
     refine EN.then (CG.closeOwn (g := g) (sz := 1) tK1 hcap hmx (by simpa using hcr) hcp ?_)
     rw [hcq]
     refine CG.reg (G.mv ?_)
     refine G.mv ?_
     refine G.q rfl rfl rfl rfl (q_conv_u8 rfl rfl is_3_F4 ik_5_F17) ?_
     rw [u8i_nat]
     refine G.e rfl rfl rfl rfl (e_bslice rfl rfl (bs_80_1_all_F2 _)) (fun _ _ _ _ _ _ => trivial) ?_
     rintro _ _ ⟨b46, rfl, rfl⟩
     refine G.e rfl rfl rfl rfl (e_append rfl rfl rfl se_80_F2 nf_5_F2 rfl tK1 mB (by rfl) (by simp [Value.oneCell', str]) oM) (fun _ _ _ _ _ _ => trivial) ?_
     rintro _ _ rfl
     rw [own_snoc8]
     refine G.ownShape tK1 ?_
     rintro ad c2 rfl
     refine G.as ?_
     refine G.nil (EN.in_normal (EN.tr ?_))
     refine G.q rfl rfl rfl rfl (q_add_i rfl rfl rfl oM) (G.mv ?_)
     refine G.nil ?_
     rw [hst]
     exact EN.round (hl := [_]) ((7) - (k + 1)) oM (⟨k + 1, _, by omega, rfl, rfl, rfl⟩) sB rfl tK sF
   ·
    have hst := Dlt.cpL_no (o := o) (n := n) (k := k) (Dlt.takes_no (.inl oM))
    refine G.skip rfl rfl rfl (G.skip rfl rfl rfl (G.skip rfl rfl rfl (G.skip rfl rfl rfl (G.skip rfl rfl rfl (G.skip rfl rfl rfl ?_)))))
    refine G.skip rfl rfl rfl (G.q rfl rfl rfl rfl (q_pick_f rfl rfl rfl) (G.nil (EN.sub (sC 0 (sC 1 (sC 5 (sC 6 (sC 7 (sC 9 (sC 35 Sub.nil))))))) ?_)))
    refine EN.then (CG.cond_f rfl ?_)
    refine CG.skip (EN.in_normal (EN.tr ?_))
    refine G.q rfl rfl rfl rfl (q_add_i rfl rfl rfl oM) (G.mv ?_)
    refine G.nil ?_
    rw [hst]
    exact EN.round (hl := [_]) ((7) - (k + 1)) oM (⟨k + 1, _, by omega, rfl, rfl, rfl⟩) sB rfl tK sF
 ·
  obtain rfl : k = 7 := by omega
  refine CG.exit ?_
  refine EN.then_exit (EN.then_exit (EN.in_here ?_))
  refine EN.tsr (G.mv ?_)
  refine G.as ?_
  refine G.nil (EN.then (CG.ret ?_))
  exact fin_ret1 rfl rfl tK sF (rfl) _ (.inl rfl)

theorem plDrop {e n : Nat} {v : Value} {p : List UInt8} : ownO e 1 v (p.length - n) ((p.map u8v).drop (n * 1)) = ownO e 1 v (p.drop n).length ((p.drop n).map u8v) := by simp
theorem own_takeB {e n : Nat} {u : Value} {l p : List UInt8} (h : n ≤ p.length) : own e 1 u (l.length + n) (l.map u8v ++ (p.map u8v).take (n * 1)) = own e 1 u (l ++ p.take n).length ((l ++ p.take n).map u8v) := by
  have : (l ++ p.take n).length = l.length + n := by simp; omega
  rw [this]; simp [List.map_take]
theorem ownO_snoc8 {z : Bool} {e : Nat} {u : Value} {l : List UInt8} {c : UInt8} : ownG z e 1 u (l.length + 1) (l.map u8v ++ [.int .u8 (c.toNat : Int)]) = ownG z e 1 u (l ++ [c]).length ((l ++ [c]).map u8v) := by simp [u8v]
theorem own_app8 {e : Nat} {u : Value} {l m : List UInt8} : own e 1 u (l.length + m.length) (l.map u8v ++ m.map u8v) = own e 1 u (l ++ m).length ((l ++ m).map u8v) := by simp
theorem min127 (n : Nat) : (if (127 : Int) < (n : Int) then (127 : Int) else (n : Int)) = ((min n 127 : Nat) : Int) := by split <;> omega

set_option maxRecDepth 100000 in
set_option maxHeartbeats 1000000 in
theorem flush_spec (bp bo : Nat) (p o : List UInt8) (hp : p.length ≤ 1000000) (ho : o.length ≤ 100000000) : Spec Tryz.prog 65 #[.pointer (some ⟨bp, 0, none⟩), .pointer (some ⟨bo, 0, none⟩)] [PlAt bp p, OuAt bo o] (Ret fun v hl => v = .tuple #[] ∧ hl = [PlAt bp [], OuAt bo (o ++ Dlt.plain p)]) := by
 refine Spec.enter Tryz.func65 rfl rfl rfl (fun F w0 => ?_)
 dsimp only [argL, List.cons_append, List.nil_append]
 refine CG.block (CG.loopI (fun m L H => ∃ p1 o1 : List UInt8, o1 ++ Dlt.plain p1 = o ++ Dlt.plain p ∧ m = p1.length ∧ p1.length ≤ 1000000 ∧ o1.length + 2 * p1.length ≤ 102000000 ∧ L = [(0, .pointer (some ⟨bp, 0, none⟩)), (1, .pointer (some ⟨bo, 0, none⟩))] ∧ H = [PlAt bp p1, OuAt bo o1] ++ F) (p.length) (hl := [_, _]) (⟨p, o, rfl, rfl, hp, by omega, rfl, rfl⟩) sB rfl tK sF ?_)
 rintro m L H ⟨p1, o1, hgo, rfl, hp1, ho1, rfl, rfl⟩
 try dsimp only [List.cons_append, List.nil_append]
 refine CG.openS (PlP bp p1) tK1 (fun pv => ?_)
 unfold PlP
 refine CG.openS (OuP bo o1) tK1 (fun ov => ?_)
 unfold OuP
 try dsimp only [List.cons_append, List.nil_append]
 refine CG.fact (p := ownO 5 1 pv p1.length (p1.map u8v)) tK1 (fun _ hh => ownG_shape hh) (fun hsp => ?_)
 obtain ⟨hs1, hs2, ad, c, rfl, hc⟩ := hsp
 refine CG.seq (CG.sr (G.ld ag_80_F2 ?_))
 refine G.q rfl rfl rfl rfl (q_len_sl rfl rfl se_80_F2) (G.q rfl rfl rfl rfl (q_gtr rfl rfl rfl) (G.nil (EN.then ?_)))
 refine CG.cond rfl (fun h5 => ?_) (fun h5 => ?_)
 ·
  have hne : p1 ≠ [] := fun h => by rw [h] at h5; simp at h5
  obtain ⟨n, hn⟩ : ∃ n, min p1.length 127 = n := ⟨_, rfl⟩
  have hgo2 : o1 ++ [UInt8.ofNat n] ++ p1.take n ++ Dlt.plain (p1.drop n) = o ++ Dlt.plain p := by
    rw [← hgo, Dlt.plain.eq_1 p1, dif_neg hne, hn]; simp
  have hpl := List.length_pos_iff.2 hne
  refine CG.skip (EN.then (CG.block (CG.sr (G.ld ag_80_F2 ?_))))
  refine G.q rfl rfl rfl rfl (q_len_sl rfl rfl se_80_F2) (G.q rfl rfl rfl rfl (q_min rfl rfl rfl) ?_)
  rw [min127, hn]
  refine G.as ?_
  refine G.nil (EN.ts ?_)
  refine CG.regZ [11, 9, 14] (Keeps _ [cel bp 80 [.slice ad p1.length c], cel bo 80 [ov]]) mixed (by kernel_rfl) (fun w hw => Keeps.of hw tK) ?_
  refine G.rK rfl rfl rfl rfl rfl (fun R => r_load rfl rfl ag_80_F2 mB rfl) ?_
  refine G.mv ?_
  refine G.q rfl rfl rfl rfl (q_conv_u8 rfl rfl is_3_F4 ik_5_F17) ?_
  rw [u8i_nat]
  refine G.e rfl rfl rfl rfl (e_bslice rfl rfl (bs_80_1_all_F2 _)) (fun _ _ _ w hR hw => by obtain ⟨_, _, rfl⟩ := hR; exact Keeps.of hw tK) ?_
  rintro _ _ ⟨b12, rfl, rfl⟩
  refine G.e rfl rfl rfl rfl (e_append rfl rfl rfl se_80_F2 nf_5_F2 rfl tK1 mB (by rfl) (by simp [Value.oneCell', str]) oM) (fun _ _ _ w hR hw => by subst hR; exact Keeps.of hw tK) ?_
  rintro _ _ rfl
  rw [own_snoc8]
  refine G.rK rfl rfl rfl rfl rfl (fun R => r_load rfl rfl ag_80_F2 mB rfl) ?_
  refine G.mv ?_
  refine G.q rfl rfl rfl rfl (q_slsl_hi rfl rfl rfl se_80_F2 sz_5_F6 oM) (G.e rfl rfl rfl rfl (e_appendA rfl rfl rfl se_80_F2 nf_5_F2 rfl tK1 (src_hi se_80_F2 mB (u8_one _) oM) (by simp; omega)) (fun _ _ _ w hR hw => by subst hR; exact Keeps.of hw tK) ?_)
  rintro _ _ rfl
  rw [own_takeB oM]
  refine G.ownShape tK1 ?_
  rintro ad2 c2 rfl
  refine G.stZ sz_80_F2 ?_
  refine G.nil (EN.sub (sC 0 (sC 1 (sC 2 Sub.nil))) ?_)
  refine EN.tr ?_
  refine G.ld ag_80_F2 ?_
  refine G.mv ?_
  refine G.q rfl rfl rfl rfl (q_slO_lo rfl rfl rfl se_80_F2 sz_5_F6 oM (hc)) ?_
  refine G.st0 sz_80_F2 ?_
  refine G.nil (EN.in_normal (EN.imp (q := ownO 5 1 (slLo 1 (.slice ad p1.length c) n) (p1.length - n) ((p1.map u8v).drop (n * 1))) tK1 (fun h hh => ownG_lo hh oM) ?_))
  rw [plDrop]
  refine EN.closeS (PlP bp (p1.drop n)) _ tK ?_
  refine EN.closeS (OuP bo (o1 ++ [UInt8.ofNat n] ++ p1.take n)) _ tK ?_
  exact EN.round (hl := [_, _]) ((p1.drop n).length) (by simp; omega) (⟨p1.drop n, o1 ++ [UInt8.ofNat n] ++ p1.take n, hgo2, rfl, by simp; omega, by simp; omega, rfl, rfl⟩) sB rfl tK sF
 ·
  obtain rfl : p1 = [] := List.eq_nil_of_length_eq_zero oM
  have hgo2 : o1 = o ++ Dlt.plain p := by rw [← hgo, Dlt.plain, dif_pos rfl, List.append_nil]
  refine CG.exit ?_
  refine EN.then_exit (EN.then_exit (EN.in_here ?_))
  refine EN.closeS (PlP bp []) _ tK ?_
  refine EN.closeS (OuP bo o1) _ tK ?_
  rw [hgo2]
  exact fin_ret0 rfl tK sF (⟨rfl, rfl⟩) _ (.inr rfl)

end Go.Eng
/-
  Deltas written: Make.
-/
set_option linter.unusedVariables false
set_option linter.unusedSimpArgs false
namespace Go.Eng
open Go.Proofs
theorem bT_80_9_F18 : bytesT Tryz.prog 80 9 = some 5 := by kernel_rfl
theorem bd_64_F18 : bodied Tryz.prog 64 = true := by kernel_rfl
theorem bd_65_F18 : bodied Tryz.prog 65 = true := by kernel_rfl
theorem bd_66_F18 : bodied Tryz.prog 66 = true := by kernel_rfl
theorem ik_5_F18 : intK Tryz.prog 5 = some .u8 := by kernel_rfl
theorem mE_107_F18 : mapE Tryz.prog 107 = some (9, 3) := by kernel_rfl
theorem zB_3_F18 : zeroB Tryz.prog 3 = some (.int .i64 0) := by kernel_rfl
theorem zl_80_F18 : zeroL Tryz.prog 80 = some [.slice none 0 0] := by kernel_rfl

attribute [local irreducible] cel own exS ownG tabH mapH Dlt.copyOf

theorem own_headB {e : Nat} {u : Value} {s t : List UInt8} : own e 1 u ((Dlt.sized s.length).length + (Dlt.sized t.length).length) ((Dlt.sized s.length).map u8v ++ (Dlt.sized t.length).map u8v) = own e 1 u (Dlt.head s t).length ((Dlt.head s t).map u8v) := by simp [Dlt.head]

set_option maxRecDepth 100000 in
set_option maxHeartbeats 1000000 in
theorem make_spec (s t : List UInt8) (hs : s.length ≤ 65000) (ht : t.length ≤ 65000) : Spec Tryz.prog 38 #[str s, str t] [] (Ret fun v hl => v = str (Dlt.make s t) ∧ hl = []) := by
 have hz1 := Dlt.sized_le s.length oM
 have hz2 := Dlt.sized_le t.length oM
 have hhl : (Dlt.head s t).length ≤ 6 := by simp [Dlt.head]; omega
 have hll := Dlt.long_len s t oM oM
 have hpl := Dlt.plain_len t
 refine Spec.enter Tryz.func38 rfl rfl rfl (fun F w0 => ?_)
 dsimp only [argL, List.cons_append, List.nil_append]
 refine CG.sr (G.as ?_)
 refine G.nil (EN.tsr (G.mv ?_))
 refine G.q rfl rfl rfl rfl (q_len_str rfl rfl us_9_F1) (G.call (xs := [_]) rfl rfl (sized_spec s.length oM) bd_64_F18 rfl rfl rfl rfl tK (fun _ _ _ _ _ _ => trivial) ?_)
 rintro v20 _ rfl
 try dsimp only [List.cons_append, List.nil_append]
 refine G.mv ?_
 refine G.q rfl rfl rfl rfl (q_len_str rfl rfl us_9_F1) (G.call (xs := [_]) rfl rfl (sized_spec t.length oM) bd_64_F18 rfl rfl rfl rfl tK (fun _ _ _ _ _ _ => trivial) ?_)
 rintro v23 _ rfl
 try dsimp only [List.cons_append, List.nil_append]
 refine G.e rfl rfl rfl rfl (e_appendA rfl rfl rfl se_80_F2 nf_5_F2 rfl tK1 (src_own se_80_F2 mB (u8_one _)) oM) (fun _ _ _ _ _ _ => trivial) ?_
 rintro _ _ rfl
 rw [own_headB]
 refine G.ownShape tK1 ?_
 rintro ad24 c24 rfl
 refine G.e rfl rfl rfl rfl (e_alloc rfl zl_80_F18) (fun _ _ _ _ _ _ => trivial) ?_
 rintro _ _ ⟨b5, rfl, rfl⟩
 refine G.st0 sz_80_F2 ?_
 refine G.nil (EN.tsr (G.e rfl rfl rfl rfl (e_makeMap str rfl) (fun _ _ _ _ _ _ => trivial) ?_))
 rintro _ _ ⟨bm, rfl, rfl⟩
 refine G.as ?_
 refine G.nil (EN.ts (CG.sr (G.as ?_)))
 refine G.nil (EN.then (CG.block (CG.closeS (OuP b5 (Dlt.head s t)) _ tK ?_)))
 refine CG.loopI (fun m L H => ∃ k : Nat, k ≤ (s.length - 3) ∧ m = ((s.length - 3)) - k ∧ L = [(0, str s), (1, str t), (5, .pointer (some ⟨b5, 0, none⟩)), (6, .map (some bm)), (7, .int .i64 k)] ∧ H = [OuAt b5 (Dlt.head s t), mapH str bm (fun x => (Dlt.firsts s k x).map iv)] ++ F) (((s.length - 3)) - 0) (hl := [_, _]) (⟨0, Nat.zero_le _, rfl, rfl, rfl⟩) sB rfl tK sF ?_
 rintro m L H ⟨k, hk, rfl, rfl, rfl⟩
 try dsimp only [List.cons_append, List.nil_append]
 have e4 : (k : Int) + 4 = ((k + 4 : Nat) : Int) := by omega
 refine CG.seq (CG.sr (G.mv ?_))
 refine G.q rfl rfl rfl rfl (q_add_i rfl rfl rfl oM) (G.mv ?_)
 refine G.q rfl rfl rfl rfl (q_len_str rfl rfl us_9_F1) (G.q rfl rfl rfl rfl (q_leq rfl rfl rfl) (G.nil (EN.then ?_)))
 refine CG.cond rfl (fun h30 => ?_) (fun h30 => ?_)
 ·
  have hk4 : k + 4 ≤ s.length := by omega
  refine CG.skip (EN.ts (CG.block (CG.seq ?_)))
  rcases hse : Dlt.firsts s k ((s.take (k + 4)).drop k) with _ | a
  ·
   refine CG.reg (G.mv ?_)
   refine G.mv ?_
   refine G.mv ?_
   refine G.mv ?_
   refine G.q rfl rfl rfl rfl (q_add_i rfl rfl rfl oM) ?_
   rw [e4]
   refine G.q rfl rfl rfl rfl (q_slice_lh rfl rfl rfl rfl us_9_F1 oM) (G.r rfl rfl rfl rfl (r_lookup (kv := str) rfl rfl rfl mE_107_F18 (keyStr us_9_F1) zB_3_F18 mB) ?_)
   try dsimp only [if_true, Bool.false_eq_true, if_false]
   rw [hse, Option.map_none, Option.getD_none, Option.isSome_none]
   have hnt := Dlt.note_upd hse
   refine G.mv ?_
   refine G.q rfl rfl rfl rfl (q_extract rfl rfl rfl) (G.q rfl rfl rfl rfl (q_extract rfl rfl rfl) (G.as ?_))
   refine G.as ?_
   refine G.nil (EN.sub (sC 0 (sC 1 (sC 5 (sC 6 (sC 7 (sC 9 Sub.nil)))))) ?_)
   refine EN.tsr (G.mv ?_)
   refine G.q rfl rfl rfl rfl (q_not rfl rfl) (G.nil (EN.then (CG.cond_t rfl ?_)))
   refine CG.reg (G.mv ?_)
   refine G.mv ?_
   refine G.mv ?_
   refine G.mv ?_
   refine G.q rfl rfl rfl rfl (q_add_i rfl rfl rfl oM) ?_
   rw [e4]
   refine G.q rfl rfl rfl rfl (q_slice_lh rfl rfl rfl rfl us_9_F1 oM) (G.mv ?_)
   refine G.mu0 (kv := str) mE_107_F18 (keyStr us_9_F1) ?_
   refine G.nil (EN.sub (sC 0 (sC 1 (sC 5 (sC 6 (sC 7 Sub.nil))))) ?_)
   refine EN.in_normal (EN.tr ?_)
   refine G.mv ?_
   refine G.q rfl rfl rfl rfl (q_add_i rfl rfl rfl oM) (G.as ?_)
   refine G.nil ?_
   rw [hnt]
   exact EN.round (hl := [_, _]) (((s.length - 3)) - (k + 1)) oM (⟨k + 1, by omega, rfl, rfl, rfl⟩) sB rfl tK sF
  ·
   refine CG.reg (G.mv ?_)
   refine G.mv ?_
   refine G.mv ?_
   refine G.mv ?_
   refine G.q rfl rfl rfl rfl (q_add_i rfl rfl rfl oM) ?_
   rw [e4]
   refine G.q rfl rfl rfl rfl (q_slice_lh rfl rfl rfl rfl us_9_F1 oM) (G.r rfl rfl rfl rfl (r_lookup (kv := str) rfl rfl rfl mE_107_F18 (keyStr us_9_F1) zB_3_F18 mB) ?_)
   try dsimp only [if_true, Bool.false_eq_true, if_false]
   rw [hse, Option.map_some, Option.getD_some, Option.isSome_some]
   have hnt : Dlt.firsts s k = Dlt.firsts s (k + 1) := (Dlt.note_same hse).symm
   refine G.mv ?_
   refine G.q rfl rfl rfl rfl (q_extract rfl rfl rfl) (G.q rfl rfl rfl rfl (q_extract rfl rfl rfl) (G.as ?_))
   refine G.as ?_
   refine G.nil (EN.sub (sC 0 (sC 1 (sC 5 (sC 6 (sC 7 (sC 9 Sub.nil)))))) ?_)
   refine EN.tsr (G.mv ?_)
   refine G.q rfl rfl rfl rfl (q_not rfl rfl) (G.nil (EN.then (CG.cond_f rfl ?_)))
   refine CG.skip (EN.in_normal (EN.tr ?_))
   refine G.mv ?_
   refine G.q rfl rfl rfl rfl (q_add_i rfl rfl rfl oM) (G.as ?_)
   refine G.nil ?_
   rw [hnt]
   exact EN.round (hl := [_, _]) (((s.length - 3)) - (k + 1)) oM (⟨k + 1, by omega, rfl, rfl, rfl⟩) sB rfl tK sF
 ·
  obtain rfl : k = s.length - 3 := by omega
  refine CG.exit ?_
  refine EN.then_exit (EN.then_exit (EN.in_here ?_))
  refine EN.ts ?_
  have hso := Dlt.firsts_ok s (s.length - 3) (Nat.le_refl _)
  obtain ⟨seen, hseen⟩ : ∃ f, Dlt.firsts s (s.length - 3) = f := ⟨_, rfl⟩
  rw [hseen] at hso ⊢
  refine CG.reg (G.e rfl rfl rfl rfl (e_alloc rfl zl_80_F18) (fun _ _ _ _ _ _ => trivial) ?_)
  rintro _ _ ⟨b10, rfl, rfl⟩
  refine G.nil (EN.tsr (G.q rfl rfl rfl rfl (q_makeFunc rfl rfl rfl) (G.as ?_)))
  refine G.nil (EN.ts (CG.sr (G.as ?_)))
  refine G.nil (EN.then (CG.block (CG.ownNil 5 1 ?_)))
  rw [own_eq]
  refine CG.imp (q := ownO 5 1 (.slice none 0 0) 0 []) tK1 (fun _ h => ownG_weak h) ?_
  refine CG.closeS (PlP b10 []) (.slice none 0 0) tK ?_
  refine CG.loopI (fun m L H => ∃ (f i : Nat) (p o : List UInt8), i ≤ t.length ∧ t.length - i ≤ f ∧ o.length + 2 * p.length ≤ 20 + 9 * i ∧ Dlt.go s t seen f i p o = Dlt.long s t ∧ m = t.length - i ∧ L = [(0, str s), (1, str t), (5, .pointer (some ⟨b5, 0, none⟩)), (6, .map (some bm)), (10, .pointer (some ⟨b10, 0, none⟩)), (11, .func (.func 65) #[] #[.pointer (some ⟨b10, 0, none⟩), .pointer (some ⟨b5, 0, none⟩)]), (12, .int .i64 i)] ∧ H = [OuAt b5 o, PlAt b10 p, mapH str bm (fun k => (seen k).map iv)] ++ F) (t.length) (hl := [_, _, _]) (⟨t.length, 0, [], Dlt.head s t, Nat.zero_le _, by omega, by simp; omega, by rw [← hseen]; rfl, rfl, rfl, rfl⟩) sB rfl tK sF ?_
  rintro m L H ⟨f, i, p, o, hi, hf, hol, hgo, rfl, rfl, rfl⟩
  try dsimp only [List.cons_append, List.nil_append]
  have hfl := Dlt.find_le (t := t) (i := i) hso
  have ei4 : (i : Int) + 4 = ((i + 4 : Nat) : Int) := by omega
  refine CG.seq (CG.sr (G.mv ?_))
  refine G.mv ?_
  refine G.q rfl rfl rfl rfl (q_len_str rfl rfl us_9_F1) (G.q rfl rfl rfl rfl (q_lss rfl rfl rfl) (G.nil (EN.then ?_)))
  refine CG.cond rfl (fun h56 => ?_) (fun h56 => ?_)
  ·
   have hil : i < t.length := by omega
   obtain ⟨f, rfl⟩ : ∃ g, f = g + 1 := ⟨f - 1, by omega⟩
   rw [Dlt.go, if_neg oM] at hgo
   refine CG.skip (EN.then (CG.block (CG.sr (G.as ?_))))
   refine G.nil (EN.tsr (G.as ?_))
   refine G.as ?_
   refine G.nil (EN.then ?_)
   refine CG.cut (fun L H => ∃ (ok : Bool) (a : Nat), (ok = false → Dlt.find s t i seen = (0, 0) ∧ a = 0) ∧ (ok = true → Dlt.find s t i seen = (a, Dlt.ml s t a i 65536 0) ∧ a + 4 ≤ s.length ∧ i + 4 ≤ t.length) ∧ L = [(0, str s), (1, str t), (5, .pointer (some ⟨b5, 0, none⟩)), (6, .map (some bm)), (10, .pointer (some ⟨b10, 0, none⟩)), (11, .func (.func 65) #[] #[.pointer (some ⟨b10, 0, none⟩), .pointer (some ⟨b5, 0, none⟩)]), (12, .int .i64 i), (13, .int .i64 0), (14, .int .i64 a), (15, .bool (decide (ok = true)))] ∧ H = [OuAt b5 o, PlAt b10 p, mapH str bm (fun k => (seen k).map iv)] ++ F) ?_ ?_
   ·
    refine CG.sr (G.mv ?_)
    refine G.q rfl rfl rfl rfl (q_add_i rfl rfl rfl oM) (G.mv ?_)
    refine G.q rfl rfl rfl rfl (q_len_str rfl rfl us_9_F1) (G.q rfl rfl rfl rfl (q_leq rfl rfl rfl) (G.nil (EN.then ?_)))
    refine CG.cond rfl (fun h61 => ?_) (fun h61 => ?_)
    ·
     have hi4 : i + 4 ≤ t.length := by omega
     rcases hse : seen ((t.take (i + 4)).drop i) with _ | a
     ·
      refine CG.reg (G.mv ?_)
      refine G.mv ?_
      refine G.mv ?_
      refine G.mv ?_
      refine G.q rfl rfl rfl rfl (q_add_i rfl rfl rfl oM) ?_
      rw [ei4]
      refine G.q rfl rfl rfl rfl (q_slice_lh rfl rfl rfl rfl us_9_F1 oM) (G.r rfl rfl rfl rfl (r_lookup (kv := str) rfl rfl rfl mE_107_F18 (keyStr us_9_F1) zB_3_F18 mB) ?_)
      try dsimp only [if_true, Bool.false_eq_true, if_false]
      rw [hse, Option.map_none, Option.getD_none, Option.isSome_none]
      obtain ⟨okk, aa, hok1, hok2, hea⟩ : ∃ (okk : Bool) (aa : Nat), (okk = false → Dlt.find s t i seen = (0, 0) ∧ aa = 0) ∧ (okk = true → Dlt.find s t i seen = (aa, Dlt.ml s t aa i 65536 0) ∧ aa + 4 ≤ s.length ∧ i + 4 ≤ t.length) ∧ okk = false ∧ aa = 0 := ⟨false, 0, fun _ => ⟨Dlt.find_none hi4 hse, rfl⟩, fun h => (by cases h), rfl, rfl⟩
      obtain ⟨rfl, rfl⟩ := hea
      refine G.mv ?_
      refine G.q rfl rfl rfl rfl (q_extract rfl rfl rfl) (G.q rfl rfl rfl rfl (q_extract rfl rfl rfl) (G.as ?_))
      refine G.as ?_
      refine G.nil (EN.sub (sC 0 (sC 1 (sC 5 (sC 6 (sC 10 (sC 11 (sC 12 (sC 13 (sC 14 (sC 15 Sub.nil)))))))))) ?_)
      exact EN.cut (hl := [_, _, _]) (⟨_, _, hok1, hok2, rfl, rfl⟩) sB rfl tK sF
     ·
      refine CG.reg (G.mv ?_)
      refine G.mv ?_
      refine G.mv ?_
      refine G.mv ?_
      refine G.q rfl rfl rfl rfl (q_add_i rfl rfl rfl oM) ?_
      rw [ei4]
      refine G.q rfl rfl rfl rfl (q_slice_lh rfl rfl rfl rfl us_9_F1 oM) (G.r rfl rfl rfl rfl (r_lookup (kv := str) rfl rfl rfl mE_107_F18 (keyStr us_9_F1) zB_3_F18 mB) ?_)
      try dsimp only [if_true, Bool.false_eq_true, if_false]
      rw [hse, Option.map_some, Option.getD_some, Option.isSome_some]
      have ha4 := hso _ _ hse
      obtain ⟨okk, aa, hok1, hok2, hea⟩ : ∃ (okk : Bool) (aa : Nat), (okk = false → Dlt.find s t i seen = (0, 0) ∧ aa = 0) ∧ (okk = true → Dlt.find s t i seen = (aa, Dlt.ml s t aa i 65536 0) ∧ aa + 4 ≤ s.length ∧ i + 4 ≤ t.length) ∧ okk = true ∧ aa = a := ⟨true, a, fun h => (by cases h), fun _ => ⟨Dlt.find_some hi4 hse, ha4, hi4⟩, rfl, rfl⟩
      obtain ⟨rfl, rfl⟩ := hea
      refine G.mv ?_
      refine G.q rfl rfl rfl rfl (q_extract rfl rfl rfl) (G.q rfl rfl rfl rfl (q_extract rfl rfl rfl) (G.as ?_))
      refine G.as ?_
      refine G.nil (EN.sub (sC 0 (sC 1 (sC 5 (sC 6 (sC 10 (sC 11 (sC 12 (sC 13 (sC 14 (sC 15 Sub.nil)))))))))) ?_)
      exact EN.cut (hl := [_, _, _]) (⟨_, _, hok1, hok2, rfl, rfl⟩) sB rfl tK sF
    ·
     obtain ⟨okk, aa, hok1, hok2, hea⟩ : ∃ (okk : Bool) (aa : Nat), (okk = false → Dlt.find s t i seen = (0, 0) ∧ aa = 0) ∧ (okk = true → Dlt.find s t i seen = (aa, Dlt.ml s t aa i 65536 0) ∧ aa + 4 ≤ s.length ∧ i + 4 ≤ t.length) ∧ okk = false ∧ aa = 0 := ⟨false, 0, fun _ => ⟨Dlt.find_no oM, rfl⟩, fun h => (by cases h), rfl, rfl⟩
     obtain ⟨rfl, rfl⟩ := hea
     refine CG.skip ?_
     exact EN.cut (hl := [_, _, _]) (⟨_, _, hok1, hok2, rfl, rfl⟩) sB rfl tK sF
   ·
    rintro L H ⟨ok, a, hok1, hok2, rfl, rfl⟩
    try dsimp only [List.cons_append, List.nil_append]
    refine CG.cut (fun L H => L = [(0, str s), (1, str t), (5, .pointer (some ⟨b5, 0, none⟩)), (6, .map (some bm)), (10, .pointer (some ⟨b10, 0, none⟩)), (11, .func (.func 65) #[] #[.pointer (some ⟨b10, 0, none⟩), .pointer (some ⟨b5, 0, none⟩)]), (12, .int .i64 i), (13, .int .i64 (Dlt.find s t i seen).2), (14, .int .i64 (Dlt.find s t i seen).1)] ∧ H = [OuAt b5 o, PlAt b10 p, mapH str bm (fun k => (seen k).map iv)] ++ F) ?_ ?_
    ·
     refine CG.block (CG.loopI (fun m L H => ∃ n : Nat, n ≤ 65536 ∧ (ok = false → n = 0) ∧ (ok = true → Dlt.ml s t a i (65536 - n) n = Dlt.ml s t a i 65536 0 ∧ a + n ≤ s.length ∧ i + n ≤ t.length) ∧ m = 65536 - n ∧ L = [(0, str s), (1, str t), (5, .pointer (some ⟨b5, 0, none⟩)), (6, .map (some bm)), (10, .pointer (some ⟨b10, 0, none⟩)), (11, .func (.func 65) #[] #[.pointer (some ⟨b10, 0, none⟩), .pointer (some ⟨b5, 0, none⟩)]), (12, .int .i64 i), (13, .int .i64 n), (14, .int .i64 a), (15, .bool (decide (ok = true)))] ∧ H = [OuAt b5 o, PlAt b10 p, mapH str bm (fun k => (seen k).map iv)] ++ F) (65536) (hl := [_, _, _]) (⟨0, by omega, fun _ => rfl, fun h => ⟨rfl, by have := (hok2 h).2; omega, by have := (hok2 h).2; omega⟩, rfl, rfl, rfl⟩) sB rfl tK sF ?_)
     rintro m L H ⟨n, hn, hnf, hnt, rfl, rfl, rfl⟩
     try dsimp only [List.cons_append, List.nil_append]
     have ean : (a : Int) + n = ((a + n : Nat) : Int) := by omega
     have ein : (i : Int) + n = ((i + n : Nat) : Int) := by omega
     refine CG.seq (CG.seq ?_)
     refine CG.regT [] mixed (by kernel_rfl) ?_
     refine G.mv ?_
     refine G.mv ?_
     refine G.split (t := 73) rfl (fun g73 => ?_) (fun g73 => ?_)
     ·
      obtain ⟨hml, hb1, hb2⟩ := hnt g73
      obtain ⟨hfd, hb3, hb4⟩ := hok2 g73
      have hf1 : (Dlt.find s t i seen).1 = a := by rw [hfd]
      refine G.mv ?_
      refine G.q rfl rfl rfl rfl (q_lss rfl rfl rfl) (G.q rfl rfl rfl rfl (q_pick_t rfl rfl rfl) (G.mv ?_))
      refine G.split (t := 77) rfl (fun g77 => ?_) (fun g77 => absurd oM g77)
      refine G.mv ?_
      refine G.mv ?_
      refine G.q rfl rfl rfl rfl (q_add_i rfl rfl rfl oM) (G.mv ?_)
      refine G.q rfl rfl rfl rfl (q_len_str rfl rfl us_9_F1) (G.q rfl rfl rfl rfl (q_lss rfl rfl rfl) (G.q rfl rfl rfl rfl (q_pick_t rfl rfl rfl) (G.mv ?_)))
      refine G.split (t := 85) rfl (fun g85 => ?_) (fun g85 => ?_)
      ·
       refine G.mv ?_
       refine G.mv ?_
       refine G.q rfl rfl rfl rfl (q_add_i rfl rfl rfl oM) (G.mv ?_)
       refine G.q rfl rfl rfl rfl (q_len_str rfl rfl us_9_F1) (G.q rfl rfl rfl rfl (q_lss rfl rfl rfl) (G.q rfl rfl rfl rfl (q_pick_t rfl rfl rfl) (G.mv ?_)))
       refine G.split (t := 93) rfl (fun g93 => ?_) (fun g93 => ?_)
       ·
        refine G.mv ?_
        refine G.mv ?_
        refine G.mv ?_
        refine G.q rfl rfl rfl rfl (q_add_i rfl rfl rfl oM) ?_
        try rw [ean]
        refine G.q rfl rfl rfl rfl (q_index rfl rfl rfl us_9_F1 (getD_u8 (S := s) (i := a + n) oM)) (G.mv ?_)
        refine G.mv ?_
        refine G.mv ?_
        refine G.q rfl rfl rfl rfl (q_add_i rfl rfl rfl oM) ?_
        try rw [ein]
        refine G.q rfl rfl rfl rfl (q_index rfl rfl rfl us_9_F1 (getD_u8 (S := t) (i := i + n) oM)) (G.q rfl rfl rfl rfl (q_eql rfl rfl rfl) (G.q rfl rfl rfl rfl (q_pick_t rfl rfl rfl) (G.nil (EN.sub (sC 0 (sC 1 (sC 5 (sC 6 (sC 10 (sC 11 (sC 12 (sC 13 (sC 14 (sC 15 (sC 105 Sub.nil))))))))))) ?_))))
        refine EN.then ?_
        refine CG.cond rfl (fun h105 => ?_) (fun h105 => ?_)
        ·
         have hml2 : Dlt.ml s t a i (65536 - (n + 1)) (n + 1) = Dlt.ml s t a i 65536 0 := by
           rw [← hml, show 65536 - n = (65536 - (n + 1)) + 1 by omega, Dlt.ml, if_pos ⟨by omega, by omega, UInt8.toNat_inj.1 oM⟩]
         refine CG.skip (EN.then (CG.block (CG.reg (G.mv ?_))))
         refine G.q rfl rfl rfl rfl (q_add_i rfl rfl rfl oM) (G.as ?_)
         refine G.nil (EN.in_normal ?_)
         exact EN.round (hl := [_, _, _]) (65536 - (n + 1)) oM (⟨n + 1, by omega, fun h => absurd (h.symm.trans g73) (by decide), fun _ => ⟨hml2, by omega, by omega⟩, rfl, rfl, rfl⟩) sB rfl tK sF
        ·
         have hf2 : (Dlt.find s t i seen).2 = n := by rw [hfd]; show Dlt.ml s t a i 65536 0 = n; rw [← hml, show 65536 - n = (65536 - (n + 1)) + 1 by omega, Dlt.ml, if_neg (fun h => h105 (by rw [h.2.2]))]
         refine CG.exit ?_
         refine EN.then_exit (EN.then_exit (EN.in_here ?_))
         rw [hf1, hf2]
         exact EN.cut (hl := [_, _, _]) (⟨rfl, rfl⟩) sB rfl tK sF
       ·
        have hf2 : (Dlt.find s t i seen).2 = n := by rw [hfd]; show Dlt.ml s t a i 65536 0 = n; rw [← hml, show 65536 - n = (65536 - (n + 1)) + 1 by omega, Dlt.ml, if_neg oM]
        refine G.skip rfl rfl rfl (G.skip rfl rfl rfl (G.skip rfl rfl rfl (G.skip rfl rfl rfl ?_)))
        try rw [ean]
        refine G.skip rfl rfl rfl (G.skip rfl rfl rfl (G.skip rfl rfl rfl (G.skip rfl rfl rfl (G.skip rfl rfl rfl ?_))))
        try rw [ein]
        refine G.skip rfl rfl rfl (G.skip rfl rfl rfl (G.q rfl rfl rfl rfl (q_pick_f rfl rfl rfl) (G.nil (EN.sub (sC 0 (sC 1 (sC 5 (sC 6 (sC 10 (sC 11 (sC 12 (sC 13 (sC 14 (sC 15 (sC 105 Sub.nil))))))))))) ?_))))
        refine EN.then (CG.cond_f rfl ?_)
        refine CG.exit ?_
        refine EN.then_exit (EN.then_exit (EN.in_here ?_))
        rw [hf1, hf2]
        exact EN.cut (hl := [_, _, _]) (⟨rfl, rfl⟩) sB rfl tK sF
      ·
       have hf2 : (Dlt.find s t i seen).2 = n := by rw [hfd]; show Dlt.ml s t a i 65536 0 = n; rw [← hml, show 65536 - n = (65536 - (n + 1)) + 1 by omega, Dlt.ml, if_neg oM]
       refine G.skip rfl rfl rfl (G.skip rfl rfl rfl (G.skip rfl rfl rfl (G.skip rfl rfl rfl (G.skip rfl rfl rfl (G.skip rfl rfl rfl ?_)))))
       refine G.q rfl rfl rfl rfl (q_pick_f rfl rfl rfl) (G.mv ?_)
       refine G.skip rfl rfl rfl (G.skip rfl rfl rfl (G.skip rfl rfl rfl (G.skip rfl rfl rfl ?_)))
       try rw [ean]
       refine G.skip rfl rfl rfl (G.skip rfl rfl rfl (G.skip rfl rfl rfl (G.skip rfl rfl rfl (G.skip rfl rfl rfl ?_))))
       try rw [ein]
       refine G.skip rfl rfl rfl (G.skip rfl rfl rfl (G.q rfl rfl rfl rfl (q_pick_f rfl rfl rfl) (G.nil (EN.sub (sC 0 (sC 1 (sC 5 (sC 6 (sC 10 (sC 11 (sC 12 (sC 13 (sC 14 (sC 15 (sC 105 Sub.nil))))))))))) ?_))))
       refine EN.then (CG.cond_f rfl ?_)
       refine CG.exit ?_
       refine EN.then_exit (EN.then_exit (EN.in_here ?_))
       rw [hf1, hf2]
       exact EN.cut (hl := [_, _, _]) (⟨rfl, rfl⟩) sB rfl tK sF
     ·
      obtain ⟨hfd, ha0⟩ := hok1 (by simpa using g73)
      obtain rfl := hnf (by simpa using g73)
      subst ha0
      have hf1 : (Dlt.find s t i seen).1 = 0 := by rw [hfd]
      have hf2 : (Dlt.find s t i seen).2 = 0 := by rw [hfd]
      refine G.skip rfl rfl rfl (G.skip rfl rfl rfl (G.q rfl rfl rfl rfl (q_pick_f rfl rfl rfl) (G.mv ?_)))
      refine G.skip rfl rfl rfl (G.skip rfl rfl rfl (G.skip rfl rfl rfl (G.skip rfl rfl rfl (G.skip rfl rfl rfl (G.skip rfl rfl rfl ?_)))))
      refine G.q rfl rfl rfl rfl (q_pick_f rfl rfl rfl) (G.mv ?_)
      refine G.skip rfl rfl rfl (G.skip rfl rfl rfl (G.skip rfl rfl rfl (G.skip rfl rfl rfl (G.skip rfl rfl rfl (G.skip rfl rfl rfl ?_)))))
      refine G.q rfl rfl rfl rfl (q_pick_f rfl rfl rfl) (G.mv ?_)
      refine G.skip rfl rfl rfl (G.skip rfl rfl rfl (G.skip rfl rfl rfl (G.skip rfl rfl rfl ?_)))
      try rw [ean]
      refine G.skip rfl rfl rfl (G.skip rfl rfl rfl (G.skip rfl rfl rfl (G.skip rfl rfl rfl (G.skip rfl rfl rfl ?_))))
      try rw [ein]
      refine G.skip rfl rfl rfl (G.skip rfl rfl rfl (G.q rfl rfl rfl rfl (q_pick_f rfl rfl rfl) (G.nil (EN.sub (sC 0 (sC 1 (sC 5 (sC 6 (sC 10 (sC 11 (sC 12 (sC 13 (sC 14 (sC 15 (sC 105 Sub.nil))))))))))) ?_))))
      refine EN.then (CG.cond_f rfl ?_)
      refine CG.exit ?_
      refine EN.then_exit (EN.then_exit (EN.in_here ?_))
      rw [hf1, hf2]
      exact EN.cut (hl := [_, _, _]) (⟨rfl, rfl⟩) sB rfl tK sF
    ·
     rintro L H ⟨rfl, rfl⟩
     try dsimp only [List.cons_append, List.nil_append]
     refine CG.seq (CG.sr (G.mv ?_))
     refine G.q rfl rfl rfl rfl (q_lss rfl rfl rfl) (G.nil (EN.then ?_))
     refine CG.cond rfl (fun h109 => ?_) (fun h109 => ?_)
     ·
      rw [if_pos oM] at hgo
      refine CG.openS (PlP b10 p) tK1 (fun pv => ?_)
      unfold PlP
      try dsimp only [List.cons_append, List.nil_append]
      refine CG.fact (p := ownO 5 1 pv p.length (p.map u8v)) tK1 (fun _ hh => ownG_shape hh) (fun hsp => ?_)
      obtain ⟨hs1, hs2, ad, c, rfl, hc⟩ := hsp
      have h113 := getD_u8 (S := t) (i := i) hil
      refine CG.seq ?_
      refine CG.regZ [110] (Keeps _ [cel b10 80 [.slice ad p.length c]]) mixed (by kernel_rfl) (fun w hw => Keeps.of hw tK) ?_
      refine G.rK rfl rfl rfl rfl rfl (fun R => r_load rfl rfl ag_80_F2 mB rfl) ?_
      refine G.mv ?_
      refine G.mv ?_
      refine G.q rfl rfl rfl rfl (q_index rfl rfl rfl us_9_F1 (h113)) (G.e rfl rfl rfl rfl (e_bslice rfl rfl (bs_80_1_all_F2 _)) (fun _ _ _ w hR hw => by obtain ⟨_, _, rfl⟩ := hR; exact Keeps.of hw tK) ?_)
      rintro _ _ ⟨b114, rfl, rfl⟩
      refine G.e rfl rfl rfl rfl (e_appendG rfl rfl rfl se_80_F2 nf_5_F2 rfl tK1 (src_one se_80_F2 mB rfl) oM) (fun _ _ _ w hR hw => by subst hR; exact Keeps.of hw tK) ?_
      rintro _ _ rfl
      rw [ownO_snoc8]
      refine G.fact (p := ownO 5 1 _ (p ++ [t.getD i 0]).length ((p ++ [t.getD i 0]).map u8v)) tK1 (fun _ hh => ownG_shape hh) (fun hsp => ?_)
      obtain ⟨hs3, hs4, ad2, c2, rfl, hc2⟩ := hsp
      refine G.stZ sz_80_F2 ?_
      refine G.nil (EN.tsr (G.mv ?_))
      refine G.q rfl rfl rfl rfl (q_add_i rfl rfl rfl oM) (G.as ?_)
      refine G.nil (EN.sub (sC 0 (sC 1 (sC 5 (sC 6 (sC 10 (sC 11 (sC 12 (sC 13 (sC 14 Sub.nil))))))))) ?_)
      refine EN.then (CG.exit ?_)
      refine EN.then_exit (EN.in_here ?_)
      refine EN.closeS (PlP b10 (p ++ [t.getD i 0])) _ tK ?_
      exact EN.round (hl := [_, _, _]) (t.length - (i + 1)) oM (⟨f, i + 1, p ++ [t.getD i 0], o, by omega, by omega, by simp; omega, hgo, rfl, rfl, rfl⟩) sB rfl tK sF
     ·
      rw [if_neg oM] at hgo
      have hcl := Dlt.copyOf_len (Dlt.find s t i seen).1 (Dlt.find s t i seen).2
      have hpp := Dlt.plain_len p
      have ej : (i : Int) + ((Dlt.find s t i seen).2 : Nat) = ((i + (Dlt.find s t i seen).2 : Nat) : Int) := by omega
      refine CG.skip (EN.tsr (G.mv ?_))
      refine G.callc (f := 65) (xs := []) (fi := []) (ca := [.pointer (some ⟨b10, 0, none⟩), .pointer (some ⟨b5, 0, none⟩)]) rfl rfl rfl (flush_spec b10 b5 p o oM oM) bd_65_F18 rfl rfl rfl rfl tK (fun _ _ _ _ _ _ => trivial) ?_
      rintro _ _ ⟨rfl, rfl⟩
      try dsimp only [List.cons_append, List.nil_append]
      refine G.nil (EN.ts ?_)
      refine CG.openS (OuP b5 (o ++ Dlt.plain p)) tK1 (fun ov => ?_)
      unfold OuP
      try dsimp only [List.cons_append, List.nil_append]
      refine CG.regZ [120] (Keeps _ [cel b5 80 [ov]]) mixed (by kernel_rfl) (fun w hw => Keeps.of hw tK) ?_
      refine G.rK rfl rfl rfl rfl rfl (fun R => r_load rfl rfl ag_80_F2 mB rfl) ?_
      refine G.mv ?_
      refine G.mv ?_
      refine G.call (xs := [_, _]) rfl rfl (copyOf_spec (Dlt.find s t i seen).1 (Dlt.find s t i seen).2 oM oM) bd_66_F18 rfl rfl rfl rfl tK (fun _ _ _ w hR hw => by subst hR; exact Keeps.of hw tK) ?_
      rintro cv _ rfl
      try dsimp only [List.cons_append, List.nil_append]
      refine G.e rfl rfl rfl rfl (e_appendA rfl rfl rfl se_80_F2 nf_5_F2 rfl tK1 (src_own se_80_F2 mB (u8_one _)) (by simp; omega)) (fun _ _ _ w hR hw => by subst hR; exact Keeps.of hw tK) ?_
      rintro _ _ rfl
      rw [own_app8]
      refine G.ownShape tK1 ?_
      rintro ad2 c2 rfl
      refine G.stZ sz_80_F2 ?_
      refine G.nil (EN.sub (sC 0 (sC 1 (sC 5 (sC 6 (sC 10 (sC 11 (sC 12 (sC 13 Sub.nil)))))))) ?_)
      refine EN.tr ?_
      refine G.mv ?_
      refine G.mv ?_
      refine G.q rfl rfl rfl rfl (q_add_i rfl rfl rfl oM) ?_
      rw [ej]
      refine G.as ?_
      refine G.nil (EN.in_normal (EN.closeS (OuP b5 (o ++ Dlt.plain p ++ Dlt.copyOf (Dlt.find s t i seen).1 (Dlt.find s t i seen).2)) _ tK ?_))
      exact EN.round (hl := [_, _, _]) (t.length - (i + (Dlt.find s t i seen).2)) oM (⟨f, i + (Dlt.find s t i seen).2, [], o ++ Dlt.plain p ++ Dlt.copyOf (Dlt.find s t i seen).1 (Dlt.find s t i seen).2, by omega, by omega, by simp; omega, hgo, rfl, rfl, rfl⟩) sB rfl tK sF
  ·
   have hil : i = t.length := by omega
   have hgo2 : o ++ Dlt.plain p = Dlt.long s t := by
     rw [← hgo]; cases f with
     | zero => rfl
     | succ f => rw [Dlt.go, if_pos oM]
   refine CG.exit ?_
   refine EN.then_exit (EN.then_exit (EN.in_here ?_))
   refine EN.tsr (G.mv ?_)
   refine G.callc (f := 65) (xs := []) (fi := []) (ca := [.pointer (some ⟨b10, 0, none⟩), .pointer (some ⟨b5, 0, none⟩)]) rfl rfl rfl (flush_spec b10 b5 p o oM oM) bd_65_F18 rfl rfl rfl rfl tK (fun _ _ _ _ _ _ => trivial) ?_
   rintro _ _ ⟨rfl, rfl⟩
   rw [hgo2]
   try dsimp only [List.cons_append, List.nil_append]
   refine G.nil (EN.sub (sC 0 (sC 1 (sC 5 Sub.nil))) ?_)
   refine EN.tsr (G.mv ?_)
   refine G.q rfl rfl rfl rfl (q_len_str rfl rfl us_9_F1) (G.call (xs := [_]) rfl rfl (sized_spec s.length oM) bd_64_F18 rfl rfl rfl rfl tK (fun _ _ _ _ _ _ => trivial) ?_)
   rintro v132 _ rfl
   try dsimp only [List.cons_append, List.nil_append]
   refine G.mv ?_
   refine G.q rfl rfl rfl rfl (q_len_str rfl rfl us_9_F1) (G.call (xs := [_]) rfl rfl (sized_spec t.length oM) bd_64_F18 rfl rfl rfl rfl tK (fun _ _ _ _ _ _ => trivial) ?_)
   rintro v135 _ rfl
   try dsimp only [List.cons_append, List.nil_append]
   refine G.e rfl rfl rfl rfl (e_appendA rfl rfl rfl se_80_F2 nf_5_F2 rfl tK1 (src_own se_80_F2 mB (u8_one _)) oM) (fun _ _ _ _ _ _ => trivial) ?_
   rintro _ _ rfl
   rw [own_headB]
   refine G.ownShape tK1 ?_
   rintro ad136 c136 rfl
   refine G.as ?_
   refine G.nil (EN.ts (CG.block (CG.loopI (fun m L H => ∃ (t1 q : List UInt8) (v : Value), q ++ Dlt.plain t1 = Dlt.head s t ++ Dlt.plain t ∧ m = t1.length ∧ t1.length ≤ 65000 ∧ q.length + 2 * t1.length ≤ 140000 ∧ L = [(1, str t1), (5, .pointer (some ⟨b5, 0, none⟩)), (16, v)] ∧ H = [OuAt b5 (Dlt.long s t), own 5 1 v q.length (q.map u8v)] ++ F) (t.length) (hl := [_, _]) (⟨t, Dlt.head s t, _, rfl, rfl, ht, by omega, rfl, rfl⟩) sB rfl tK sF ?_)))
   rintro m L H ⟨t1, q, v, hgo, rfl, ht1, hq, rfl, rfl⟩
   try dsimp only [List.cons_append, List.nil_append]
   refine CG.seq (CG.sr (G.mv ?_))
   refine G.q rfl rfl rfl rfl (q_len_str rfl rfl us_9_F1) (G.q rfl rfl rfl rfl (q_gtr rfl rfl rfl) (G.nil (EN.then ?_)))
   refine CG.cond rfl (fun h139 => ?_) (fun h139 => ?_)
   ·
    have hne : t1 ≠ [] := fun h => by rw [h] at h139; simp at h139
    obtain ⟨n, hn⟩ : ∃ n, min t1.length 127 = n := ⟨_, rfl⟩
    have hgo3 : q ++ [UInt8.ofNat n] ++ t1.take n ++ Dlt.plain (t1.drop n) = Dlt.head s t ++ Dlt.plain t := by
      rw [← hgo, Dlt.plain.eq_1 t1, dif_neg hne, hn]; simp
    have hpl1 := List.length_pos_iff.2 hne
    refine CG.skip (EN.then (CG.block (CG.sr (G.mv ?_))))
    refine G.q rfl rfl rfl rfl (q_len_str rfl rfl us_9_F1) (G.q rfl rfl rfl rfl (q_min rfl rfl rfl) ?_)
    rw [min127, hn]
    refine G.as ?_
    refine G.nil (EN.ts ?_)
    refine CG.regT [145] mixed (by kernel_rfl) ?_
    refine G.mv ?_
    refine G.mv ?_
    refine G.q rfl rfl rfl rfl (q_conv_u8 rfl rfl is_3_F4 ik_5_F18) ?_
    rw [u8i_nat]
    refine G.e rfl rfl rfl rfl (e_bslice rfl rfl (bs_80_1_all_F2 _)) (fun _ _ _ _ _ _ => trivial) ?_
    rintro _ _ ⟨b146, rfl, rfl⟩
    refine G.e rfl rfl rfl rfl (e_append rfl rfl rfl se_80_F2 nf_5_F2 rfl tK1 mB (by rfl) (by simp [Value.oneCell', str]) oM) (fun _ _ _ _ _ _ => trivial) ?_
    rintro _ _ rfl
    rw [own_snoc8]
    refine G.mv ?_
    refine G.mv ?_
    refine G.q rfl rfl rfl rfl (q_slice_hi rfl rfl rfl us_9_F1 oM) (G.e rfl rfl rfl rfl (e_appendA rfl rfl rfl se_80_F2 nf_5_F2 rfl tK1 (src_str us_9_F1) (by simp; omega)) (fun _ _ _ _ _ _ => trivial) ?_)
    rintro _ _ rfl
    rw [own_app8]
    refine G.as ?_
    refine G.nil (EN.sub (sC 1 (sC 5 (sC 16 (sC 17 Sub.nil)))) ?_)
    refine EN.tr ?_
    refine G.mv ?_
    refine G.mv ?_
    refine G.q rfl rfl rfl rfl (q_slice_lo rfl rfl rfl us_9_F1 oM) (G.as ?_)
    refine G.nil (EN.in_normal ?_)
    exact EN.round (hl := [_, _]) ((t1.drop n).length) (by simp; omega) (⟨t1.drop n, q ++ [UInt8.ofNat n] ++ t1.take n, _, hgo3, rfl, by simp; omega, by simp; omega, rfl, rfl⟩) sB rfl tK sF
   ·
    obtain rfl : t1 = [] := List.eq_nil_of_length_eq_zero oM
    have hgo3 : q = Dlt.head s t ++ Dlt.plain t := by rw [← hgo, Dlt.plain, dif_pos rfl, List.append_nil]
    rw [hgo3]
    refine CG.ownShape v tK1 ?_
    rintro ad16 c16 rfl
    refine CG.openS (OuP b5 (Dlt.long s t)) tK1 (fun ov => ?_)
    unfold OuP
    try dsimp only [List.cons_append, List.nil_append]
    refine CG.ownShape ov tK1 ?_
    rintro ad5 c5 rfl
    refine CG.exit ?_
    refine EN.then_exit (EN.then_exit (EN.in_here ?_))
    refine EN.ts (CG.sr (G.mv ?_))
    refine G.q rfl rfl rfl rfl (q_len_sl rfl rfl se_80_F2) (G.ld ag_80_F2 ?_)
    refine G.q rfl rfl rfl rfl (q_len_sl rfl rfl se_80_F2) (G.q rfl rfl rfl rfl (q_lss rfl rfl rfl) (G.nil (EN.then ?_)))
    refine CG.cond rfl (fun h159 => ?_) (fun h159 => ?_)
    ·
     have he : Dlt.make s t = Dlt.head s t ++ Dlt.plain t := if_pos oM
     refine CG.sr (G.mv ?_)
     refine G.r rfl rfl rfl rfl (r_b2s rfl rfl bT_80_9_F18 mB) ?_
     refine G.as ?_
     refine G.nil (EN.sub (sC 4 (sC 5 Sub.nil)) ?_)
     refine EN.then (CG.ret (EN.then_ret ?_))
     rw [he]
     exact fin_ret1 rfl rfl tK sF (⟨rfl, rfl⟩) _ (.inl rfl)
    ·
     have he : Dlt.make s t = Dlt.long s t := if_neg oM
     refine CG.skip (EN.tsr (G.ld ag_80_F2 ?_))
     refine G.r rfl rfl rfl rfl (r_b2s rfl rfl bT_80_9_F18 mB) ?_
     refine G.as ?_
     refine G.nil (EN.sub (sC 4 Sub.nil) ?_)
     refine EN.then (CG.ret ?_)
     rw [he]
     exact fin_ret1 rfl rfl tK sF (⟨rfl, rfl⟩) _ (.inl rfl)

end Go.Eng
/-
  Packs written: headOf, backOf; Few.
-/
set_option linter.unusedVariables false
set_option linter.unusedSimpArgs false
namespace Go.Eng
open Go.Proofs
theorem ik_5_F22 : intK Tryz.prog 5 = some .u8 := by kernel_rfl

def headGo (c n : Nat) : List UInt8 := if h : n = 0 then [UInt8.ofNat c] else UInt8.ofNat (c + 128) :: headGo (n % 128) (n / 128)
termination_by n
decreasing_by omega
/-- kind and size as bytes -/
def headL (k n : Nat) : List UInt8 := headGo (k * 16 + n % 16) (n / 16)
def backGo2 (b : List UInt8) (n : Nat) : List UInt8 := if h : n = 0 then b else backGo2 (UInt8.ofNat ((n - 1) % 128 + 128) :: b) ((n - 1) / 128)
termination_by n
decreasing_by omega
/-- how far back, as bytes -/
def backL (n : Nat) : List UInt8 := backGo2 [UInt8.ofNat (n % 128)] (n / 128)
theorem headGo_len (n : Nat) : ∀ (k c : Nat), n < 128 ^ k → (headGo c n).length ≤ k + 1 := by
  induction n using Nat.strongRecOn with
  | _ n ih =>
    intro k c hk
    unfold headGo
    split
    · simp
    · cases k with
      | zero => rw [Nat.pow_zero] at hk; omega
      | succ k =>
        rw [Nat.pow_succ] at hk
        have := ih (n / 128) (by omega) k (n % 128) (by rw [Nat.div_lt_iff_lt_mul (by omega)]; exact hk)
        simp only [List.length_cons]; omega
theorem headL_len {k n : Nat} (hn : n ≤ 1000000) : (headL k n).length ≤ 4 := by unfold headL; exact headGo_len _ 3 _ (by omega)
theorem backGo2_len (n : Nat) : ∀ (k : Nat) (b : List UInt8), n < 128 ^ k → (backGo2 b n).length ≤ b.length + k := by
  induction n using Nat.strongRecOn with
  | _ n ih =>
    intro k b hk
    unfold backGo2
    split
    · omega
    · cases k with
      | zero => rw [Nat.pow_zero] at hk; omega
      | succ k =>
        rw [Nat.pow_succ] at hk
        have := ih ((n - 1) / 128) (by omega) k (UInt8.ofNat ((n - 1) % 128 + 128) :: b) (by rw [Nat.div_lt_iff_lt_mul (by omega)]; omega)
        simp only [List.length_cons] at this; omega
theorem backL_len {n : Nat} (hn : n ≤ 1000000000) : (backL n).length ≤ 6 := by have := backGo2_len (n / 128) 4 [UInt8.ofNat (n % 128)] (by omega); simpa [backL] using Nat.le_trans this (by simp)
theorem or128b {c : Nat} (hc : c < 128) : bits .or .u8 (((UInt8.ofNat c).toNat : Nat) : Int) 128 = ((UInt8.ofNat (c + 128)).toNat : Int) := by
  have h := Dlt.or128 c
  rw [u8i_nat] at h
  rw [h, Nat.mod_eq_of_lt hc]
theorem cur_set {cur : List Value} {l : List UInt8} {c d : UInt8} {x : Value} (h : cur.take ((l ++ [c]).length * 1) = (l ++ [c]).map u8v) (hx : x = u8v d) : (cur.set l.length x).take ((l ++ [d]).length * 1) = (l ++ [d]).map u8v := by
  subst hx
  have e1 : (l ++ [d]).length = (l ++ [c]).length := by simp
  rw [e1, List.take_set, h]
  simp
theorem own_consA {e : Nat} {u : Value} {l : List UInt8} {c : UInt8} : own e 1 u (1 + l.length) ([c].map u8v ++ l.map u8v) = own e 1 u (c :: l).length ((c :: l).map u8v) := by simp [Nat.add_comm]

attribute [local irreducible] cel own exS ownG tabH

set_option maxRecDepth 100000 in
set_option maxHeartbeats 1000000 in
theorem headOf_spec (k n : Nat) (hk : k ≤ 7) (hn : n ≤ 1000000000) : Spec Tryz.prog 36 #[.int .i64 k, .int .i64 n] [] (Ret fun v hl => hl = [own 5 1 v (headL k n).length ((headL k n).map u8v)]) := by
 refine Spec.enter Tryz.func36 rfl rfl rfl (fun F w0 => ?_)
 dsimp only [argL, List.cons_append, List.nil_append]
 refine CG.sr (G.as ?_)
 refine G.nil (EN.tsr (G.mv ?_))
 refine G.q rfl rfl rfl rfl (q_shlcw (d := 16) rfl rfl rfl (by decide) (by decide) lOm lOm) (G.mv ?_)
 refine G.q rfl rfl rfl rfl (q_andm (j := 4) (d := 16) rfl rfl rfl lOm lOm (by decide) (by decide) (by decide)) (G.q rfl rfl rfl rfl (q_ord (j := 4) (d := 16) rfl rfl rfl (by decide) lOm lOm lOm (by decide)) ?_)
 rw [show (k : Int) * 16 + (n : Int) % 16 = ((k * 16 + n % 16 : Nat) : Int) by omega]
 refine G.q rfl rfl rfl rfl (q_conv_u8 rfl rfl is_3_F4 ik_5_F22) ?_
 rw [u8i_nat]
 refine G.e rfl rfl rfl rfl (e_bslice rfl rfl (bs_80_1_all_F2 _)) (fun _ _ _ _ _ _ => trivial) ?_
 rintro _ _ ⟨b12, rfl, rfl⟩
 refine G.as ?_
 refine G.nil (EN.ts (CG.sr (G.mv ?_)))
 refine G.q rfl rfl rfl rfl (q_shrc (d := 16) rfl rfl rfl (by decide) (by decide)) ?_
 rw [show (n : Int) / 16 = ((n / 16 : Nat) : Int) by omega]
 refine G.as ?_
 refine G.nil (EN.sub (sC 1 (sC 4 (sC 5 Sub.nil))) ?_)
 refine EN.then (CG.block (CG.closeOwn (g := b12) (sz := 1) (n := 1) (cap := 1) (xs := (([] ++ [UInt8.ofNat (k * 16 + n % 16)] : List UInt8)).map u8v) tK1 (by decide) (by decide) rfl rfl ?_))
 refine CG.loopI (fun m L H => ∃ (v : Value) (l : List UInt8) (c : Nat), c < 128 ∧ l.length + m ≤ n / 16 ∧ l ++ headGo c m = headL k n ∧ L = [(1, .int .i64 m), (5, v)] ∧ H = [own 5 1 v (l ++ [UInt8.ofNat c]).length ((l ++ [UInt8.ofNat c]).map u8v)] ++ F) (n / 16) (hl := [_]) (⟨_, [], k * 16 + n % 16, by omega, by simp, rfl, rfl, rfl⟩) sB rfl tK sF ?_
 rintro m L H ⟨v, l, c, hc, hl, hgo, rfl, rfl⟩
 try dsimp only [List.cons_append, List.nil_append]
 refine CG.ownShape v tK1 ?_
 rintro ad0 c0 rfl
 refine CG.seq (CG.sr (G.mv ?_))
 refine G.q rfl rfl rfl rfl (q_gtr rfl rfl rfl) (G.nil (EN.then ?_))
 refine CG.cond rfl (fun h16 => ?_) (fun h16 => ?_)
 ·
  rw [headGo, dif_neg oM] at hgo
  refine CG.openOwn tK1 (by simp) (fun g cap cur hv hcap hmx hcr hct => ?_)
  cases hv
  have h0l : l.length < cur.length := by simp at hcap; omega
  have h0 : nth cur l.length = some (.int .u8 ((UInt8.ofNat c).toNat : Nat)) := nth_take hct (by simp [u8v])
  have hset := Huff.set_of (x := .int .u8 ((UInt8.ofNat (c + 128)).toNat : Nat)) h0l
  have hcs := cur_set (d := UInt8.ofNat (c + 128)) hct rfl
  have hcq : (l ++ [UInt8.ofNat c]).length = (l ++ [UInt8.ofNat (c + 128)]).length := by simp
  have hli : l.length < (l ++ [UInt8.ofNat c]).length := by simp
  have hli2 : (l ++ [UInt8.ofNat c]).length ≤ 1000000001 := by simp; omega
  refine CG.skip (EN.ts (CG.block (CG.sr (G.mv ?_))))
  refine G.mv ?_
  refine G.q rfl rfl rfl rfl (q_len_sl rfl rfl se_80_F2) (G.q rfl rfl rfl rfl (q_sub_i rfl rfl rfl oM) ?_)
  rw [show (((l ++ [UInt8.ofNat c]).length : Nat) : Int) - 1 = (l.length : Int) by simp]
  refine G.q rfl rfl rfl rfl (q_ixaddr1 rfl rfl rfl se_80_F2 sz_5_F6 (hli)) (G.r rfl rfl rfl rfl (r_load rfl rfl ag_5_F6 .here (h0)) ?_)
  refine G.q rfl rfl rfl rfl (q_or rfl rfl rfl) ?_
  rw [or128b hc]
  refine G.q rfl rfl rfl rfl (q_ixaddr1 rfl rfl rfl se_80_F2 sz_5_F6 (hli)) ?_
  refine G.e0 rfl rfl rfl (e_store rfl rfl rfl sz_5_F6 rfl (hset) .here) (fun _ _ _ _ _ _ => trivial) ?_
  rintro _ _ ⟨rfl, rfl⟩
  refine G.nil (EN.sub (sC 1 (sC 5 Sub.nil)) ?_)
  refine EN.then (CG.closeOwn (g := g) (sz := 1) (xs := (l ++ [UInt8.ofNat (c + 128)]).map u8v) tK1 hcap hmx (by simpa using hcr) (by rw [hcq]; exact hcs) ?_)
  rw [hcq]
  refine CG.reg (G.mv ?_)
  refine G.mv ?_
  refine G.q rfl rfl rfl rfl (q_andm (j := 7) (d := 128) rfl rfl rfl lOm lOm (by decide) (by decide) (by decide)) ?_
  rw [show (m : Int) % 128 = ((m % 128 : Nat) : Int) by omega]
  refine G.q rfl rfl rfl rfl (q_conv_u8 rfl rfl is_3_F4 ik_5_F22) ?_
  rw [u8i_nat]
  refine G.e rfl rfl rfl rfl (e_bslice rfl rfl (bs_80_1_all_F2 _)) (fun _ _ _ _ _ _ => trivial) ?_
  rintro _ _ ⟨b31, rfl, rfl⟩
  refine G.e rfl rfl rfl rfl (e_append rfl rfl rfl se_80_F2 nf_5_F2 rfl tK1 mB (by rfl) (by simp [Value.oneCell', str]) (by simp; omega)) (fun _ _ _ _ _ _ => trivial) ?_
  rintro _ _ rfl
  rw [own_snoc8]
  refine G.as ?_
  refine G.nil (EN.in_normal (EN.tr ?_))
  refine G.mv ?_
  refine G.q rfl rfl rfl rfl (q_shrc (d := 128) rfl rfl rfl (by decide) (by decide)) (G.as ?_)
  refine G.nil ?_
  rw [show (m : Int) / 128 = ((m / 128 : Nat) : Int) by omega]
  exact EN.round (hl := [_]) (m / 128) oM (⟨_, l ++ [UInt8.ofNat (c + 128)], m % 128, by omega, by simp; omega, by rw [List.append_assoc]; exact hgo, rfl, rfl⟩) sB rfl tK sF
 ·
  obtain rfl : m = 0 := by omega
  rw [headGo, dif_pos rfl] at hgo
  refine CG.exit ?_
  refine EN.then_exit (EN.then_exit (EN.in_here ?_))
  refine EN.tsr (G.mv ?_)
  refine G.as ?_
  refine G.nil (EN.then (CG.ret ?_))
  rw [hgo]
  exact fin_ret1 rfl rfl tK sF (rfl) _ (.inl rfl)

set_option maxRecDepth 100000 in
set_option maxHeartbeats 1000000 in
theorem backOf_spec (n : Nat) (hn : n ≤ 1000000000) : Spec Tryz.prog 41 #[.int .i64 n] [] (Ret fun v hl => hl = [own 5 1 v (backL n).length ((backL n).map u8v)]) := by
 refine Spec.enter Tryz.func41 rfl rfl rfl (fun F w0 => ?_)
 dsimp only [argL, List.cons_append, List.nil_append]
 refine CG.sr (G.as ?_)
 refine G.nil (EN.tsr (G.mv ?_))
 refine G.q rfl rfl rfl rfl (q_andm (j := 7) (d := 128) rfl rfl rfl lOm lOm (by decide) (by decide) (by decide)) ?_
 rw [show (n : Int) % 128 = ((n % 128 : Nat) : Int) by omega]
 refine G.q rfl rfl rfl rfl (q_conv_u8 rfl rfl is_3_F4 ik_5_F22) ?_
 rw [u8i_nat]
 refine G.e rfl rfl rfl rfl (e_bslice rfl rfl (bs_80_1_all_F2 _)) (fun _ _ _ _ _ _ => trivial) ?_
 rintro _ _ ⟨b7, rfl, rfl⟩
 refine G.as ?_
 refine G.nil (EN.ts (CG.sr (G.mv ?_)))
 refine G.q rfl rfl rfl rfl (q_shrc (d := 128) rfl rfl rfl (by decide) (by decide)) ?_
 rw [show (n : Int) / 128 = ((n / 128 : Nat) : Int) by omega]
 refine G.as ?_
 refine G.nil (EN.then (CG.block (CG.closeOwn (g := b7) (sz := 1) (n := 1) (cap := 1) (xs := ([UInt8.ofNat (n % 128)] : List UInt8).map u8v) tK1 (by decide) (by decide) rfl rfl ?_)))
 refine CG.loopI (fun m L H => ∃ (v : Value) (l : List UInt8), l.length + m ≤ n / 128 + 1 ∧ backGo2 l m = backL n ∧ L = [(0, .int .i64 m), (3, v)] ∧ H = [own 5 1 v l.length (l.map u8v)] ++ F) (n / 128) (hl := [_]) (⟨_, [UInt8.ofNat (n % 128)], by simp; omega, rfl, rfl, rfl⟩) sB rfl tK sF ?_
 rintro m L H ⟨v, l, hl, hgo, rfl, rfl⟩
 try dsimp only [List.cons_append, List.nil_append]
 refine CG.seq (CG.sr (G.mv ?_))
 refine G.q rfl rfl rfl rfl (q_gtr rfl rfl rfl) (G.nil (EN.then ?_))
 refine CG.cond rfl (fun h11 => ?_) (fun h11 => ?_)
 ·
  rw [backGo2, dif_neg oM] at hgo
  have em : (m : Int) - 1 = ((m - 1 : Nat) : Int) := by omega
  refine CG.skip (EN.ts (CG.block (CG.sr (G.mv ?_))))
  refine G.q rfl rfl rfl rfl (q_sub_i rfl rfl rfl oM) ?_
  rw [em]
  refine G.as ?_
  refine G.nil (EN.tr ?_)
  refine G.mv ?_
  refine G.q rfl rfl rfl rfl (q_andm (j := 7) (d := 128) rfl rfl rfl lOm lOm (by decide) (by decide) (by decide)) ?_
  rw [show ((m - 1 : Nat) : Int) % 128 = (((m - 1) % 128 : Nat) : Int) by omega]
  refine G.q rfl rfl rfl rfl (q_conv_u8 rfl rfl is_3_F4 ik_5_F22) ?_
  rw [u8i_nat]
  refine G.q rfl rfl rfl rfl (q_or rfl rfl rfl) ?_
  rw [or128b (Nat.mod_lt _ oM)]
  refine G.e rfl rfl rfl rfl (e_bslice rfl rfl (bs_80_1_all_F2 _)) (fun _ _ _ _ _ _ => trivial) ?_
  rintro _ _ ⟨b20, rfl, rfl⟩
  refine G.mv ?_
  refine G.closeOwn (g := b20) (sz := 1) (n := 1) (cap := 1) (xs := ([UInt8.ofNat ((m - 1) % 128 + 128)] : List UInt8).map u8v) tK1 (by decide) (by decide) rfl rfl ?_
  refine G.e rfl rfl rfl rfl (e_appendA rfl rfl rfl se_80_F2 nf_5_F2 rfl tK1 (src_own se_80_F2 mB (u8_one _)) oM) (fun _ _ _ _ _ _ => trivial) ?_
  rintro _ _ rfl
  rw [own_consA]
  refine G.as ?_
  refine G.nil (EN.sub (sC 0 (sC 3 Sub.nil)) ?_)
  refine EN.in_normal (EN.tr ?_)
  refine G.mv ?_
  refine G.q rfl rfl rfl rfl (q_shrc (d := 128) rfl rfl rfl (by decide) (by decide)) (G.as ?_)
  refine G.nil ?_
  rw [show ((m - 1 : Nat) : Int) / 128 = (((m - 1) / 128 : Nat) : Int) by omega]
  exact EN.round (hl := [_]) ((m - 1) / 128) oM (⟨_, UInt8.ofNat ((m - 1) % 128 + 128) :: l, by simp; omega, hgo, rfl, rfl⟩) sB rfl tK sF
 ·
  obtain rfl : m = 0 := by omega
  rw [backGo2, dif_pos rfl] at hgo
  refine CG.exit ?_
  refine EN.then_exit (EN.then_exit (EN.in_here ?_))
  refine EN.tsr (G.mv ?_)
  refine G.as ?_
  refine G.nil (EN.then (CG.ret ?_))
  rw [hgo]
  exact fin_ret1 rfl rfl tK sF (rfl) _ (.inl rfl)

set_option maxRecDepth 100000 in
set_option maxHeartbeats 1000000 in
theorem few_spec (s : List UInt8) (n : Nat) : Spec Tryz.prog 5 #[str s, .int .i64 n] [] (Ret fun v hl => v = str (s.take n) ∧ hl = []) := by
 refine Spec.enter Tryz.func5 rfl rfl rfl (fun F w0 => ?_)
 dsimp only [argL, List.cons_append, List.nil_append]
 refine CG.sr (G.as ?_)
 refine G.nil (EN.ts (CG.sr (G.mv ?_)))
 refine G.q rfl rfl rfl rfl (q_len_str rfl rfl us_9_F1) (G.mv ?_)
 refine G.q rfl rfl rfl rfl (q_gtr rfl rfl rfl) (G.nil (EN.then ?_))
 refine CG.cond rfl (fun h8 => ?_) (fun h8 => ?_)
 ·
  refine CG.sr (G.mv ?_)
  refine G.mv ?_
  refine G.q rfl rfl rfl rfl (q_slice_hi rfl rfl rfl us_9_F1 oM) (G.as ?_)
  refine G.nil (EN.then (CG.ret (EN.then_ret ?_)))
  skip
  exact fin_ret1 rfl rfl tK sF (⟨rfl, rfl⟩) _ (.inl rfl)
 ·
  have he : s.take n = s := List.take_of_length_le oM
  refine CG.skip (EN.tsr (G.mv ?_))
  refine G.as ?_
  refine G.nil (EN.then (CG.ret ?_))
  rw [he]
  exact fin_ret1 rfl rfl tK sF (⟨rfl, rfl⟩) _ (.inl rfl)

end Go.Eng
