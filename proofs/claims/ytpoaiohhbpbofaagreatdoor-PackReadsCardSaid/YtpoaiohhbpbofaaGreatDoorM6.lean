/-
  Joined by program out of the texts ZF48 ZF49 ZC6: contracts for the functions that the law reaches, and the engine that proves them.
-/
import Derived.Test.YtpoaiohhbpbofaaGreatDoorM5
import Derived.Test.YtpoaiohhbpbofaaGreatDoorM4
import Derived.Test.YtpoaiohhbpbofaaGreatDoorM3
import Derived.ChangeMaps5
/-
  The reference (ref11): Read, All; PackReads.
-/
set_option linter.unusedVariables false
set_option linter.unusedSimpArgs false
namespace Go.Eng
open Go.Proofs
theorem ag_33_F48 : aggB Tryz.prog 33 = some true := by kernel_rfl
theorem bd_29_F48 : bodied Tryz.prog 29 = true := by kernel_rfl
theorem bd_30_F48 : bodied Tryz.prog 30 = true := by kernel_rfl
theorem bd_31_F48 : bodied Tryz.prog 31 = true := by kernel_rfl
theorem bd_32_F48 : bodied Tryz.prog 32 = true := by kernel_rfl
theorem bd_33_F48 : bodied Tryz.prog 33 = true := by kernel_rfl
theorem bd_7_F48 : bodied Tryz.prog 7 = true := by kernel_rfl
theorem bd_9_F48 : bodied Tryz.prog 9 = true := by kernel_rfl
theorem bs_39_0_all_F48 : ∀ (w : World), (Instr.buildSlice 39 0 [].toArray).run Tryz.prog w = .ok (.slice (some ⟨w.heap.size, 0, none⟩) 0 0) { w with heap := w.heap.push (.cells [].toArray 33) } := fun _ => by kernel_rfl
theorem bs_39_1_all_F48 : ∀ (x0_0 : Int) (x0_1 : Int) (x0_2 : Int) (x0_3 : List UInt8) (x0_4 : Int) (x0_5 : List UInt8) (x0_6 : Int) (w : World), (Instr.buildSlice 39 1 [(0, .agg [.int .i64 x0_0, .int .i64 x0_1, .int .i64 x0_2, str x0_3, .int .i64 x0_4, str x0_5, .int .u32 x0_6].toArray)].toArray).run Tryz.prog w = .ok (.slice (some ⟨w.heap.size, 0, none⟩) 1 1) { w with heap := w.heap.push (.cells [.int .i64 x0_0, .int .i64 x0_1, .int .i64 x0_2, str x0_3, .int .i64 x0_4, str x0_5, .int .u32 x0_6].toArray 33) } := fun _ _ _ _ _ _ _ _ => by kernel_rfl
theorem bu_33_0_2_F48 : ∀ (x0 : Int) (x2 : Int) (w : World), (Instr.build 33 [(0, .int .i64 x0), (2, .int .i64 x2)].toArray).run Tryz.prog w = .ok (.agg [.int .i64 x0, .int .i64 0, .int .i64 x2, str [], .int .i64 0, str [], .int .u32 0].toArray) w := fun _ _ _ => by kernel_rfl
theorem bu_33__F48 : ∀ (w : World), (Instr.build 33 [].toArray).run Tryz.prog w = .ok (.agg [.int .i64 0, .int .i64 0, .int .i64 0, str [], .int .i64 0, str [], .int .u32 0].toArray) w := fun _ => by kernel_rfl
theorem fo_33_1_F48 : fieldOff Tryz.prog 33 1 = some 1 := by kernel_rfl
theorem fo_33_3_F48 : fieldOff Tryz.prog 33 3 = some 3 := by kernel_rfl
theorem fo_33_4_F48 : fieldOff Tryz.prog 33 4 = some 4 := by kernel_rfl
theorem fo_33_5_F48 : fieldOff Tryz.prog 33 5 = some 5 := by kernel_rfl
theorem fo_33_6_F48 : fieldOff Tryz.prog 33 6 = some 6 := by kernel_rfl
theorem nf_33_F48 : infoB Tryz.prog 33 = some (some [.int .i64 0, .int .i64 0, .int .i64 0, str [], .int .i64 0, str [], .int .u32 0], 7, 72) := by kernel_rfl
theorem se_39_F48 : sliceE Tryz.prog 39 = some 33 := by kernel_rfl
theorem sz_33_F48 : sizeB Tryz.prog 33 = some 7 := by kernel_rfl
theorem zl_33_F48 : zeroL Tryz.prog 33 = some [.int .i64 0, .int .i64 0, .int .i64 0, str [], .int .i64 0, str [], .int .u32 0] := by kernel_rfl

theorem refs_o {bb : List UInt8} {a k nx : Nat} (h : k = 1 ∨ k = 2 ∨ k = 3 ∨ k = 4) : Pk.refs bb a k nx = .ok (0, [], nx) := if_pos h
theorem ent_cells2 (x : Pk.Ent) : ([.int .i64 x.at_, .int .i64 x.nx, .int .i64 x.kind, str x.data, .int .i64 x.base, str x.id, .int .u32 x.crc] : List Value) = x.cells := rfl

attribute [local irreducible] cel own exS ownG tabH Sums.hex crc32 zread readE countE

set_option maxRecDepth 100000 in
set_option maxHeartbeats 1000000 in
theorem rread_spec (hL : InflLaw) (s : List UInt8) (at_ : Int) (hs : s.length ≤ 100000000) : Spec Tryz.prog 9 #[str s, .int .i64 at_] [] (Ret fun v hl => v = .tuple #[.agg (readE s at_).1.cells.toArray, .int .i64 ((readE s at_).2 : Nat)] ∧ hl = []) := by
 refine Spec.enter Tryz.func9 rfl rfl rfl (fun F w0 => ?_)
 dsimp only [argL, List.cons_append, List.nil_append]
 refine CG.sr (G.e rfl rfl rfl rfl (e_alloc rfl zl_33_F48) (fun _ _ _ _ _ _ => trivial) ?_)
 rintro _ _ ⟨b4, rfl, rfl⟩
 refine G.as ?_
 refine G.nil (EN.ts (CG.sr (G.mv ?_)))
 refine G.q rfl rfl rfl rfl (q_lss rfl rfl rfl) (G.mv ?_)
 refine G.split (t := 20) rfl (fun g20 => ?_) (fun g20 => ?_)
 ·
  have hE : readE s at_ = (.zero, 1) := by unfold readE; rw [if_pos (.inl g20)]
  refine G.skip rfl rfl rfl (G.skip rfl rfl rfl (G.skip rfl rfl rfl (G.skip rfl rfl rfl (G.skip rfl rfl rfl (G.q rfl rfl rfl rfl (q_pick_t rfl rfl rfl) ?_)))))
  refine G.nil (EN.then (CG.cond_t rfl ?_))
  refine CG.sr (G.q rfl rfl rfl rfl (q_build rfl rfl (bu_33__F48)) ?_)
  refine G.sa0 sz_33_F48 ?_
  refine G.as ?_
  refine G.nil (EN.sub (sC 0 (sC 1 (sC 4 (sC 5 Sub.nil)))) ?_)
  refine EN.then (CG.ret (EN.then_ret ?_))
  exact fin_retCT rfl rfl rfl ag_33_F48 sz_33_F48 mB rfl tK sF (⟨by rw [hE] <;> rfl, rfl⟩) _ (.inl rfl)
 ·
  refine G.mv ?_
  refine G.mv ?_
  refine G.q rfl rfl rfl rfl (q_len_str rfl rfl us_9_F1) (G.q rfl rfl rfl rfl (q_sub_i rfl rfl rfl oM) (G.q rfl rfl rfl rfl (q_gtr rfl rfl rfl) (G.q rfl rfl rfl rfl (q_pick_f rfl rfl rfl) (G.nil (EN.then ?_)))))
  refine CG.cond rfl (fun h26 => ?_) (fun h26 => ?_)
  ·
   have hE : readE s at_ = (.zero, 1) := by unfold readE; rw [if_pos (.inr oM)]
   refine CG.sr (G.q rfl rfl rfl rfl (q_build rfl rfl (bu_33__F48)) ?_)
   refine G.sa0 sz_33_F48 ?_
   refine G.as ?_
   refine G.nil (EN.sub (sC 0 (sC 1 (sC 4 (sC 5 Sub.nil)))) ?_)
   refine EN.then (CG.ret (EN.then_ret ?_))
   exact fin_retCT rfl rfl rfl ag_33_F48 sz_33_F48 mB rfl tK sF (⟨by rw [hE] <;> rfl, rfl⟩) _ (.inl rfl)
  ·
   obtain ⟨a, rfl⟩ := Int.eq_ofNat_of_zero_le (by omega : 0 ≤ at_)
   have hre := readE_in g20 (by omega : ¬ (s.length : Int) - 20 < a)
   obtain ⟨bb, hbb⟩ : ∃ bb, s.take (s.length - 20) = bb := ⟨_, rfl⟩
   have hbl : bb.length = s.length - 20 := by rw [← hbb]; simp
   rw [hbb] at hre
   have e20 : (s.length : Int) - 20 = ((s.length - 20 : Nat) : Int) := by omega
   refine CG.skip (EN.tsr (G.mv ?_))
   refine G.mv ?_
   refine G.q rfl rfl rfl rfl (q_len_str rfl rfl us_9_F1) (G.q rfl rfl rfl rfl (q_sub_i rfl rfl rfl oM) ?_)
   rw [e20]
   refine G.q rfl rfl rfl rfl (q_slice_hi rfl rfl rfl us_9_F1 oM) (G.as ?_)
   refine G.nil (EN.sub (sC 1 (sC 4 (sC 5 (sC 6 Sub.nil)))) ?_)
   refine EN.ts ?_
   rcases hp : Pk.head bb a with e | p
   ·
    have he0 := head_er hp
    have hE : readE s a = (.zero, e) := by rw [hre]; unfold readH; rw [hp]
    rw [hbb]
    refine CG.reg (G.mv ?_)
    refine G.mv ?_
    refine G.call (xs := [_, _]) rfl rfl (rhead_spec bb a oM oM) bd_29_F48 rfl rfl rfl rfl tK (fun _ _ _ _ _ _ => trivial) ?_
    rintro _ _ ⟨rfl, rfl⟩
    rw [hp]
    unfold resH
    try dsimp only [List.cons_append, List.nil_append]
    refine G.mv ?_
    refine G.q rfl rfl rfl rfl (q_extract rfl rfl rfl) (G.q rfl rfl rfl rfl (q_extract rfl rfl rfl) (G.q rfl rfl rfl rfl (q_extract rfl rfl rfl) (G.q rfl rfl rfl rfl (q_extract rfl rfl rfl) (G.as ?_))))
    refine G.as ?_
    refine G.as ?_
    refine G.as ?_
    refine G.nil (EN.ts (CG.sr (G.mv ?_)))
    refine G.q rfl rfl rfl rfl (q_neq rfl rfl rfl) (G.nil (EN.sub (sC 1 (sC 4 (sC 5 (sC 6 (sC 7 (sC 8 (sC 9 (sC 10 (sC 42 Sub.nil))))))))) ?_))
    refine EN.then ?_
    refine CG.cond rfl (fun h42 => ?_) (fun h42 => absurd oM h42)
    refine CG.sr (G.q rfl rfl rfl rfl (q_build rfl rfl (bu_33__F48)) (G.mv ?_))
    refine G.sa0 sz_33_F48 ?_
    refine G.as ?_
    refine G.nil (EN.then (CG.ret (EN.then_ret ?_)))
    exact fin_retCT rfl rfl rfl ag_33_F48 sz_33_F48 mB rfl tK sF (⟨by rw [hE] <;> rfl, rfl⟩) _ (.inl rfl)
   ·
    have hpa := Pk.head_at hp
    rw [hbb]
    refine CG.reg (G.mv ?_)
    refine G.mv ?_
    refine G.call (xs := [_, _]) rfl rfl (rhead_spec bb a oM oM) bd_29_F48 rfl rfl rfl rfl tK (fun _ _ _ _ _ _ => trivial) ?_
    rintro _ _ ⟨rfl, rfl⟩
    rw [hp]
    unfold resH
    try dsimp only [List.cons_append, List.nil_append]
    refine G.mv ?_
    refine G.q rfl rfl rfl rfl (q_extract rfl rfl rfl) (G.q rfl rfl rfl rfl (q_extract rfl rfl rfl) (G.q rfl rfl rfl rfl (q_extract rfl rfl rfl) (G.q rfl rfl rfl rfl (q_extract rfl rfl rfl) (G.as ?_))))
    refine G.as ?_
    refine G.as ?_
    refine G.as ?_
    refine G.nil (EN.ts (CG.sr (G.mv ?_)))
    refine G.q rfl rfl rfl rfl (q_neq rfl rfl rfl) (G.nil (EN.sub (sC 1 (sC 4 (sC 5 (sC 6 (sC 7 (sC 8 (sC 9 (sC 10 (sC 42 Sub.nil))))))))) ?_))
    refine EN.then ?_
    refine CG.cond rfl (fun h42 => absurd h42 (by decide)) (fun h42 => ?_)
    refine CG.skip (EN.tsr (G.mv ?_))
    refine G.mv ?_
    refine G.q rfl rfl rfl rfl (q_build rfl rfl (bu_33_0_2_F48 _ _)) (G.e rfl rfl rfl rfl (e_alloc rfl zl_33_F48) (fun _ _ _ _ _ _ => trivial) ?_)
    rintro _ _ ⟨b11, rfl, rfl⟩
    refine G.sa0 sz_33_F48 ?_
    refine G.nil (EN.then ?_)
    refine CG.cut (fun L H => ∃ q : Nat × List UInt8 × Nat, Pk.refs bb a p.1 p.2.2 = .ok q ∧ L = [(1, .int .i64 a), (4, .pointer (some ⟨b4, 0, none⟩)), (6, str bb), (8, .int .i64 (p.2.1 : Nat)), (9, .int .i64 (q.2.2 : Nat)), (11, .pointer (some ⟨b11, 0, none⟩))] ∧ H = [cel b11 33 [.int .i64 a, .int .i64 0, .int .i64 (p.1 : Nat), str [], .int .i64 (q.1 : Nat), str q.2.1, .int .u32 0], cel b4 33 [.int .i64 0, .int .i64 0, .int .i64 0, str [], .int .i64 0, str [], .int .u32 0]] ++ F) ?_ ?_
    ·
     refine CG.sr (G.mv ?_)
     refine G.nil (EN.then (CG.block (CG.seq (CG.sr (G.q rfl rfl rfl rfl (q_eql rfl rfl rfl) ?_)))))
     refine G.as ?_
     refine G.nil (EN.then ?_)
     refine CG.splitT (t := 50) rfl (fun h50 => ?_) (fun h50 => ?_)
     ·
      have hR : Pk.refs bb a p.1 p.2.2 = .ok (0, [], p.2.2) := refs_o oM
      refine CG.cond_t rfl ?_
      refine CG.skip (EN.then (CG.cond_t rfl ?_))
      refine CG.skip (EN.in_normal ?_)
      exact EN.cut (hl := [_, _]) (⟨_, hR, rfl, rfl⟩) sB rfl tK sF
     ·
      refine CG.cond_f rfl ?_
      refine CG.sr (G.q rfl rfl rfl rfl (q_eql rfl rfl rfl) (G.as ?_))
      refine G.nil (EN.then ?_)
      refine CG.splitT (t := 50) rfl (fun h50 => ?_) (fun h50 => ?_)
      ·
       have hR : Pk.refs bb a p.1 p.2.2 = .ok (0, [], p.2.2) := refs_o oM
       refine CG.cond_t rfl ?_
       refine CG.skip (EN.then (CG.cond_t rfl ?_))
       refine CG.skip (EN.in_normal ?_)
       exact EN.cut (hl := [_, _]) (⟨_, hR, rfl, rfl⟩) sB rfl tK sF
      ·
       refine CG.cond_f rfl ?_
       refine CG.sr (G.q rfl rfl rfl rfl (q_eql rfl rfl rfl) (G.as ?_))
       refine G.nil (EN.sub (sC 1 (sC 4 (sC 5 (sC 6 (sC 8 (sC 9 (sC 11 (sC 48 (sC 50 Sub.nil))))))))) ?_)
       refine EN.then ?_
       refine CG.splitT (t := 50) rfl (fun h50 => ?_) (fun h50 => ?_)
       ·
        have hR : Pk.refs bb a p.1 p.2.2 = .ok (0, [], p.2.2) := refs_o oM
        refine CG.cond_t rfl ?_
        refine CG.skip (EN.then (CG.cond_t rfl ?_))
        refine CG.skip (EN.in_normal ?_)
        exact EN.cut (hl := [_, _]) (⟨_, hR, rfl, rfl⟩) sB rfl tK sF
       ·
        refine CG.cond_f rfl ?_
        refine CG.reg (G.q rfl rfl rfl rfl (q_eql rfl rfl rfl) (G.as ?_))
        refine G.nil (EN.then ?_)
        refine CG.splitT (t := 50) rfl (fun h50 => ?_) (fun h50 => ?_)
        ·
         have hR : Pk.refs bb a p.1 p.2.2 = .ok (0, [], p.2.2) := refs_o oM
         refine CG.cond_t rfl ?_
         refine CG.skip (EN.in_normal ?_)
         exact EN.cut (hl := [_, _]) (⟨_, hR, rfl, rfl⟩) sB rfl tK sF
        ·
         refine CG.cond_f rfl ?_
         refine CG.sr (G.q rfl rfl rfl rfl (q_eql rfl rfl rfl) (G.as ?_))
         refine G.nil (EN.then ?_)
         refine CG.cond rfl (fun h55 => ?_) (fun h55 => ?_)
         ·
          refine CG.seq ?_
          rcases hn : Pk.back bb p.2.2 with e | n
          ·
           have he0 := back_er hn
           have hR : Pk.refs bb a p.1 p.2.2 = .err e := by unfold Pk.refs; rw [if_neg oM, if_pos oM, hn]
           have hE : readE s a = (.zero, e) := by rw [hre]; unfold readH; rw [hp]; simp only; unfold readR; rw [hR]
           refine CG.reg (G.mv ?_)
           refine G.mv ?_
           refine G.call (xs := [_, _]) rfl rfl (rback_spec bb p.2.2 oM oM) bd_30_F48 rfl rfl rfl rfl tK (fun _ _ _ _ _ _ => trivial) ?_
           rintro _ _ ⟨rfl, rfl⟩
           rw [hn]
           unfold resB
           try dsimp only [List.cons_append, List.nil_append]
           refine G.mv ?_
           refine G.q rfl rfl rfl rfl (q_extract rfl rfl rfl) (G.q rfl rfl rfl rfl (q_extract rfl rfl rfl) (G.q rfl rfl rfl rfl (q_extract rfl rfl rfl) (G.as ?_)))
           refine G.as ?_
           refine G.as ?_
           refine G.nil (EN.sub (sC 1 (sC 4 (sC 5 (sC 6 (sC 8 (sC 9 (sC 11 (sC 12 (sC 13 (sC 14 Sub.nil)))))))))) ?_)
           refine EN.ts (CG.sr (G.mv ?_))
           refine G.q rfl rfl rfl rfl (q_neq rfl rfl rfl) (G.nil (EN.then ?_))
           refine CG.cond rfl (fun h65 => ?_) (fun h65 => absurd oM h65)
           refine CG.sr (G.q rfl rfl rfl rfl (q_build rfl rfl (bu_33__F48)) (G.mv ?_))
           refine G.sa0 sz_33_F48 ?_
           refine G.as ?_
           refine G.nil (EN.then (CG.ret (EN.then_ret (EN.in_ret ?_))))
           refine EN.then_ret ?_
           exact fin_retCT rfl rfl rfl ag_33_F48 sz_33_F48 mB rfl tK sF (⟨by rw [hE] <;> rfl, rfl⟩) _ (.inl rfl)
          ·
           have hna := Pk.back_at hn
           refine CG.reg (G.mv ?_)
           refine G.mv ?_
           refine G.call (xs := [_, _]) rfl rfl (rback_spec bb p.2.2 oM oM) bd_30_F48 rfl rfl rfl rfl tK (fun _ _ _ _ _ _ => trivial) ?_
           rintro _ _ ⟨rfl, rfl⟩
           rw [hn]
           unfold resB
           try dsimp only [List.cons_append, List.nil_append]
           refine G.mv ?_
           refine G.q rfl rfl rfl rfl (q_extract rfl rfl rfl) (G.q rfl rfl rfl rfl (q_extract rfl rfl rfl) (G.q rfl rfl rfl rfl (q_extract rfl rfl rfl) (G.as ?_)))
           refine G.as ?_
           refine G.as ?_
           refine G.nil (EN.sub (sC 1 (sC 4 (sC 5 (sC 6 (sC 8 (sC 9 (sC 11 (sC 12 (sC 13 (sC 14 Sub.nil)))))))))) ?_)
           refine EN.ts (CG.sr (G.mv ?_))
           refine G.q rfl rfl rfl rfl (q_neq rfl rfl rfl) (G.nil (EN.then ?_))
           refine CG.cond rfl (fun h65 => absurd h65 (by decide)) (fun h65 => ?_)
           refine CG.skip (EN.ts (CG.sr (G.mv ?_)))
           refine G.q rfl rfl rfl rfl (q_lss rfl rfl rfl) (G.mv ?_)
           refine G.split (t := 70) rfl (fun g70 => ?_) (fun g70 => ?_)
           ·
            have hR : Pk.refs bb a p.1 p.2.2 = .err 3 := by unfold Pk.refs; rw [if_neg oM, if_pos oM, hn]; exact if_pos oM
            have hE : readE s a = (.zero, 3) := by rw [hre]; unfold readH; rw [hp]; simp only; unfold readR; rw [hR]
            refine G.skip rfl rfl rfl (G.skip rfl rfl rfl (G.skip rfl rfl rfl (G.skip rfl rfl rfl (G.q rfl rfl rfl rfl (q_pick_t rfl rfl rfl) (G.nil ?_)))))
            refine EN.sub (sC 1 (sC 4 (sC 5 (sC 6 (sC 8 (sC 9 (sC 11 (sC 12 (sC 13 (sC 75 Sub.nil)))))))))) ?_
            refine EN.then (CG.cond_t rfl ?_)
            refine CG.sr (G.q rfl rfl rfl rfl (q_build rfl rfl (bu_33__F48)) ?_)
            refine G.sa0 sz_33_F48 ?_
            refine G.as ?_
            refine G.nil (EN.then (CG.ret (EN.then_ret (EN.in_ret ?_))))
            refine EN.then_ret ?_
            exact fin_retCT rfl rfl rfl ag_33_F48 sz_33_F48 mB rfl tK sF (⟨by rw [hE] <;> rfl, rfl⟩) _ (.inl rfl)
           ·
            refine G.mv ?_
            refine G.mv ?_
            refine G.q rfl rfl rfl rfl (q_sub_i rfl rfl rfl oM) (G.q rfl rfl rfl rfl (q_gtr rfl rfl rfl) (G.q rfl rfl rfl rfl (q_pick_f rfl rfl rfl) (G.nil (EN.sub (sC 1 (sC 4 (sC 5 (sC 6 (sC 8 (sC 9 (sC 11 (sC 12 (sC 13 (sC 75 Sub.nil)))))))))) ?_))))
            refine EN.then ?_
            refine CG.cond rfl (fun h75 => ?_) (fun h75 => ?_)
            ·
             have hR : Pk.refs bb a p.1 p.2.2 = .err 3 := by unfold Pk.refs; rw [if_neg oM, if_pos oM, hn]; exact if_pos oM
             have hE : readE s a = (.zero, 3) := by rw [hre]; unfold readH; rw [hp]; simp only; unfold readR; rw [hR]
             refine CG.sr (G.q rfl rfl rfl rfl (q_build rfl rfl (bu_33__F48)) ?_)
             refine G.sa0 sz_33_F48 ?_
             refine G.as ?_
             refine G.nil (EN.then (CG.ret (EN.then_ret (EN.in_ret ?_))))
             refine EN.then_ret ?_
             exact fin_retCT rfl rfl rfl ag_33_F48 sz_33_F48 mB rfl tK sF (⟨by rw [hE] <;> rfl, rfl⟩) _ (.inl rfl)
            ·
             have hR : Pk.refs bb a p.1 p.2.2 = .ok (a - n.1, [], n.2) := by unfold Pk.refs; rw [if_neg oM, if_pos oM, hn]; exact if_neg oM
             have ean : (a : Int) - n.1 = ((a - n.1 : Nat) : Int) := by omega
             refine CG.skip (EN.tsr (G.mv ?_))
             refine G.mv ?_
             refine G.q rfl rfl rfl rfl (q_sub_i rfl rfl rfl oM) (G.q rfl rfl rfl rfl (q_field0 rfl rfl fo_33_4_F48) ?_)
             rw [ean]
             refine G.st0 sz_3_F1 ?_
             refine G.nil (EN.tr ?_)
             refine G.mv ?_
             refine G.as ?_
             refine G.nil (EN.in_normal ?_)
             exact EN.cut (hl := [_, _]) (⟨_, hR, rfl, rfl⟩) sB rfl tK sF
         ·
          refine CG.sr (G.q rfl rfl rfl rfl (q_eql rfl rfl rfl) (G.as ?_))
          refine G.nil (EN.then ?_)
          refine CG.cond rfl (fun h82 => ?_) (fun h82 => ?_)
          ·
           refine CG.seq (CG.sr (G.mv ?_))
           refine G.q rfl rfl rfl rfl (q_len_str rfl rfl us_9_F1) (G.mv ?_)
           refine G.q rfl rfl rfl rfl (q_sub_i rfl rfl rfl oM) (G.q rfl rfl rfl rfl (q_lss rfl rfl rfl) (G.nil (EN.sub (sC 1 (sC 4 (sC 5 (sC 6 (sC 8 (sC 9 (sC 11 (sC 88 Sub.nil)))))))) ?_)))
           refine EN.then ?_
           refine CG.cond rfl (fun h88 => ?_) (fun h88 => ?_)
           ·
            have hR : Pk.refs bb a p.1 p.2.2 = .err 6 := by unfold Pk.refs; rw [if_neg oM, if_neg oM, if_pos oM]; exact if_pos oM
            have hE : readE s a = (.zero, 6) := by rw [hre]; unfold readH; rw [hp]; simp only; unfold readR; rw [hR]
            refine CG.sr (G.q rfl rfl rfl rfl (q_build rfl rfl (bu_33__F48)) ?_)
            refine G.sa0 sz_33_F48 ?_
            refine G.as ?_
            refine G.nil (EN.then (CG.ret (EN.then_ret (EN.in_ret ?_))))
            refine EN.then_ret ?_
            exact fin_retCT rfl rfl rfl ag_33_F48 sz_33_F48 mB rfl tK sF (⟨by rw [hE] <;> rfl, rfl⟩) _ (.inl rfl)
           ·
            have hR : Pk.refs bb a p.1 p.2.2 = .ok (0, Sums.hex ((bb.take (p.2.2 + 20)).drop p.2.2), p.2.2 + 20) := by unfold Pk.refs; rw [if_neg oM, if_neg oM, if_pos oM]; exact if_neg oM
            have e20b : (p.2.2 : Int) + 20 = ((p.2.2 + 20 : Nat) : Int) := by omega
            refine CG.skip (EN.tsr (G.mv ?_))
            refine G.mv ?_
            refine G.mv ?_
            refine G.q rfl rfl rfl rfl (q_add_i rfl rfl rfl oM) ?_
            rw [e20b]
            refine G.q rfl rfl rfl rfl (q_slice_lh rfl rfl rfl rfl us_9_F1 oM) (G.call (xs := [_]) rfl rfl (hex01_spec ((bb.take (p.2.2 + 20)).drop p.2.2) (by simp; omega)) bd_31_F48 rfl rfl rfl rfl tK (fun _ _ _ _ _ _ => trivial) ?_)
            rintro _ _ ⟨rfl, rfl⟩
            try dsimp only [List.cons_append, List.nil_append]
            refine G.q rfl rfl rfl rfl (q_field0 rfl rfl fo_33_5_F48) ?_
            refine G.st0 sz_9_F11 ?_
            refine G.nil (EN.tr ?_)
            refine G.mv ?_
            refine G.q rfl rfl rfl rfl (q_add_i rfl rfl rfl oM) ?_
            rw [e20b]
            refine G.as ?_
            refine G.nil (EN.sub (sC 1 (sC 4 (sC 5 (sC 6 (sC 8 (sC 9 (sC 11 Sub.nil))))))) ?_)
            refine EN.in_normal ?_
            exact EN.cut (hl := [_, _]) (⟨_, hR, rfl, rfl⟩) sB rfl tK sF
          ·
           have hR : Pk.refs bb a p.1 p.2.2 = .err 10 := by unfold Pk.refs; rw [if_neg oM, if_neg oM, if_neg oM]
           have hE : readE s a = (.zero, 10) := by rw [hre]; unfold readH; rw [hp]; simp only; unfold readR; rw [hR]
           refine CG.sr (G.q rfl rfl rfl rfl (q_build rfl rfl (bu_33__F48)) ?_)
           refine G.sa0 sz_33_F48 ?_
           refine G.as ?_
           refine G.nil (EN.then (CG.ret (EN.in_ret ?_)))
           refine EN.then_ret ?_
           exact fin_retCT rfl rfl rfl ag_33_F48 sz_33_F48 mB rfl tK sF (⟨by rw [hE] <;> rfl, rfl⟩) _ (.inl rfl)
    ·
     rintro L H ⟨q, hR, rfl, rfl⟩
     try dsimp only [List.cons_append, List.nil_append]
     have hqa := Pk.refs_at hpa.2 hR
     refine CG.seq (CG.sr (G.mv ?_))
     refine G.q rfl rfl rfl rfl (q_gtr rfl rfl rfl) (G.nil (EN.then ?_))
     refine CG.cond rfl (fun h100 => ?_) (fun h100 => ?_)
     ·
      have hE : readE s a = (.zero, 2) := by rw [hre]; unfold readH; rw [hp]; simp only; unfold readR; rw [hR]; exact if_pos oM
      refine CG.sr (G.q rfl rfl rfl rfl (q_build rfl rfl (bu_33__F48)) ?_)
      refine G.sa0 sz_33_F48 ?_
      refine G.as ?_
      refine G.nil (EN.then (CG.ret (EN.then_ret ?_)))
      exact fin_retCT rfl rfl rfl ag_33_F48 sz_33_F48 mB rfl tK sF (⟨by rw [hE] <;> rfl, rfl⟩) _ (.inl rfl)
     ·
      obtain ⟨z, hz⟩ : ∃ z, zread bb q.2.2 p.2.1 = z := ⟨_, rfl⟩
      have hzl := zread_len bb oM q.2.2 p.2.1
      have hzn := zread_end (s := bb) (a := q.2.2) (m := p.2.1)
      rw [hz] at hzl hzn
      have hre2 : readE s a = readZ bb a p.1 q.1 q.2.1 q.2.2 p.2.1 z := by rw [hre]; unfold readH; rw [hp]; simp only; unfold readR; rw [hR]; simp only; rw [if_neg oM, hz]
      refine CG.skip (EN.tsr (G.mv ?_))
      refine G.mv ?_
      refine G.mv ?_
      refine G.call (xs := [_, _, _]) rfl rfl (read06_spec hL bb q.2.2 p.2.1 oM oM oM) bd_32_F48 rfl rfl rfl rfl tK (fun _ _ _ _ _ _ => trivial) ?_
      rintro _ _ ⟨rfl, rfl⟩
      rw [hz]
      unfold inflV
      try dsimp only [List.cons_append, List.nil_append]
      refine G.mv ?_
      refine G.q rfl rfl rfl rfl (q_extract rfl rfl rfl) (G.q rfl rfl rfl rfl (q_extract rfl rfl rfl) (G.q rfl rfl rfl rfl (q_extract rfl rfl rfl) (G.as ?_)))
      refine G.as ?_
      refine G.as ?_
      refine G.nil (EN.sub (sC 1 (sC 4 (sC 6 (sC 8 (sC 9 (sC 11 (sC 15 (sC 16 (sC 17 Sub.nil))))))))) ?_)
      refine EN.ts (CG.sr (G.mv ?_))
      refine G.q rfl rfl rfl rfl (q_eql rfl rfl rfl) (G.mv ?_)
      refine G.split (t := 112) rfl (fun g112 => ?_) (fun g112 => ?_)
      ·
       have hze : zerr p.2.1 z = 3 := if_pos (.inl oM)
       have hE : readE s a = (.zero, 3) := by rw [hre2]; unfold readZ; rw [hze]; exact if_pos (by decide)
       refine G.skip rfl rfl rfl (G.skip rfl rfl rfl (G.skip rfl rfl rfl (G.skip rfl rfl rfl (G.skip rfl rfl rfl (G.skip rfl rfl rfl ?_)))))
       refine G.skip rfl rfl rfl (G.skip rfl rfl rfl (G.q rfl rfl rfl rfl (q_pick_t rfl rfl rfl) (G.nil (EN.sub (sC 1 (sC 4 (sC 6 (sC 9 (sC 11 (sC 15 (sC 16 (sC 17 (sC 121 Sub.nil))))))))) ?_))))
       refine EN.then (CG.cond_t rfl ?_)
       refine CG.sr (G.q rfl rfl rfl rfl (q_build rfl rfl (bu_33__F48)) ?_)
       refine G.sa0 sz_33_F48 ?_
       refine G.as ?_
       refine G.nil (EN.then (CG.ret (EN.then_ret ?_)))
       exact fin_retCT rfl rfl rfl ag_33_F48 sz_33_F48 mB rfl tK sF (⟨by rw [hE] <;> rfl, rfl⟩) _ (.inl rfl)
      ·
       refine G.mv ?_
       refine G.q rfl rfl rfl rfl (q_eql rfl rfl rfl) (G.mv ?_)
       refine G.split (t := 115) rfl (fun g115 => ?_) (fun g115 => ?_)
       ·
        refine G.mv ?_
        refine G.q rfl rfl rfl rfl (q_len_str rfl rfl us_9_F1) (G.mv ?_)
        refine G.q rfl rfl rfl rfl (q_lss rfl rfl rfl) (G.q rfl rfl rfl rfl (q_pick_t rfl rfl rfl) (G.q rfl rfl rfl rfl (q_pick_f rfl rfl rfl) (G.nil (EN.sub (sC 1 (sC 4 (sC 6 (sC 9 (sC 11 (sC 15 (sC 16 (sC 17 (sC 121 Sub.nil))))))))) ?_))))
        refine EN.then ?_
        refine CG.cond rfl (fun h121 => ?_) (fun h121 => ?_)
        ·
         have hze : zerr p.2.1 z = 3 := if_pos (.inr oM)
         have hE : readE s a = (.zero, 3) := by rw [hre2]; unfold readZ; rw [hze]; exact if_pos (by decide)
         refine CG.sr (G.q rfl rfl rfl rfl (q_build rfl rfl (bu_33__F48)) ?_)
         refine G.sa0 sz_33_F48 ?_
         refine G.as ?_
         refine G.nil (EN.then (CG.ret (EN.then_ret ?_)))
         exact fin_retCT rfl rfl rfl ag_33_F48 sz_33_F48 mB rfl tK sF (⟨by rw [hE] <;> rfl, rfl⟩) _ (.inl rfl)
        ·
         have hze : zerr p.2.1 z = z.2.2 := if_neg oM
         refine CG.skip (EN.ts (CG.sr (G.mv ?_)))
         refine G.q rfl rfl rfl rfl (q_neq rfl rfl rfl) (G.nil (EN.then ?_))
         refine CG.cond rfl (fun h124 => ?_) (fun h124 => ?_)
         ·
          have hE : readE s a = (.zero, z.2.2) := by rw [hre2]; unfold readZ; rw [hze]; exact if_pos oM
          refine CG.sr (G.q rfl rfl rfl rfl (q_build rfl rfl (bu_33__F48)) (G.mv ?_))
          refine G.sa0 sz_33_F48 ?_
          refine G.as ?_
          refine G.nil (EN.then (CG.ret (EN.then_ret ?_)))
          exact fin_retCT rfl rfl rfl ag_33_F48 sz_33_F48 mB rfl tK sF (⟨by rw [hE] <;> rfl, rfl⟩) _ (.inl rfl)
         ·
          have hz0 := zerr_0 (size := p.2.1) (z := z) oM
          have hzn2 := hzn hz0.1
          have hE : readE s a = (⟨a, (q.2.2 + z.2.1 : Nat), p.1, z.1, q.1, q.2.1, crc32 ((bb.take (q.2.2 + z.2.1)).drop a)⟩, 0) := by rw [hre2]; unfold readZ; rw [hze]; exact if_neg oM
          have ez : (q.2.2 : Int) + z.2.1 = ((q.2.2 + z.2.1 : Nat) : Int) := by omega
          refine CG.skip (EN.tsr (G.mv ?_))
          refine G.q rfl rfl rfl rfl (q_field0 rfl rfl fo_33_3_F48) ?_
          refine G.st0 sz_9_F11 ?_
          refine G.nil (EN.tsr (G.mv ?_))
          refine G.mv ?_
          refine G.q rfl rfl rfl rfl (q_add_i rfl rfl rfl oM) (G.q rfl rfl rfl rfl (q_field0 rfl rfl fo_33_1_F48) ?_)
          rw [ez]
          refine G.st0 sz_3_F1 ?_
          refine G.nil (EN.sub (sC 1 (sC 4 (sC 6 (sC 11 Sub.nil)))) ?_)
          refine EN.tsr (G.mv ?_)
          refine G.mv ?_
          refine G.q rfl rfl rfl rfl (q_field0 rfl rfl fo_33_1_F48) (G.ld ag_3_F1 ?_)
          refine G.q rfl rfl rfl rfl (q_slice_lh rfl rfl rfl rfl us_9_F1 oM) (G.call (xs := [_]) rfl rfl (crc01_spec ((bb.take (q.2.2 + z.2.1)).drop a) (by simp; omega)) bd_33_F48 rfl rfl rfl rfl tK (fun _ _ _ _ _ _ => trivial) ?_)
          rintro _ _ ⟨rfl, rfl⟩
          try dsimp only [List.cons_append, List.nil_append]
          refine G.q rfl rfl rfl rfl (q_field0 rfl rfl fo_33_6_F48) ?_
          refine G.st0 sz_28_F3 ?_
          refine G.nil (EN.sub (sC 4 (sC 11 Sub.nil)) ?_)
          refine EN.tsr (G.ldA ag_33_F48 sz_33_F48 ?_)
          refine G.sa0 sz_33_F48 ?_
          refine G.as ?_
          refine G.nil (EN.then (CG.ret ?_))
          exact fin_retCT rfl rfl rfl ag_33_F48 sz_33_F48 mB rfl tK sF (⟨by rw [hE] <;> rfl, rfl⟩) _ (.inl rfl)
       ·
        have hze : zerr p.2.1 z = z.2.2 := if_neg oM
        refine G.skip rfl rfl rfl (G.skip rfl rfl rfl (G.skip rfl rfl rfl (G.skip rfl rfl rfl (G.q rfl rfl rfl rfl (q_pick_f rfl rfl rfl) (G.q rfl rfl rfl rfl (q_pick_f rfl rfl rfl) ?_)))))
        refine G.nil (EN.sub (sC 1 (sC 4 (sC 6 (sC 9 (sC 11 (sC 15 (sC 16 (sC 17 (sC 121 Sub.nil))))))))) ?_)
        refine EN.then (CG.cond_f rfl ?_)
        refine CG.skip (EN.ts (CG.sr (G.mv ?_)))
        refine G.q rfl rfl rfl rfl (q_neq rfl rfl rfl) (G.nil (EN.then ?_))
        refine CG.cond rfl (fun h124 => ?_) (fun h124 => ?_)
        ·
         have hE : readE s a = (.zero, z.2.2) := by rw [hre2]; unfold readZ; rw [hze]; exact if_pos oM
         refine CG.sr (G.q rfl rfl rfl rfl (q_build rfl rfl (bu_33__F48)) (G.mv ?_))
         refine G.sa0 sz_33_F48 ?_
         refine G.as ?_
         refine G.nil (EN.then (CG.ret (EN.then_ret ?_)))
         exact fin_retCT rfl rfl rfl ag_33_F48 sz_33_F48 mB rfl tK sF (⟨by rw [hE] <;> rfl, rfl⟩) _ (.inl rfl)
        ·
         have hz0 := zerr_0 (size := p.2.1) (z := z) oM
         have hzn2 := hzn hz0.1
         have hE : readE s a = (⟨a, (q.2.2 + z.2.1 : Nat), p.1, z.1, q.1, q.2.1, crc32 ((bb.take (q.2.2 + z.2.1)).drop a)⟩, 0) := by rw [hre2]; unfold readZ; rw [hze]; exact if_neg oM
         have ez : (q.2.2 : Int) + z.2.1 = ((q.2.2 + z.2.1 : Nat) : Int) := by omega
         refine CG.skip (EN.tsr (G.mv ?_))
         refine G.q rfl rfl rfl rfl (q_field0 rfl rfl fo_33_3_F48) ?_
         refine G.st0 sz_9_F11 ?_
         refine G.nil (EN.tsr (G.mv ?_))
         refine G.mv ?_
         refine G.q rfl rfl rfl rfl (q_add_i rfl rfl rfl oM) (G.q rfl rfl rfl rfl (q_field0 rfl rfl fo_33_1_F48) ?_)
         rw [ez]
         refine G.st0 sz_3_F1 ?_
         refine G.nil (EN.sub (sC 1 (sC 4 (sC 6 (sC 11 Sub.nil)))) ?_)
         refine EN.tsr (G.mv ?_)
         refine G.mv ?_
         refine G.q rfl rfl rfl rfl (q_field0 rfl rfl fo_33_1_F48) (G.ld ag_3_F1 ?_)
         refine G.q rfl rfl rfl rfl (q_slice_lh rfl rfl rfl rfl us_9_F1 oM) (G.call (xs := [_]) rfl rfl (crc01_spec ((bb.take (q.2.2 + z.2.1)).drop a) (by simp; omega)) bd_33_F48 rfl rfl rfl rfl tK (fun _ _ _ _ _ _ => trivial) ?_)
         rintro _ _ ⟨rfl, rfl⟩
         try dsimp only [List.cons_append, List.nil_append]
         refine G.q rfl rfl rfl rfl (q_field0 rfl rfl fo_33_6_F48) ?_
         refine G.st0 sz_28_F3 ?_
         refine G.nil (EN.sub (sC 4 (sC 11 Sub.nil)) ?_)
         refine EN.tsr (G.ldA ag_33_F48 sz_33_F48 ?_)
         refine G.sa0 sz_33_F48 ?_
         refine G.as ?_
         refine G.nil (EN.then (CG.ret ?_))
         exact fin_retCT rfl rfl rfl ag_33_F48 sz_33_F48 mB rfl tK sF (⟨by rw [hE] <;> rfl, rfl⟩) _ (.inl rfl)

set_option maxRecDepth 100000 in
set_option maxHeartbeats 1000000 in
theorem rall_spec (hL : InflLaw) (s : List UInt8) (hs : s.length ≤ 100000000) : Spec Tryz.prog 11 #[str s] [] (Ret fun v hl => ∃ sv, v = .tuple #[sv, .int .i64 ((allE s).2 : Nat)] ∧ hl = [own 33 7 sv (allE s).1.length ((allE s).1.flatMap Pk.Ent.cells)]) := by
 obtain ⟨hn1, hn2⟩ := count_le s
 obtain ⟨p, hp⟩ : ∃ p, countE s = p := ⟨_, rfl⟩
 rw [hp] at hn1 hn2
 refine Spec.enter Tryz.func11 rfl rfl rfl (fun F w0 => ?_)
 dsimp only [argL, List.cons_append, List.nil_append]
 refine CG.sr (G.as ?_)
 refine G.as ?_
 refine G.nil (EN.tsr (G.mv ?_))
 refine G.call (xs := [_]) rfl rfl (rcount_spec s hs) bd_7_F48 rfl rfl rfl rfl tK (fun _ _ _ _ _ _ => trivial) ?_
 rintro _ _ ⟨rfl, rfl⟩
 rw [hp]
 try dsimp only [List.cons_append, List.nil_append]
 refine G.mv ?_
 refine G.q rfl rfl rfl rfl (q_extract rfl rfl rfl) (G.q rfl rfl rfl rfl (q_extract rfl rfl rfl) (G.as ?_))
 refine G.as ?_
 refine G.nil (EN.ts (CG.sr (G.mv ?_)))
 refine G.q rfl rfl rfl rfl (q_neq rfl rfl rfl) (G.nil (EN.then ?_))
 refine CG.cond rfl (fun h17 => ?_) (fun h17 => ?_)
 ·
  have hE : allE s = ([], p.2) := by unfold allE; rw [hp, if_pos oM]
  refine CG.sr (G.mv ?_)
  refine G.as ?_
  refine G.as ?_
  refine G.nil (EN.sub (sC 0 (sC 2 (sC 3 (sC 4 Sub.nil)))) ?_)
  refine EN.then (CG.ret (EN.then_ret (EN.ownNil 33 7 ?_)))
  rw [hE]
  exact fin_ret2 rfl rfl rfl tK sF (⟨_, rfl, rfl⟩) _ (.inl rfl)
 ·
  have hp0 : p.2 = 0 := by omega
  have hE0 : allE s = allR s (allGo s p.1 12 []) := by unfold allE; rw [hp, if_neg oM]
  have h32 := hn2 hp0
  refine CG.skip (EN.tsr (G.e rfl rfl rfl rfl (e_bslice rfl rfl (bs_39_0_all_F48)) (fun _ _ _ _ _ _ => trivial) ?_))
  rintro _ _ ⟨b19, rfl, rfl⟩
  refine G.as ?_
  refine G.nil (EN.sub (sC 0 (sC 2 (sC 3 (sC 4 (sC 6 Sub.nil))))) ?_)
  refine EN.tsr (G.as ?_)
  refine G.nil (EN.ts (CG.sr (G.as ?_)))
  refine G.nil (EN.then (CG.block (CG.closeOwn (g := b19) (sz := 7) (n := 0) (cap := 0) (xs := []) tK1 (by decide) (by decide) rfl rfl ?_)))
  refine CG.loopI (fun m L H => ∃ (k : Nat) (a : Int) (l : List Pk.Ent) (v : Value), k + m = p.1 ∧ l.length = k ∧ allGo s m a l = allGo s p.1 12 [] ∧ L = [(0, str s), (4, .int .i64 (p.1 : Nat)), (6, v), (7, .int .i64 a), (8, .int .i64 k)] ∧ H = [own 33 7 v l.length (l.flatMap Pk.Ent.cells)] ++ F) (p.1) (hl := [_]) (⟨0, 12, [], _, by omega, rfl, rfl, rfl, rfl⟩) sB rfl tK sF ?_
  rintro m L H ⟨k, a, l, v, hk, hl, hgo, rfl, rfl⟩
  try dsimp only [List.cons_append, List.nil_append]
  have ek : (k : Int) + 1 = ((k + 1 : Nat) : Int) := by omega
  refine CG.seq (CG.sr (G.mv ?_))
  refine G.mv ?_
  refine G.q rfl rfl rfl rfl (q_lss rfl rfl rfl) (G.nil (EN.then ?_))
  refine CG.cond rfl (fun h22 => ?_) (fun h22 => ?_)
  ·
   obtain ⟨m, rfl⟩ : ∃ j, m = j + 1 := ⟨m - 1, by omega⟩
   rw [allGo] at hgo
   refine CG.skip (EN.ts (CG.block (CG.sr (G.mv ?_))))
   refine G.mv ?_
   refine G.call (xs := [_, _]) rfl rfl (rread_spec hL s a hs) bd_9_F48 rfl rfl rfl rfl tK (fun _ _ _ _ _ _ => trivial) ?_
   rintro _ _ ⟨rfl, rfl⟩
   try dsimp only [List.cons_append, List.nil_append]
   refine G.mv ?_
   refine G.q rfl rfl rfl rfl (q_extract rfl rfl rfl) (G.q rfl rfl rfl rfl (q_extract rfl rfl rfl) (G.e rfl rfl rfl rfl (e_alloc rfl zl_33_F48) (fun _ _ _ _ _ _ => trivial) ?_))
   rintro _ _ ⟨b9, rfl, rfl⟩
   refine G.sa0 sz_33_F48 ?_
   refine G.as ?_
   refine G.nil (EN.sub (sC 0 (sC 4 (sC 6 (sC 7 (sC 8 (sC 9 (sC 10 Sub.nil))))))) ?_)
   refine EN.ts (CG.sr (G.mv ?_))
   refine G.q rfl rfl rfl rfl (q_neq rfl rfl rfl) (G.nil (EN.then ?_))
   refine CG.cond rfl (fun h32 => ?_) (fun h32 => ?_)
   ·
    rw [if_pos oM] at hgo
    have hE : allE s = ([], (readE s a).2) := by rw [hE0, ← hgo]; rfl
    refine CG.sr (G.mv ?_)
    refine G.as ?_
    refine G.as ?_
    refine G.nil (EN.then (CG.ret (EN.then_ret (EN.in_ret ?_))))
    refine EN.then_ret (EN.then_ret (EN.in_ret ?_))
    refine EN.then_ret (EN.ownNil 33 7 ?_)
    rw [hE]
    exact fin_ret2 rfl rfl rfl tK sF (⟨_, rfl, rfl⟩) _ (.inl rfl)
   ·
    rw [if_neg oM] at hgo
    refine CG.skip (EN.tsr (G.mv ?_))
    refine G.ldA ag_33_F48 sz_33_F48 ?_
    refine G.e rfl rfl rfl rfl (e_bslice rfl rfl (bs_39_1_all_F48 _ _ _ _ _ _ _)) (fun _ _ _ _ _ _ => trivial) ?_
    rintro _ _ ⟨b36, rfl, rfl⟩
    refine G.e rfl rfl rfl rfl (e_append rfl rfl rfl se_39_F48 nf_33_F48 rfl tK1 mB (by rfl) (by simp [Value.oneCell', str]) oM) (fun _ _ _ _ _ _ => trivial) ?_
    rintro _ _ rfl
    rw [ent_cells2, own_flat]
    refine G.as ?_
    refine G.nil (EN.tr ?_)
    refine G.q rfl rfl rfl rfl (q_field0 rfl rfl fo_33_1_F48) (G.ld ag_3_F1 ?_)
    refine G.as ?_
    refine G.nil (EN.sub (sC 0 (sC 4 (sC 6 (sC 7 (sC 8 Sub.nil))))) ?_)
    refine EN.in_normal (EN.tr ?_)
    refine G.mv ?_
    refine G.q rfl rfl rfl rfl (q_add_i rfl rfl rfl oM) (G.as ?_)
    refine G.nil ?_
    rw [ek]
    exact EN.round (hl := [_]) (m) oM (⟨k + 1, (readE s a).1.nx, l ++ [(readE s a).1], _, by omega, by simp; omega, hgo, rfl, rfl⟩) sB rfl tK sF
  ·
   obtain rfl : m = 0 := by omega
   rw [allGo] at hgo
   refine CG.exit ?_
   refine EN.then_exit (EN.then_exit (EN.in_here ?_))
   refine EN.ts (CG.sr (G.mv ?_))
   refine G.mv ?_
   refine G.q rfl rfl rfl rfl (q_len_str rfl rfl us_9_F1) (G.q rfl rfl rfl rfl (q_sub_i rfl rfl rfl oM) (G.q rfl rfl rfl rfl (q_neq rfl rfl rfl) (G.nil (EN.sub (sC 6 (sC 44 Sub.nil)) ?_))))
   refine EN.then ?_
   refine CG.cond rfl (fun h44 => ?_) (fun h44 => ?_)
   ·
    have hE : allE s = ([], 3) := by rw [hE0, ← hgo]; exact if_pos oM
    refine CG.sr (G.as ?_)
    refine G.as ?_
    refine G.nil (EN.then (CG.ret (EN.then_ret (EN.ownNil 33 7 ?_))))
    rw [hE]
    exact fin_ret2 rfl rfl rfl tK sF (⟨_, rfl, rfl⟩) _ (.inl rfl)
   ·
    have hE : allE s = (l, 0) := by rw [hE0, ← hgo]; exact if_neg oM
    refine CG.skip (EN.tsr (G.mv ?_))
    refine G.as ?_
    refine G.as ?_
    refine G.nil (EN.then (CG.ret (EN.ownNil 33 7 ?_)))
    rw [hE]
    exact fin_ret2 rfl rfl rfl tK sF (⟨_, rfl, rfl⟩) _ (.inl rfl)

end Go.Eng
/-
  Laws of packs: same, PackReads.
-/
set_option linter.unusedVariables false
set_option linter.unusedSimpArgs false
namespace Go.Eng
open Go.Proofs
theorem bd_10_F49 : bodied Tryz.prog 10 = true := by kernel_rfl
theorem bd_11_F49 : bodied Tryz.prog 11 = true := by kernel_rfl
theorem bd_12_F49 : bodied Tryz.prog 12 = true := by kernel_rfl
theorem bd_13_F49 : bodied Tryz.prog 13 = true := by kernel_rfl
theorem bd_5_F49 : bodied Tryz.prog 5 = true := by kernel_rfl
theorem zl_30_F49 : zeroL Tryz.prog 30 = some [.int .i64 0, .int .i64 0, .int .i64 0, str [], .int .i64 0, str [], .int .u32 0] := by kernel_rfl
theorem zl_33_F49 : zeroL Tryz.prog 33 = some [.int .i64 0, .int .i64 0, .int .i64 0, str [], .int .i64 0, str [], .int .u32 0] := by kernel_rfl

theorem stood_entR : Tryz.prog.stoodInHeld 33 = false := by kernel_rfl
theorem guard_entR : Tryz.prog.eqGuardType Tryz.prog.depth 33 = false := by kernel_rfl
theorem neq_entR (x : Pk.Ent) (a b : Operand) (w : World) : ((do eqGuard .neq 33 a b (.agg x.cells.toArray) (.agg x.cells.toArray); binOp .neq 33 (.agg x.cells.toArray) (.agg x.cells.toArray)) : Sem Value).run Tryz.prog w = .ok (.bool false) w := by
  have hs : Tryz.prog.underlying 33 = some (.struct (Tryz.prog.fieldsOf 33)) := by unfold Program.fieldsOf; rw [Tryz.underlying33]
  rw [Sem.run_bind, run_eqGuard_agg w .neq 33 a b _ _ guard_entR]
  simp only [Result.andThen_ok]
  rw [run_neq_struct, run_equalIn_agg w 9999 33 _ _ hs stood_entR]
  unfold Program.fieldsOf
  rw [Tryz.underlying33]
  have i3 := fun (w : World) (a b : Int) => run_equalIn_int (P := Tryz.prog) w 9998 3 .i64 .i64 a b Tryz.underlying3
  have s9 := fun (w : World) (a b : ByteArray) => run_equalIn_string (P := Tryz.prog) w 9998 9 a b Tryz.underlying9
  have i32 := fun (w : World) (a b : Int) => run_equalIn_int (P := Tryz.prog) w 9998 28 .u32 .u32 a b Tryz.underlying28
  simp only [Nat.reduceAdd] at i3 s9 i32
  simp [Op.eqFields, Pk.Ent.cells, str, Go.part, Go.isAgg, run_underlying Tryz.underlying3, run_underlying Tryz.underlying9, run_underlying Tryz.underlying28, i3, s9, i32]
theorem eql_entR (x : Pk.Ent) (a b : Operand) (w : World) : ((do eqGuard .eql 33 a b (.agg x.cells.toArray) (.agg x.cells.toArray); binOp .eql 33 (.agg x.cells.toArray) (.agg x.cells.toArray)) : Sem Value).run Tryz.prog w = .ok (.bool true) w := by
  have hs : Tryz.prog.underlying 33 = some (.struct (Tryz.prog.fieldsOf 33)) := by unfold Program.fieldsOf; rw [Tryz.underlying33]
  rw [Sem.run_bind, run_eqGuard_agg w .eql 33 a b _ _ guard_entR]
  simp only [Result.andThen_ok]
  rw [run_eql_struct, run_equalIn_agg w 9999 33 _ _ hs stood_entR]
  unfold Program.fieldsOf
  rw [Tryz.underlying33]
  have i3 := fun (w : World) (a b : Int) => run_equalIn_int (P := Tryz.prog) w 9998 3 .i64 .i64 a b Tryz.underlying3
  have s9 := fun (w : World) (a b : ByteArray) => run_equalIn_string (P := Tryz.prog) w 9998 9 a b Tryz.underlying9
  have i32 := fun (w : World) (a b : Int) => run_equalIn_int (P := Tryz.prog) w 9998 28 .u32 .u32 a b Tryz.underlying28
  simp only [Nat.reduceAdd] at i3 s9 i32
  simp [Op.eqFields, Pk.Ent.cells, str, Go.part, Go.isAgg, run_underlying Tryz.underlying3, run_underlying Tryz.underlying9, run_underlying Tryz.underlying28, i3, s9, i32]
theorem allGo_len (s : List UInt8) : ∀ (k : Nat) (a : Int) (l : List Pk.Ent) (q : List Pk.Ent × Int), allGo s k a l = .ok q → q.1.length = l.length + k
  | 0, a, l, q, h => by cases h; rfl
  | k + 1, a, l, q, h => by
    unfold allGo at h
    split at h
    · cases h
    · have := allGo_len s k _ _ q h; simp at this; omega
theorem allE_len (s : List UInt8) : (allE s).1.length ≤ 1000 := by
  have hc := (count_le s).1
  unfold allE
  split
  · simp
  · cases hg : allGo s (countE s).1 12 [] with
    | err e => simp [allR]
    | ok q =>
      have := allGo_len s _ _ _ q hg
      unfold allR; dsimp only
      split
      · simp
      · simp at this; simp only; omega

attribute [local irreducible] cel own exS ownG tabH TabI allE countE readE

set_option maxRecDepth 100000 in
set_option maxHeartbeats 1000000 in
theorem same_spec (l : List Pk.Ent) (ad1 ad2 : Option Addr) (c1 c2 : Nat) (hl : l.length ≤ 1000000) : Spec Tryz.prog 13 #[.slice ad1 l.length c1, .slice ad2 l.length c2] [ownO 30 7 (.slice ad1 l.length c1) l.length (l.flatMap Pk.Ent.cells), ownO 33 7 (.slice ad2 l.length c2) l.length (l.flatMap Pk.Ent.cells)] (Ret fun v hl => v = .bool true ∧ hl = [ownO 30 7 (.slice ad1 l.length c1) l.length (l.flatMap Pk.Ent.cells), ownO 33 7 (.slice ad2 l.length c2) l.length (l.flatMap Pk.Ent.cells)]) := by
 refine Spec.enter Tryz.func13 rfl rfl rfl (fun F w0 => ?_)
 dsimp only [argL, List.cons_append, List.nil_append]
 refine CG.sr (G.as ?_)
 refine G.nil (EN.ts (CG.sr (G.mv ?_)))
 refine G.q rfl rfl rfl rfl (q_len_sl rfl rfl se_36_F21) (G.mv ?_)
 refine G.q rfl rfl rfl rfl (q_len_sl rfl rfl se_39_F48) (G.q rfl rfl rfl rfl (q_neq rfl rfl rfl) (G.nil (EN.then ?_)))
 refine CG.cond rfl (fun h10 => absurd h10 (fun h => h rfl)) (fun h10 => ?_)
 refine CG.skip (EN.ts (CG.sr (G.mv ?_)))
 refine G.q rfl rfl rfl rfl (q_len_sl rfl rfl se_36_F21) (G.mv ?_)
 refine G.nil (EN.then (CG.block (CG.loopI (fun m L H => ∃ k : Nat, k ≤ l.length ∧ m = l.length - k ∧ L = [(0, .slice ad1 l.length c1), (1, .slice ad2 l.length c2), (12, .int .i64 l.length), (13, .int .i64 k)] ∧ H = [ownO 30 7 (.slice ad1 l.length c1) l.length (l.flatMap Pk.Ent.cells), ownO 33 7 (.slice ad2 l.length c2) l.length (l.flatMap Pk.Ent.cells)] ++ F) (l.length - 0) (hl := [_, _]) (⟨0, Nat.zero_le _, rfl, rfl, rfl⟩) sB rfl tK sF ?_)))
 rintro m L H ⟨k, hk, rfl, rfl, rfl⟩
 try dsimp only [List.cons_append, List.nil_append]
 refine CG.sr (G.q rfl rfl rfl rfl (q_lss rfl rfl rfl) (G.nil (EN.ts ?_)))
 refine CG.cond rfl (fun h14 => ?_) (fun h14 => ?_)
 ·
  have hj : k < l.length := by omega
  refine CG.someO (T := 30) (z := false) tK1 oM (fun g1 o1 e => ?_)
  subst e
  refine CG.someO (z := false) (T := 33) tK1 oM (fun g2 o2 e => ?_)
  subst e
  obtain ⟨y, hy⟩ := get_some hj
  refine CG.skip (EN.ts (CG.block (CG.sr (G.mv ?_))))
  refine G.as ?_
  refine G.nil (EN.ts ?_)
  refine CG.regT [] mixed (by kernel_rfl) ?_
  refine G.mv ?_
  refine G.mv ?_
  refine G.q rfl rfl rfl rfl (q_ixaddr rfl rfl rfl se_36_F21 sz_30_F19 (hj)) (G.r rfl rfl rfl rfl (r_loadOA rfl rfl ag_30_F20 sz_30_F19 mB rfl (flat_whole (f := Pk.Ent.cells) ent_len hy)) ?_)
  refine G.mv ?_
  refine G.mv ?_
  refine G.q rfl rfl rfl rfl (q_ixaddr rfl rfl rfl se_39_F48 sz_33_F48 (hj)) (G.r rfl rfl rfl rfl (r_loadOA rfl rfl ag_33_F48 sz_33_F48 mB rfl (flat_whole (f := Pk.Ent.cells) ent_len hy)) ?_)
  refine G.q rfl rfl rfl rfl (q_neq_same rfl rfl rfl (neq_entR y _ _)) (G.nil (EN.sub (sC 0 (sC 1 (sC 12 (sC 13 (sC 24 Sub.nil))))) ?_))
  refine EN.then (CG.cond_f rfl ?_)
  refine CG.skip (EN.in_normal (EN.tr ?_))
  refine G.q rfl rfl rfl rfl (q_add_i rfl rfl rfl oM) (G.mv ?_)
  refine G.nil ?_
  rw [show (k : Int) + 1 = ((k + 1 : Nat) : Int) by omega]
  exact EN.round (hl := [_, _]) (l.length - (k + 1)) oM (⟨k + 1, by omega, rfl, rfl, rfl⟩) sB rfl tK sF
 ·
  refine CG.exit ?_
  refine EN.then_exit (EN.then_exit (EN.in_here ?_))
  refine EN.tsr (G.as ?_)
  refine G.nil (EN.then (CG.ret ?_))
  exact fin_ret1 rfl rfl tK sF (⟨rfl, rfl⟩) _ (.inl rfl)

set_option maxRecDepth 100000 in
set_option maxHeartbeats 1000000 in
theorem packReads_spec (hL : InflLaw) {tz : TypeId × Nat × Nat} (s : List UInt8) (at_ : Int) : Spec Tryz.prog 3 #[str s, .int .i64 at_] [TabI tz] (Ret fun v hl => v = .bool true ∧ hl = [TabI tz]) := by
 refine Spec.enter Tryz.func3 rfl rfl rfl (fun F w0 => ?_)
 dsimp only [argL, List.cons_append, List.nil_append]
 refine CG.sr (G.as ?_)
 refine G.nil (EN.tsr (G.mv ?_))
 refine G.call (xs := [_, _]) rfl rfl (few_spec s 700) bd_5_F49 rfl rfl rfl rfl tK (fun _ _ _ _ _ _ => trivial) ?_
 rintro _ _ ⟨rfl, rfl⟩
 obtain ⟨u, hu⟩ : ∃ u, s.take 700 = u := ⟨_, rfl⟩
 have hul : u.length ≤ 700 := by rw [← hu]; simp; omega
 rw [hu]
 try dsimp only [List.cons_append, List.nil_append]
 refine G.as ?_
 refine G.nil (EN.tsr (G.mv ?_))
 refine G.call (xs := [_]) rfl rfl (count_spec u oM) bd_6_F21 rfl rfl rfl rfl tK (fun _ _ _ _ _ _ => trivial) ?_
 rintro _ _ ⟨rfl, rfl⟩
 try dsimp only [List.cons_append, List.nil_append]
 refine G.mv ?_
 refine G.q rfl rfl rfl rfl (q_extract rfl rfl rfl) (G.q rfl rfl rfl rfl (q_extract rfl rfl rfl) (G.as ?_))
 refine G.as ?_
 refine G.nil (EN.tsr (G.mv ?_))
 refine G.call (xs := [_]) rfl rfl (rcount_spec u oM) bd_7_F48 rfl rfl rfl rfl tK (fun _ _ _ _ _ _ => trivial) ?_
 rintro _ _ ⟨rfl, rfl⟩
 try dsimp only [List.cons_append, List.nil_append]
 refine G.mv ?_
 refine G.q rfl rfl rfl rfl (q_extract rfl rfl rfl) (G.q rfl rfl rfl rfl (q_extract rfl rfl rfl) (G.as ?_))
 refine G.as ?_
 refine G.nil (EN.sub (sC 0 (sC 1 (sC 4 (sC 5 (sC 6 (sC 7 (sC 8 Sub.nil))))))) ?_)
 refine EN.tsr (G.mv ?_)
 refine G.mv ?_
 refine G.call (xs := [_, _]) rfl rfl (pread_spec u at_ oM) bd_8_F21 rfl rfl rfl rfl tK (fun _ _ _ _ _ _ => trivial) ?_
 rintro _ _ ⟨rfl, rfl⟩
 try dsimp only [List.cons_append, List.nil_append]
 refine G.mv ?_
 refine G.q rfl rfl rfl rfl (q_extract rfl rfl rfl) (G.q rfl rfl rfl rfl (q_extract rfl rfl rfl) (G.e rfl rfl rfl rfl (e_alloc rfl zl_30_F49) (fun _ _ _ _ _ _ => trivial) ?_))
 rintro _ _ ⟨b9, rfl, rfl⟩
 refine G.sa0 sz_30_F19 ?_
 refine G.as ?_
 refine G.nil (EN.tsr (G.mv ?_))
 refine G.mv ?_
 refine G.call (xs := [_, _]) rfl rfl (rread_spec hL u at_ oM) bd_9_F48 rfl rfl rfl rfl tK (fun _ _ _ _ _ _ => trivial) ?_
 rintro _ _ ⟨rfl, rfl⟩
 try dsimp only [List.cons_append, List.nil_append]
 refine G.mv ?_
 refine G.q rfl rfl rfl rfl (q_extract rfl rfl rfl) (G.q rfl rfl rfl rfl (q_extract rfl rfl rfl) (G.e rfl rfl rfl rfl (e_alloc rfl zl_33_F49) (fun _ _ _ _ _ _ => trivial) ?_))
 rintro _ _ ⟨b11, rfl, rfl⟩
 refine G.sa0 sz_33_F48 ?_
 refine G.as ?_
 refine G.nil (EN.sub (sC 0 (sC 4 (sC 5 (sC 6 (sC 7 (sC 8 (sC 9 (sC 10 (sC 11 (sC 12 Sub.nil)))))))))) ?_)
 refine EN.tsr (G.mv ?_)
 refine G.call (xs := [_]) rfl rfl (all_spec u oM) bd_10_F49 rfl rfl rfl rfl tK (fun _ _ _ _ _ _ => trivial) ?_
 rintro _ _ ⟨sv, rfl, rfl⟩
 dsimp only [List.cons_append, List.nil_append]
 refine G.fact (p := own 30 7 sv (allE u).1.length ((allE u).1.flatMap Pk.Ent.cells)) (α := ∃ ad2 c2, sv = .slice ad2 (allE u).1.length c2) tK1 (fun h hh => (by obtain ⟨_, _, ad2, c2, e, _⟩ := own_shape hh; exact ⟨ad2, c2, e⟩)) (fun hv => ?_)
 obtain ⟨pa, pc, rfl⟩ := hv
 refine G.imp (p := own 30 7 (.slice pa (allE u).1.length pc) (allE u).1.length ((allE u).1.flatMap Pk.Ent.cells)) (q := ownO 30 7 (.slice pa (allE u).1.length pc) (allE u).1.length ((allE u).1.flatMap Pk.Ent.cells)) tK1 (fun h hh => ownG_weak (own_G.1 hh)) ?_
 try dsimp only [List.cons_append, List.nil_append]
 refine G.mv ?_
 refine G.q rfl rfl rfl rfl (q_extract rfl rfl rfl) (G.q rfl rfl rfl rfl (q_extract rfl rfl rfl) (G.as ?_))
 refine G.as ?_
 refine G.nil (EN.tsr (G.mv ?_))
 refine G.call (xs := [_]) rfl rfl (rall_spec hL u oM) bd_11_F49 rfl rfl rfl rfl tK (fun _ _ _ _ _ _ => trivial) ?_
 rintro _ _ ⟨rv, rfl, rfl⟩
 dsimp only [List.cons_append, List.nil_append]
 refine G.fact (p := own 33 7 rv (allE u).1.length ((allE u).1.flatMap Pk.Ent.cells)) (α := ∃ ad2 c2, rv = .slice ad2 (allE u).1.length c2) tK1 (fun h hh => (by obtain ⟨_, _, ad2, c2, e, _⟩ := own_shape hh; exact ⟨ad2, c2, e⟩)) (fun hv => ?_)
 obtain ⟨ra, rc, rfl⟩ := hv
 refine G.imp (p := own 33 7 (.slice ra (allE u).1.length rc) (allE u).1.length ((allE u).1.flatMap Pk.Ent.cells)) (q := ownO 33 7 (.slice ra (allE u).1.length rc) (allE u).1.length ((allE u).1.flatMap Pk.Ent.cells)) tK1 (fun h hh => ownG_weak (own_G.1 hh)) ?_
 try dsimp only [List.cons_append, List.nil_append]
 refine G.mv ?_
 refine G.q rfl rfl rfl rfl (q_extract rfl rfl rfl) (G.q rfl rfl rfl rfl (q_extract rfl rfl rfl) (G.as ?_))
 refine G.as ?_
 refine G.nil (EN.sub (sC 4 (sC 5 (sC 6 (sC 7 (sC 8 (sC 9 (sC 10 (sC 11 (sC 12 (sC 13 (sC 14 (sC 15 (sC 16 Sub.nil))))))))))))) ?_)
 refine EN.tsr (G.call (xs := []) rfl rfl (awake_spec) bd_12_F49 rfl rfl rfl rfl tK (fun _ _ _ _ _ _ => trivial) ?_)
 rintro _ _ ⟨rfl, rfl⟩
 try dsimp only [List.cons_append, List.nil_append]
 refine G.mv ?_
 refine G.mv ?_
 refine G.mv ?_
 refine G.q rfl rfl rfl rfl (q_eql rfl rfl rfl) (G.q rfl rfl rfl rfl (q_pick_t rfl rfl rfl) (G.mv ?_))
 refine G.split (t := 57) rfl (fun g57 => ?_) (fun g57 => absurd (rfl) g57)
 refine G.mv ?_
 refine G.mv ?_
 refine G.q rfl rfl rfl rfl (q_eql rfl rfl rfl) (G.q rfl rfl rfl rfl (q_pick_t rfl rfl rfl) (G.mv ?_))
 refine G.split (t := 62) rfl (fun g62 => ?_) (fun g62 => absurd (rfl) g62)
 refine G.ldA ag_30_F20 sz_30_F19 ?_
 refine G.ldA ag_33_F48 sz_33_F48 ?_
 refine G.q rfl rfl rfl rfl (q_eql_same rfl rfl rfl (eql_entR (readE u at_).1 _ _)) (G.q rfl rfl rfl rfl (q_pick_t rfl rfl rfl) (G.mv ?_))
 refine G.mv ?_
 refine G.mv ?_
 refine G.q rfl rfl rfl rfl (q_eql rfl rfl rfl) (G.q rfl rfl rfl rfl (q_pick_t rfl rfl rfl) (G.mv ?_))
 refine G.split (t := 72) rfl (fun g72 => ?_) (fun g72 => absurd (rfl) g72)
 refine G.mv ?_
 refine G.mv ?_
 refine G.call (xs := [_, _]) rfl rfl (same_spec (allE u).1 pa ra pc rc (by have := allE_len u; omega)) bd_13_F49 rfl rfl rfl rfl tK (fun _ _ _ _ _ _ => trivial) ?_
 rintro _ _ ⟨rfl, rfl⟩
 try dsimp only [List.cons_append, List.nil_append]
 refine G.q rfl rfl rfl rfl (q_pick_t rfl rfl rfl) (G.mv ?_)
 refine G.mv ?_
 refine G.mv ?_
 refine G.q rfl rfl rfl rfl (q_eql rfl rfl rfl) (G.q rfl rfl rfl rfl (q_pick_t rfl rfl rfl) (G.as ?_))
 refine G.nil (EN.sub (sC 4 Sub.nil) ?_)
 refine EN.then (CG.ret ?_)
 exact fin_ret1 rfl rfl tK sF (⟨by simp, rfl⟩) _ (.inl rfl)

end Go.Eng
/-
  PackReads: the card.
-/
set_option linter.unusedVariables false
set_option linter.constructorNameAsVariable false
set_option maxRecDepth 100000
namespace Go.Proofs.YtpoaiohhbpbofaaGreatDoor
open Go.ChangeShapes Go.WideShapes Go.ChangeAt Go.RowKit Go.Eng
theorem reads_contract (H : Type) (enc : TypeId × Value → H) (W : World) (base : Nat) (args : Array Value) (ds gs : List (DataW H)) (before : List MemPlace)
    (hval : ∀ (j : Nat) t v, Tryz.f3.params[j]? = some t → args[j]? = some v → Value.okWide Tryz.prog W .any base t v)
    (hW : DataW.Whole enc Tryz.prog Tryz.f3.params.toList Rows.packReadsSpec.vars false W args.toList ds gs before) (hL : laidMetH Tryz.prog laid3 W) :
    Calls Tryz.prog 3 args W fun e W' => ∃ v, e = .returned v ∧ Rows.packReadsSpec.post enc Tryz.prog Tryz.f3 false true false false W args v W' := by
  have hW' := hW
  obtain ⟨p, q, hA0, hV, rfl, hfz, hnd⟩ := hW
  have hA : DataW.TrodAll enc Tryz.prog W 0 (fun _ => true) true Tryz.f3.params.toList args.toList ds p := hA0
  rw [Tryz.params3] at hA hval
  obtain ⟨v0, vs0, d0, ds0, p0, q0, hargs, rfl, rfl, h0, r0⟩ := trodAll_cons hA
  obtain ⟨v1, vs1, d1, ds1, p1, q1, rfl, rfl, rfl, h1, r1⟩ := trodAll_cons r0
  obtain ⟨rfl, rfl, rfl⟩ := trodAll_nil r1
  obtain rfl : args = #[v0, v1] := by cases args; simp_all
  obtain ⟨rfl, rfl⟩ := trodVars_none hV
  clear hA0
  simp only [List.append_nil] at hW'
  obtain ⟨sb, rfl, rfl, rfl, hs⟩ := ChangeMaps.open_string Tryz.underlying9 (hval 0 _ v0 rfl rfl) h0
  obtain ⟨at_, rfl, rfl, rfl, hw⟩ := open_int Tryz.underlying3 (hval 1 _ v1 rfl rfl) h1
  obtain ⟨tz, ht⟩ := tableAt hL
  have hc := Spec.kept (packReads_spec Sm.infl_law (tz := tz) sb.data.toList at_) ht
  rw [← str_of] at hc
  refine hc.mono fun e W' ⟨he, hos, hout, hh⟩ => ?_
  subst he
  exact ⟨_, rfl, post_of_kept (pa := []) (pv := []) hW' (fun _ _ _ => trodAll_cons_mk (shut_bool Tryz.underlying4 _) trodAll_mk0)
    (fun _ _ => trodAll_cons_mk (ChangeMaps.shut_string Tryz.underlying9 hs) (trodAll_cons_mk (shut_int Tryz.underlying3 hw) trodAll_mk0)) (fun _ _ => rfl) rfl
    hos hout hh (ok_one (by kernel_rfl) rfl (okWide_bool_mk Tryz.underlying4 _))⟩
theorem reads_reads (os : Os) {H : Type} (enc : TypeId × Value → H) : ∃ places, DataW.whole enc Tryz.prog ((laidWorld os).forCall (fun _ _ => 0) ⟨#[], #[str [], .int .i64 0], []⟩).memory Tryz.f3.params.toList Rows.packReadsSpec.vars false #[str [], .int .i64 0].toList 8 = some ([.lit (.string []), .lit (.int .i64 0)], [], places) :=
  ⟨[], by kernel_rfl⟩
theorem reads_lifted (os : Os) (started : os.Started) (H : Type) (enc : TypeId × Value → H) (F : Stop.Interp) :
    ReturnsInHanded {} Tryz.checked os 3 .any ((OpenSpec.ofChange Rows.packReadsSpec).preRow enc Tryz.prog Tryz.f3 Rows.packReadsRow.domain false Rows.packReadsRow.laid) (((OpenSpec.ofChange Rows.packReadsSpec).at F).post enc Tryz.prog Tryz.f3 false true false false) := by
  obtain ⟨places, hx⟩ := reads_reads os enc
  refine returnsInHanded_of_row (C := Tryz.checked) (s := OpenSpec.ofChange Rows.packReadsSpec) own started (by kernel_rfl) Tryz.func3
    (witness_row_at (enc := enc) (C := Tryz.checked) false (laidWorld os) #[str [], .int .i64 0] rfl (by kernel_rfl) (by kernel_rfl) (by kernel_rfl)
      (OpenSpec.preRow_of_cond 8 hx (by kernel_rfl) (fun k hk => by cases hk) (by kernel_rfl) (laid_met os _))) ?_
  intro W base args ds gs before hval hW _ _ _ hL _ _
  exact reads_contract H enc W base args ds gs before hval hW hL
theorem reads_said : Rows.PackReadsSaid :=
  OpenClaim.holds_of_cond 3 Tryz.f3 rfl rfl rfl rfl rfl rfl rfl ⟨rfl, rfl, rfl, rfl, rfl⟩ rfl rfl rfl rfl rfl (by kernel_rfl) Tryz.func3 (by kernel_rfl)
    (of_decide_eq_true (by kernel_rfl)) (by unfold Func.isWrapper; first | (rw [if_pos (by decide +kernel)]; kernel_rfl) | (rw [if_neg (by decide +kernel)]; exact ⟨rfl, rfl⟩))
    (fun os started H enc _ F => by rw [OpenClaim.pre_eq_preRow]; exact reads_lifted os started H enc F)
theorem reads_plain (f : FuncId) (fn : Func) (hf : Tryz.pinned.checked.prog.funcNamed "cartulary/cartularylaw11.PackReads" = some f) (hfn : Tryz.pinned.checked.prog.funcs[f]? = some fn) :
    true = Tryz.pinned.checked.prog.looks [] ∧ ∀ (j : Nat) t, fn.params[j]? = some t → Tryz.pinned.checked.prog.wantsStandIn t = false := by
  obtain rfl : f = 3 := Option.some.inj ((show Tryz.prog.funcNamed "cartulary/cartularylaw11.PackReads" = some 3 by kernel_rfl).symm.trans hf) |>.symm
  obtain rfl : fn = Tryz.f3 := (Option.some.inj (Tryz.func3.symm.trans hfn)).symm
  refine ⟨by kernel_rfl, fun j t ht => ?_⟩
  rw [Tryz.params3] at ht
  have h := Array.mem_of_getElem? ht
  simp only [List.mem_toArray, List.mem_cons, List.not_mem_nil, or_false] at h
  rcases h with rfl | rfl
  · exact (show Tryz.prog.wantsStandIn 9 = false by kernel_rfl)
  · exact (show Tryz.prog.wantsStandIn 3 = false by kernel_rfl)
/-- THE CARD -/
theorem packReads_card : Rows.PackReadsCardSaid :=
  Claim7.holds_tied_plain_at .later [] _ _ _ _ reads_said (fun _ h => by cases h) (by kernel_rfl) (fun _ h => by cases h) packReads_row_tie rfl ⟨rfl, rfl⟩ (by kernel_rfl) rfl reads_plain (by kernel_rfl)
#print axioms packReads_card
end Go.Proofs.YtpoaiohhbpbofaaGreatDoor
