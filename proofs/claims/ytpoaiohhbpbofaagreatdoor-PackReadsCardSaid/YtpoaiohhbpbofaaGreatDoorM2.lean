/-
  Joined by program out of the texts ZE14 ZE15 ZP7 ZP8 ZP9 ZF1 ZF2 ZF3 ZF4 ZF5 ZF6 ZF7: contracts for the functions that the law reaches, and the engine that proves them.
-/
import Derived.Test.YtpoaiohhbpbofaaGreatDoorM1
import Derived.Deep.AppendSrc
import Derived.Deep.Upon
import Derived.Recover
import Derived.Test.YtpoaiohhbpbofaaGreatDoorProg
import Derived.KernelRfl
/-
  Slices that begin anywhere in their rows; append of anything; closures. Speaks of no program.
-/
set_option linter.unusedVariables false
set_option linter.unusedSimpArgs false
namespace Go.Eng

/-- a slice of n elements that owns its cells xs; z: it begins its row, which is its capacity's -/
def ownG (z : Bool) (T sz : Nat) (v : Value) (n : Nat) (xs : List Value) : HP := fun h =>
  xs.length = n * sz ∧ ((v = .slice none 0 0 ∧ n = 0) ∨
    ∃ g off cap cur, v = .slice (some ⟨g, off, none⟩) n cap ∧ h g = some (.cells cur T (0, 0)) ∧ n ≤ cap ∧ cap ≤ maxLen ∧ off + cap * sz ≤ cur.size ∧ (cur.toList.drop off).take (n * sz) = xs ∧ (z = true → off = 0 ∧ cur.size = cap * sz))
abbrev ownO := ownG false
theorem own_G {T sz n : Nat} {v : Value} {xs : List Value} {h : Hp} : own T sz v n xs h ↔ ownG true T sz v n xs h := by
  constructor
  · rintro ⟨h1, h2 | ⟨g, cap, cur, rfl, h3, h4, h5, h6, h7⟩⟩
    · exact ⟨h1, .inl h2⟩
    · exact ⟨h1, .inr ⟨g, 0, cap, cur, rfl, h3, h4, h5, by omega, by simpa using h7, fun _ => ⟨rfl, h6⟩⟩⟩
  · rintro ⟨h1, h2 | ⟨g, off, cap, cur, rfl, h3, h4, h5, h6, h7, h8⟩⟩
    · exact ⟨h1, .inl h2⟩
    · obtain ⟨rfl, h9⟩ := h8 rfl
      exact ⟨h1, .inr ⟨g, cap, cur, rfl, h3, h4, h5, h9, by simpa using h7⟩⟩
theorem own_eq {T sz n : Nat} {v : Value} {xs : List Value} : own T sz v n xs = ownG true T sz v n xs := by
  funext h; exact propext own_G
theorem ownG_weak {z : Bool} {T sz n : Nat} {v : Value} {xs : List Value} {h : Hp} (hh : ownG z T sz v n xs h) : ownO T sz v n xs h := by
  obtain ⟨h1, h2 | ⟨g, off, cap, cur, h3, h4, h5, h6, h7, h8, h9⟩⟩ := hh
  · exact ⟨h1, .inl h2⟩
  · exact ⟨h1, .inr ⟨g, off, cap, cur, h3, h4, h5, h6, h7, h8, fun e => by cases e⟩⟩
theorem star_imp {p q : HP} {L : List HP} {h : Hp} (hs : star (p :: L) h) (hi : ∀ h, p h → q h) : star (q :: L) h := by
  obtain ⟨S, h1, h2⟩ := star_cons.1 hs
  exact star_cons.2 ⟨S, hi _ h1, h2⟩

theorem setCells_heap (b : Nat) {T : Nat} : ∀ (vs : List Value) (o : Nat) (w : World) (cs : List Value), w.heap[b]? = some (.cells cs.toArray T (0, 0)) → o + vs.length ≤ cs.length →
    (w.setCells b o vs).heap[b]? = some (.cells (cs.take o ++ vs ++ cs.drop (o + vs.length)).toArray T (0, 0)) ∧ ∀ k, k ≠ b → (w.setCells b o vs).heap[k]? = w.heap[k]?
  | [], o, w, cs, hb, _ => by simpa [World.setCells] using hb
  | v :: vs, o, w, cs, hb, hl => by
    simp only [List.length_cons] at hl
    have h1 : (w.setCell ⟨b, o, none⟩ v).heap[b]? = some (.cells (cs.set o v).toArray T (0, 0)) := by
      simp [World.setCell, Array.getElem?_modify, hb]
    obtain ⟨h2, h3⟩ := setCells_heap b vs (o + 1) _ _ h1 (by simp; omega)
    refine ⟨?_, fun k hk => ?_⟩
    · rw [World.setCells, h2]
      have e1 : (cs.set o v).take (o + 1) = cs.take o ++ [v] := by
        rw [List.take_add_one, List.take_set_of_le (Nat.le_refl _)]
        simp [show o < cs.length by omega]
      have e2 : (cs.set o v).drop (o + 1 + vs.length) = cs.drop (o + (vs.length + 1)) := by
        rw [List.drop_set_of_lt (by omega)]; congr 1; omega
      rw [e1, e2]; simp
    · rw [World.setCells, h3 k hk]
      exact RowKit.Below.heap_setCell _ _ _ _ hk

section
variable {P : Program} {L : List (Nat × Value)} {H : List HP} {o : Oper}
theorem ownG_shape {z : Bool} {T sz n : Nat} {v : Value} {xs : List Value} {h : Hp} (hh : ownG z T sz v n xs h) : xs.length = n * sz ∧ n ≤ maxLen ∧ ∃ ad c, v = .slice ad n c ∧ n ≤ c := by
  obtain ⟨h1, ⟨rfl, rfl⟩ | ⟨g, off, cap, cur, rfl, h4, h5, h6, h7, h8, h9⟩⟩ := hh
  · exact ⟨h1, Nat.zero_le _, _, _, rfl, Nat.le_refl _⟩
  · exact ⟨h1, by omega, _, _, rfl, h5⟩
theorem own_shape {T sz n : Nat} {v : Value} {xs : List Value} {h : Hp} (hh : own T sz v n xs h) : xs.length = n * sz ∧ n ≤ maxLen ∧ ∃ ad c, v = .slice ad n c ∧ n ≤ c := ownG_shape (own_G.1 hh)
theorem ownG_src {z : Bool} {tx T sz n : Nat} {v : Value} {xs : List Value} {S : Nat → Prop} {w : World} (hk : P.underlying tx = some (.slice T)) (hh : ownG z T sz v n xs (res S w)) (h1 : ∀ u ∈ xs, u.oneCell' = true) : Src P sz tx v n xs w := by
  obtain ⟨hl, ⟨rfl, rfl⟩ | ⟨g, off, cap, cur, rfl, hg, h5, h6, h7, h8, h9⟩⟩ := hh
  · obtain rfl : xs = [] := List.eq_nil_of_length_eq_zero (by simpa using hl)
    exact Src.ofNil w hk 0
  · refine Src.ofSlice w hk _ _ _ _ hl (fun j u hj => ?_) h1
    have hg := (res_pt hg).2
    rw [Addr.add_lit]
    rw [← h8, List.getElem?_take] at hj
    split at hj
    · rw [List.getElem?_drop, Array.getElem?_toList] at hj
      simp [World.cell?, hg, hj]
    · cases hj
theorem cel_src {tx e b U off m c sz : Nat} {ys news : List Value} {w0 w : World} (hk : P.underlying tx = some (.slice e)) (hw : WS w0 H w) (hm : Mem (cel b U ys) H) (hn : sliceL ys off (m * sz) = news) (hl : news.length = m * sz) (h1 : ∀ u ∈ news, u.oneCell' = true) : Src P sz tx (.slice (some ⟨b, off, none⟩) m c) m news w := by
  refine Src.ofSlice w hk _ _ _ _ hl (fun j u hj => ?_) h1
  rw [Addr.add_lit]
  refine cell_cel hw hm ?_
  rw [nth_eq]
  rw [← hn] at hj
  simp only [sliceL, List.getElem?_take, List.getElem?_drop] at hj
  split at hj
  · exact hj
  · cases hj
theorem str_src {tx : Nat} {l : List UInt8} {w : World} (hk : P.underlying tx = some .string) : Src P 1 tx (str l) l.length (l.map u8v) w := by
  have := Src.ofString (P := P) w hk ⟨l.toArray⟩
  have e1 : (⟨l.toArray⟩ : ByteArray).size = l.length := by simp [ByteArray.size]
  have e2 : byteCells ⟨l.toArray⟩ = l.map u8v := by simp only [byteCells, List.toList_toArray]; rfl
  rw [e1, e2] at this; exact this

/-- append of anything -/
theorem e_appendG {z : Bool} {x y : Operand} {t tx e sz bytes : Nat} {zs : List Value} {v v2 : Value} {n m : Nat} {xs news : List Value} {H1 : List HP} (ho : o.op = .call { callee := .builtin .append, args := #[x, y], argTypes := #[t, tx] })
    (hx : ev L x = some v) (hy : ev L y = some v2) (hs : sliceE P t = some e) (hi : infoB P e = some (some zs, sz, bytes)) (hz : Nat.beq zs.length sz = true)
    (ht : Take H (ownG z e sz v n xs) H1) (hsrc : ∀ w0 w, WS w0 H1 w → Src P sz tx v2 m news w) (hb : (n + m) * bytes ≤ 140737488355328 ∧ n + m ≤ 140737488355328) :
    EOp P L H o (fun u H' => H' = ownG z e sz u (n + m) (xs ++ news) :: H1) := by
  intro N D a w w0 K Q hf hw hk
  obtain ⟨i, zv, hi1, hi2, hi3, hi4, hi5⟩ := infoB_spec hi
  have hz' := Nat.eq_of_beq_eq_true hz
  have hw2 : WS w0 (ownG z e sz v n xs :: H1) w := hw.take1 ht
  have hS := hsrc w0 w ⟨star_tail hw2.sat, hw2.os, hw2.tape, hw2.output⟩
  rw [← hi4] at hS
  obtain ⟨S, hp⟩ := hw2.get .here
  have hlen : (xs ++ news).length = (n + m) * sz := by rw [List.length_append, hp.1, hS.newsLen, hi4, Nat.add_mul]
  have hst := sliceE_spec hs
  have hnl : news.length = m * sz := by rw [hS.newsLen, hi4]
  have grown : ∀ (old : Nat), old < n + m → ∀ u, u = Value.slice (some ⟨w.heap.size, 0, none⟩) (n + m) (grownCap w (n + m) old e) →
      WS w0 (ownG z e sz u (n + m) (xs ++ news) :: H1) (w.drew.alloc (.cells ((xs ++ news).toArray ++ Builtin.zeroCells zv.cells (grownCap w (n + m) old e - (n + m))) e)) := by
    rintro old ho u rfl
    have hge := grownCap_ge w (n + m) old e
    have hcm : grownCap w (n + m) old e ≤ maxLen := grownCap_le_maxLen w (n + m) old e (by unfold maxLen; omega)
    have hsz : ((xs ++ news).toArray ++ Builtin.zeroCells zv.cells (grownCap w (n + m) old e - (n + m))).size = grownCap w (n + m) old e * sz := by
      simp only [Array.size_append, List.size_toArray, size_zeroCells, hi3, hz', hlen, ← Nat.add_mul]
      congr 1; omega
    refine hw2.upd .here (fun S' hp' => ⟨⟨hlen, .inr ⟨w.heap.size, 0, _, _, rfl, ?_, hge, hcm, by rw [hsz]; omega, ?_, fun _ => ⟨rfl, hsz⟩⟩⟩, fun k hk _ => RowKit.Below.heap_alloc w.drew _ k hk⟩) rfl rfl rfl
    · rw [res_in (.inr (Nat.le_refl _))]; exact heap_alloc_new w.drew _
    · rw [List.drop_zero, ← hlen]
      simp only [Array.toList_append]
      exact List.take_left
  have hrun : ∃ u w', (Builtin.append_ #[t, tx] o.type #[v, v2]).run P w = .ok u w' ∧ WS w0 (ownG z e sz u (n + m) (xs ++ news) :: H1) w' := by
    rcases hp.2 with ⟨rfl, rfl⟩ | ⟨g, off, cap, cur, rfl, hg, hnc, hcm, hfit, htk, hzz⟩
    · have hx0 : xs = [] := List.eq_nil_of_length_eq_zero (by simpa using hp.1)
      subst hx0
      by_cases hm : m = 0
      · subst hm
        have hn0 : news = [] := List.eq_nil_of_length_eq_zero (by simpa using hnl)
        subst hn0
        refine ⟨.slice none 0 0, w, ?_, by simpa using hw2⟩
        have hc := hS.cells
        have hl := hS.len w
        rcases hS.kind with ⟨e', hk'⟩ | hk' <;> simp [Builtin.append_, run_underlying hst, run_underlying hk', sizeOf, typeInfo, hi1, hS.len, hS.cells]
      · have hold : (Builtin.firstCells i.size 0 (.slice none 0 0)).run P w.drew = .ok ([] : List Value).toArray w.drew := run_firstCells_none w.drew i.size 0 0 0
        have hr := run_append_grow_src (P := P) w t tx o.type e i zv hst hi1 hi2 none 0 0 [] hold v2 m news hS (by omega) (by omega) (growslice_fits (by omega) (by rw [hi5]; exact hb.1))
        exact ⟨_, _, hr, by have := grown 0 (by omega) _ rfl; simpa using this⟩
    · have hgw := (res_pt hg).2
      by_cases hroom : n + m ≤ cap
      · have hfit2 : off + n * sz + news.length ≤ cur.toList.length := by
          have h1 : (n + m) * sz ≤ cap * sz := Nat.mul_le_mul_right _ hroom
          rw [Nat.add_mul] at h1
          have hcl : cur.toList.length = cur.size := Array.length_toList
          omega
        have hcl : cur.toList.length = cur.size := Array.length_toList
        have hr := run_append_room_src (P := P) w t tx o.type e i hst hi1 g off n cap v2 m news hS hroom (fun j hj => by
            rw [hi4]
            have h2 : off + n * sz + j < cur.size := by omega
            simp [World.cell?, hgw, h2]) (fun j hj => by simp [World.frozen?, hgw])
        rw [hi4] at hr
        obtain ⟨h3, h4⟩ := setCells_heap g news (off + n * sz) w cur.toList (by simpa using hgw) hfit2
        refine ⟨_, _, hr, ?_⟩
        have hk0 := World.keptBut_setCells g (may := fun _ => True) news (off + n * sz) w (fun _ _ => trivial)
        refine hw2.upd .here (fun S' hp' => ?_) hk0.1 ?_ hk0.2.1
        · have hSg : S' g := by
            obtain ⟨_, ⟨e1, _⟩ | ⟨g', off', cap', cur', e1, hg', _⟩⟩ := hp'
            · cases e1
            · cases e1; exact (res_pt hg').1
          refine ⟨⟨hlen, .inr ⟨g, off, cap, (cur.toList.take (off + n * sz) ++ news ++ cur.toList.drop (off + n * sz + news.length)).toArray, rfl, ?_, hroom, hcm, ?_, ?_, ?_⟩⟩, fun k hlt hk => h4 k (fun e => hk (e ▸ hSg))⟩
          · rw [res_in (.inl hSg)]; exact h3
          · simp only [List.size_toArray, List.length_append, List.length_take, List.length_drop] at hfit2 ⊢; omega
          · have e1 : (n + m) * sz = n * sz + news.length := by rw [hnl, Nat.add_mul]
            have e2 : (cur.toList.drop off).take (n * sz) = xs := htk
            have hl1 : off ≤ (cur.toList.take (off + n * sz)).length := by rw [List.length_take]; omega
            rw [List.append_assoc, List.drop_append_of_le_length hl1, List.drop_take, Nat.add_sub_cancel_left, e2, e1]
            have hxl : xs.length = n * sz := hp.1
            rw [← hxl, List.take_length_add_append, List.take_left]
          · intro hzt
            obtain ⟨h5, h6⟩ := hzz hzt
            refine ⟨h5, ?_⟩
            simp only [List.size_toArray, List.length_append, List.length_take, List.length_drop] at hfit2 ⊢; omega
        · have : ∀ (vs : List Value) (o : Nat) (w : World), (w.setCells g o vs).tape = w.tape := by
            intro vs
            induction vs with
            | nil => intro o w; rfl
            | cons v vs ih => intro o w; exact (ih _ _).trans rfl
          exact this _ _ _
      · have hgd : w.drew.heap[g]? = some (.cells cur e (0, 0)) := hgw
        have hold : (Builtin.firstCells i.size n (.slice (some ⟨g, off, none⟩) n cap)).run P w.drew = .ok xs.toArray w.drew := by
          refine run_firstCells_some w.drew i.size n _ _ _ xs (by rw [hi4]; exact hp.1) (fun j u hj => ?_)
          rw [Addr.add_lit]
          rw [← htk, List.getElem?_take] at hj
          split at hj
          · rw [List.getElem?_drop, Array.getElem?_toList] at hj
            simp [World.cell?, hgd, hj]
          · cases hj
        have hr := run_append_grow_src (P := P) w t tx o.type e i zv hst hi1 hi2 (some ⟨g, off, none⟩) n cap xs hold v2 m news hS (by omega) (by omega) (growslice_fits (by omega) (by rw [hi5]; exact hb.1))
        exact ⟨_, _, hr, grown cap (by omega) _ rfl⟩
  obtain ⟨u, w', h1, h2⟩ := hrun
  have hrun : (execOp a.eval o).run P w = .ok (.value u) w' := by
    unfold execOp; rw [ho]
    simp [resolve, invoke, builtin, hf.ev hx, hf.ev hy, h1]
  unfold Oper.wp; rw [hrun]
  exact hk _ _ _ rfl h2

theorem e_appendA {x y : Operand} {t tx e sz bytes : Nat} {zs : List Value} {v v2 : Value} {n m : Nat} {xs news : List Value} {H1 : List HP} (ho : o.op = .call { callee := .builtin .append, args := #[x, y], argTypes := #[t, tx] })
    (hx : ev L x = some v) (hy : ev L y = some v2) (hs : sliceE P t = some e) (hi : infoB P e = some (some zs, sz, bytes)) (hz : Nat.beq zs.length sz = true)
    (ht : Take H (own e sz v n xs) H1) (hsrc : ∀ w0 w, WS w0 H1 w → Src P sz tx v2 m news w) (hb : (n + m) * bytes ≤ 140737488355328 ∧ n + m ≤ 140737488355328) :
    EOp P L H o (fun u H' => H' = own e sz u (n + m) (xs ++ news) :: H1) := by
  simp only [own_eq] at ht ⊢
  exact e_appendG ho hx hy hs hi hz ht hsrc hb
/-- s[l:] -/
def slLo (sz : Nat) : Value → Nat → Value
  | .slice ad n c, l => .slice (if c = l then ad else ad.map (·.add (l * sz))) (n - l) (c - l)
  | v, _ => v
theorem ownG_lo {z : Bool} {T sz n l : Nat} {v : Value} {xs : List Value} {h : Hp} (hh : ownG z T sz v n xs h) (hl : l ≤ n) : ownO T sz (slLo sz v l) (n - l) (xs.drop (l * sz)) h := by
  obtain ⟨h1, ⟨rfl, rfl⟩ | ⟨g, off, cap, cur, rfl, h4, h5, h6, h7, h8, h9⟩⟩ := hh
  · obtain rfl : l = 0 := by omega
    obtain rfl : xs = [] := List.eq_nil_of_length_eq_zero (by simpa using h1)
    exact ⟨by simp, .inl ⟨by simp [slLo], rfl⟩⟩
  · have hxl : (xs.drop (l * sz)).length = (n - l) * sz := by rw [List.length_drop, h1, Nat.sub_mul]
    refine ⟨hxl, .inr ?_⟩
    by_cases hc : cap = l
    · obtain rfl : n = l := by omega
      refine ⟨g, off, 0, cur, by simp [slLo, hc], h4, by omega, by omega, by omega, ?_, fun e => by cases e⟩
      rw [List.eq_nil_of_length_eq_zero (l := xs.drop (n * sz)) (by rw [hxl]; simp)]; simp
    · refine ⟨g, off + l * sz, cap - l, cur, by simp [slLo, hc, Addr.add_lit], h4, by omega, by omega, ?_, ?_, fun e => by cases e⟩
      · have h2 : l * sz + (cap - l) * sz = cap * sz := by rw [← Nat.add_mul]; congr 1; omega
        omega
      · rw [← h8, List.drop_take, List.drop_drop, ← Nat.sub_mul]
theorem q_slO_lo {x y : Operand} {t e sz n cap l : Nat} {ad : Option Addr} {k : IntKind} (ho : o.op = .slice t x (some y) none none) (hx : ev L x = some (.slice ad n cap)) (hy : ev L y = some (.int k (l : Int))) (hs : sliceE P t = some e) (hz : sizeB P e = some sz) (h : l ≤ n) (hc : n ≤ cap) : QOp P L o (slLo sz (.slice ad n cap) l) := by
  intro N D ac w hf
  unfold execOp; rw [ho]
  have := sliced_run (ad := ad) (len := n) (lo := l) (hi := n) (cap := cap) hs hz (some (.int k l)) none w ⟨k, rfl⟩ rfl h hc h
  simp only [hf.ev hx, hf.ev hy, Option.map_none, Option.map_some, Sem.run_bind] at this ⊢
  rw [this]; rfl
/-- s[:h] is read -/
theorem ownG_hi {z : Bool} {T sz n l c : Nat} {ad : Option Addr} {xs : List Value} {h : Hp} (hh : ownG z T sz (.slice ad n c) n xs h) (hl : l ≤ n) : ownO T sz (.slice ad l c) l (xs.take (l * sz)) h := by
  obtain ⟨h1, ⟨e, rfl⟩ | ⟨g, off, cap, cur, e, h4, h5, h6, h7, h8, h9⟩⟩ := hh
  · cases e
    obtain rfl : l = 0 := by omega
    exact ⟨by simp, .inl ⟨rfl, rfl⟩⟩
  · cases e
    refine ⟨?_, .inr ⟨g, off, c, cur, rfl, h4, by omega, h6, h7, ?_, fun e => by cases e⟩⟩
    · rw [List.length_take, h1]; exact Nat.min_eq_left (Nat.mul_le_mul_right _ hl)
    · rw [← h8, List.take_take, Nat.min_eq_left (Nat.mul_le_mul_right _ hl)]
theorem src_own {tx T sz n : Nat} {v : Value} {xs : List Value} (hk : sliceE P tx = some T) (hm : Mem (own T sz v n xs) H) (h1 : ∀ u ∈ xs, u.oneCell' = true) : ∀ w0 w, WS w0 H w → Src P sz tx v n xs w := fun w0 w hw => by
  obtain ⟨S, h⟩ := hw.get hm; exact ownG_src (sliceE_spec hk) (own_G.1 h) h1
/-- the first l elements -/
theorem src_hi {z : Bool} {tx T sz n l c : Nat} {ad : Option Addr} {xs : List Value} (hk : sliceE P tx = some T) (hm : Mem (ownG z T sz (.slice ad n c) n xs) H) (h1 : ∀ u ∈ xs, u.oneCell' = true) (hl : l ≤ n) : ∀ w0 w, WS w0 H w → Src P sz tx (.slice ad l c) l (xs.take (l * sz)) w := fun w0 w hw => by
  obtain ⟨S, h⟩ := hw.get hm; exact ownG_src (sliceE_spec hk) (ownG_hi h hl) (fun u hu => h1 u (List.mem_of_mem_take hu))
theorem src_str {tx : Nat} {l : List UInt8} (hk : P.underlying tx = some .string) : ∀ w0 w, WS w0 H w → Src P 1 tx (str l) l.length (l.map u8v) w := fun _ _ _ => str_src hk
theorem src_one {tx e b U c : Nat} {x : Value} (hk : sliceE P tx = some e) (hm : Mem (cel b U [x]) H) (h1 : x.oneCell' = true) : ∀ w0 w, WS w0 H w → Src P 1 tx (.slice (some ⟨b, 0, none⟩) 1 c) 1 [x] w := fun _ _ hw => cel_src (sliceE_spec hk) hw hm rfl rfl (fun u hu => by rw [List.mem_singleton.1 hu]; exact h1)
end

section
variable {P : Program} {w0 : World} {N : Nat} {Q : Exit → Act → World → Prop} {D : List Deferred} {L : List (Nat × Value)} {H H1 : List HP} {p q : HP}
/-- the store at the end of a region that draws -/
theorem G.stZ {dr : Bool} {C : World → Prop} {cl : Oper → Cls} {ol : List Oper} {o : Oper} {H' : List HP} {x y : Operand} {v : Value} {T U b off : Nat} {cs cs' : List Value}
    (hT : sizeB P T = some 1) (k : G ⟨P, dr, fun _ => True, cl, ol, Q, w0, N⟩ D [] L H') (ho : o.op = .store T x y := by exact rfl) (hx : ev L x = some (.pointer (some ⟨b, off, none⟩)) := by exact rfl) (hy : ev L y = some v := by exact rfl) (hd : o.dst = none := by exact rfl) (hg : gd ol L o = some true := by exact rfl)
    (hc : okc ⟨P, dr, C, cl, ol, Q, w0, N⟩ o .z = true := by exact rfl) (hv : v.oneCell' = true := by exact rfl) (hr : Rep H (cel b U cs) (cel b U cs') H' := by repeat (first | exact Rep.here | apply Rep.there)) (hs : SetAt cs off v cs' := by repeat (first | exact SetAt.zero | apply SetAt.succ)) :
    G ⟨P, dr, C, cl, ol, Q, w0, N⟩ D [o] L H :=
  .z0 hd hg hc (e_store ho hx hy hT hv hs hr) (fun _ _ h => by obtain ⟨_, rfl⟩ := h; exact k) rfl
theorem WS.imp {w : World} (h : WS w0 (p :: H) w) (hi : ∀ h, p h → q h) : WS w0 (q :: H) w := ⟨star_imp h.sat hi, h.os, h.tape, h.output⟩
/-- one part is said otherwise -/
theorem CG.imp {c : Code} (ht : Take H p H1) (hi : ∀ h, p h → q h) (k : CG P w0 N c Q D L (q :: H1)) : CG P w0 N c Q D L H := fun a w hf hw => k a w hf ((hw.take1 ht).imp hi)
theorem G.imp {E : Env} {l : List Oper} (ht : Take H p H1) (hi : ∀ h, p h → q h) (k : G E D l L (q :: H1)) : G E D l L H := fun a w hf hw => k a w hf ((hw.take1 ht).imp hi)
theorem EN.imp {e : Exit} (ht : Take H p H1) (hi : ∀ h, p h → q h) (k : EN w0 N Q e D L (q :: H1)) : EN w0 N Q e D L H := fun a w hf hw => k a w hf ((hw.take1 ht).imp hi)
theorem WS.fact {w : World} {α : Prop} (h : WS w0 (p :: H) w) (hi : ∀ h, p h → α) : α := by obtain ⟨S, h1, _⟩ := star_cons.1 h.sat; exact hi _ h1
/-- what a part tells -/
theorem CG.fact {c : Code} {α : Prop} (ht : Take H p H1) (hi : ∀ h, p h → α) (k : α → CG P w0 N c Q D L H) : CG P w0 N c Q D L H := fun a w hf hw => k ((hw.take1 ht).fact hi) a w hf hw
theorem G.fact {E : Env} {l : List Oper} {α : Prop} (ht : Take H p H1) (hi : ∀ h, p h → α) (k : α → G E D l L H) : G E D l L H := fun a w hf hw => k ((hw.take1 ht).fact hi) a w hf hw
theorem EN.fact {e : Exit} {α : Prop} (ht : Take H p H1) (hi : ∀ h, p h → α) (k : α → EN w0 N Q e D L H) : EN w0 N Q e D L H := fun a w hf hw => k ((hw.take1 ht).fact hi) a w hf hw
/-- a call of a closure -/
theorem e_callc {o : Oper} {f : FuncId} {y : Operand} {xs : List Operand} {ts : Array TypeId} {vs fi ca : List Value} {pre F : List HP} {post : Value → List HP → Prop}
    (ho : o.op = .call { callee := .value y, args := xs.toArray, argTypes := ts }) (hy : ev L y = some (.func (.func f) fi.toArray ca.toArray)) (hx : evs L xs = some vs) (hb : bodied P f = true) (hH : H = pre ++ F)
    (hs : Spec P f (fi ++ vs ++ ca).toArray pre (Ret post)) : EOp P L H o (fun v H' => ∃ hl, post v hl ∧ H' = hl ++ F) := by
  intro N D a w w0 K Q hf hw hk
  subst hH
  have hrun : (execOp a.eval o).run P w = .ok (.enter f (fi ++ vs ++ ca).toArray) w := by
    unfold execOp; rw [ho]
    have hm : xs.toArray.map a.eval = vs.toArray := by simp [evs_eval hf hx]
    simp only [resolve, Sem.run_bind, hm]
    rw [hf.ev hy]
    simp [Deferred.ofValue, invoke, run_callFunc hb]
  unfold Oper.wp
  rw [hrun]
  simp only [Oper.upon]
  refine (hs F w0 w hw).mono ?_
  rintro e w' ⟨hl, hp, hw'⟩
  cases e with
  | returned v => exact hk v _ w' ⟨hl, hp, rfl⟩ hw'
  | panicked c => exact hp.elim
  | outgrown => exact hp.elim
theorem G.callc {E : Env} {o : Oper} {rest : List Oper} {d : Nat} {f : FuncId} {y : Operand} {xs : List Operand} {ts : Array TypeId} {vs fi ca : List Value} {pre F : List HP} {post : Value → List HP → Prop}
    (ho : o.op = .call { callee := .value y, args := xs.toArray, argTypes := ts }) (hy : ev L y = some (.func (.func f) fi.toArray ca.toArray)) (hx : evs L xs = some vs) (hs : Spec E.P f (fi ++ vs ++ ca).toArray pre (Ret post)) (hb : bodied E.P f = true)
    (hd : o.dst = some d) (hdn : Nat.blt d E.N = true) (hg : gd E.ol L o = some true) (hc : okc E o .e = true) (ht : Takes H pre F)
    (hC : E.dr = true → ∀ v hl w', post v hl → WS E.w0 (hl ++ F) w' → E.C w')
    (k : ∀ v hl, post v hl → G E D rest ((d, v) :: L) (hl ++ F)) : G E D (o :: rest) L H := by
  refine G.takes ht ?_
  refine G.e hd hdn hg hc (e_callc ho hy hx hb rfl hs) ?_ ?_
  · rintro hdr v H' w' ⟨hl, hp, rfl⟩ hw'; exact hC hdr v hl w' hp hw'
  · rintro v H' ⟨hl, hp, rfl⟩; exact k v hl hp
end
end Go.Eng
/-
  Deferred calls, recover, results in cells. Speaks of no program.
-/
set_option linter.unusedVariables false
set_option linter.unusedSimpArgs false
namespace Go.Eng
section
variable {P : Program} {w0 : World} {N : Nat} {Q : Exit → Act → World → Prop} {D : List Deferred} {L : List (Nat × Value)} {H : List HP}
theorem q_tassert {o : Oper} {x : Operand} {xT T : TypeId} {v : Value} (ho : o.op = .typeAssert x xT T true) (hx : ev L x = some (.iface T v)) (hT : match P.underlying T with | some (.interface _) => False | some _ => True | none => False) : QOp P L o (.tuple #[v, .bool true]) := by
  intro N D a w hf
  unfold execOp; rw [ho]
  cases hu : P.underlying T with
  | none => rw [hu] at hT; exact hT.elim
  | some d =>
    rw [hu] at hT
    cases d <;> simp only at hT <;> simp [hf.ev hx, Instr.typeAssert, run_underlying hu]
theorem q_tassert_n {o : Oper} {x : Operand} {xT T : TypeId} {z : Value} (ho : o.op = .typeAssert x xT T true) (hx : ev L x = some .nilIface) (hz : zeroB P T = some z) (hT : (P.underlying T).isSome = true) : QOp P L o (.tuple #[z, .bool false]) := by
  intro N D a w hf
  unfold execOp; rw [ho]
  obtain ⟨d, hu⟩ := Option.isSome_iff_exists.1 hT
  cases d <;> simp [hf.ev hx, Instr.typeAssert, run_underlying hu, run_zero hz]
/-- a type that is no interface -/
def niB (P : Program) (T : TypeId) : Bool := match P.underlying T with | some (.interface _) => false | some _ => true | none => false
theorem niB_spec {T : TypeId} (h : niB P T = true) : match P.underlying T with | some (.interface _) => False | some _ => True | none => False := by
  unfold niB at h
  cases hu : P.underlying T with
  | none => rw [hu] at h; cases h
  | some d => rw [hu] at h; cases d <;> first | trivial | cases h
theorem q_ifaceB {o : Oper} {x : Operand} {T : TypeId} {v : Value} (ho : o.op = .makeInterface T x) (hx : ev L x = some v) (hT : niB P T = true) : QOp P L o (.iface T v) := q_iface ho hx (niB_spec hT)
theorem q_tassertB {o : Oper} {x : Operand} {xT T : TypeId} {v : Value} (ho : o.op = .typeAssert x xT T true) (hx : ev L x = some (.iface T v)) (hT : niB P T = true) : QOp P L o (.tuple #[v, .bool true]) := q_tassert ho hx (niB_spec hT)
/-- defer -/
theorem G.defer {cl : Oper → Cls} {ol rest : List Oper} {o : Oper} {y : Operand} {xs : List Operand} {ts : Array TypeId} {vs fi ca : List Value} {fn : Fn} (ho : o.op = .defer { callee := .value y, args := xs.toArray, argTypes := ts }) (hy : ev L y = some (.func fn fi.toArray ca.toArray)) (hx : evs L xs = some vs) (hd : o.dst = none) (hg : gd ol L o = some true)
    (k : G ⟨P, false, fun _ => True, cl, ol, Q, w0, N⟩ ({ target := .fn fn ca.toArray, args := (fi ++ vs).toArray } :: D) rest L H) : G ⟨P, false, fun _ => True, cl, ol, Q, w0, N⟩ D (o :: rest) L H := by
  intro a w hf hw
  simp only
  unfold wpList
  rw [if_pos (gd_spec hf hg)]
  refine .inl ?_
  have hrun : (execOp a.eval o).run P w = .ok (.defer { target := .fn fn ca.toArray, args := (fi ++ vs).toArray }) w := by
    unfold execOp; rw [ho]
    have hm : xs.toArray.map a.eval = vs.toArray := by simp [evs_eval hf hx]
    simp only [resolve, Sem.run_bind, hm, hf.ev hy]
    simp [Deferred.ofValue]
  unfold Oper.wp
  rw [hrun]
  simp only [Oper.upon]
  refine k _ w ?_ hw
  rw [hd]
  refine ⟨hf.size, ?_, hf.val⟩
  show _ :: a.defers = _
  rw [hf.defs]

/-- a contract of a deferred call -/
def SpecD (P : Program) (f : FuncId) (args : Array Value) (u : FrameMode) (pre : List HP) (post : Ending → FrameMode → List HP → Prop) : Prop :=
  ∀ (F : List HP) (w0 w : World), WS w0 (pre ++ F) w → CallsD P f args u w fun e u' w' => ∃ hl, post e u' hl ∧ WS w0 (hl ++ F) w'
/-- what recover yields, and what the caller does from then on -/
def recM : FrameMode → Value × FrameMode
  | .panicking ({ v, recovered := false, goexit := false } :: older) => (v, .panicking ({ v, recovered := true } :: older))
  | m => (.nilIface, m)

theorem wpOpsS_of {ops : Array Oper} {Q : Exit → Act → World → Prop} {Q' : Exit → Act → List Frame → World → Prop} (hno : ¬ LetsOut Q) {cs : List Frame} (hQ : ∀ e a w, Q e a w → Q' e a cs w) : ∀ (l : List Nat) (a : Act) (w : World), wpOps P ops Q l a w → wpOpsS P ops Q' l a cs w
  | [], a, w, h => by unfold wpOps at h; unfold wpOpsS; exact hQ _ _ _ h
  | i :: l, a, w, h => by
    rw [wpOps_cons] at h
    unfold wpOp at h
    unfold wpOpsS
    cases ho : ops[i]? with
    | none => simp only [ho] at h ⊢; exact wpOpsS_of hno hQ l a w h
    | some o =>
      simp only [ho] at h ⊢
      split
      · rename_i hw
        simp only [hw, if_true] at h
        rcases h with h | h
        · unfold Oper.wp at h
          generalize (execOp a.eval o).run P w = r at h ⊢
          cases r with
          | ok n w' =>
            cases n <;> simp only [Oper.upon] at h ⊢
            case value u => exact wpOpsS_of hno hQ l _ _ h
            case skip => exact wpOpsS_of hno hQ l _ _ h
            case defer d => exact wpOpsS_of hno hQ l _ _ h
            case enter f args =>
              refine Calls.mono h fun e w'' he => ?_
              cases e with
              | returned u => exact wpOpsS_of hno hQ l _ _ he
              | panicked c => exact hQ _ _ _ he
              | outgrown => exact absurd he hno
            case row row args => exact Rows.mono h fun u w'' he => wpOpsS_of hno hQ l _ _ he
          | halt x w' =>
            cases x <;> simp only [Oper.upon] at h ⊢
            case panic u => exact hQ _ _ _ h
        · exact absurd h.2 hno
      · rename_i hw
        simp only [hw] at h
        exact wpOpsS_of hno hQ l _ _ h

/-- a function's end, with deferred calls -/
def FinD (P : Program) (w0 : World) (fn : Func) (F : List HP) (post : Ending → List HP → Prop) : Exit → Act → World → Prop := bodyPostD P fn fun e w' => ∃ hl, post e hl ∧ WS w0 (hl ++ F) w'
theorem Spec.enterD {f : FuncId} {fn : Func} {c : Code} {vs : List Value} {pre : List HP} {post : Ending → List HP → Prop} (hf : P.funcs[f]? = some fn) (hb : fn.body = some c) (hN : fn.ntmps = N) (hle : Nat.ble vs.length N = true)
    (h : ∀ (F : List HP) (w0 : World), CG P w0 N c (FinD P w0 fn F post) [] (argL 0 vs) (pre ++ F)) : Spec P f vs.toArray pre post := by
  intro F w0 w hw
  refine calls_of_wp_defers hf hb ?_
  refine h F w0 _ w ⟨?_, rfl, ?_⟩ hw
  · have := Nat.le_of_ble_eq_true hle
    simp [hN]; omega
  · intro t v hv
    obtain ⟨j, rfl, hj⟩ := argL_get vs 0 t v hv
    have hlt := (List.getElem?_eq_some_iff.1 hj).1
    rw [Array.getD_eq_getD_getElem?]
    simp [Array.getElem?_append, hlt]
    exact (List.getElem?_eq_some_iff.1 hj).2
/-- a deferred closure whose body begins with recover -/
theorem SpecD.enter {f : FuncId} {fn : Func} {id : Nat} {o : Oper} {rest : List Oper} {c2 : Code} {vs : List Value} {u u' : FrameMode} {v : Value} {d : Nat} {pre : List HP} {post : Ending → List HP → Prop}
    (hf : P.funcs[f]? = some fn) (hb : fn.body = some (.seq (.region id (o :: rest).toArray false) c2)) (hN : fn.ntmps = N) (hle : Nat.ble vs.length N = true) (ho : o.op = .call { callee := .builtin .recover, args := #[], argTypes := #[] }) (hd : o.dst = some d) (hdn : Nat.blt d N = true) (hg : o.guard = none)
    (hr : recM u = (v, u')) (hno : ∀ hl, ¬ post .outgrown hl)
    (h : ∀ (F : List HP) (w0 : World), G ⟨P, false, fun _ => True, cls, o :: rest, Exit.then (c2.wp P (Fin P w0 fn F post)) (Fin P w0 fn F post), w0, N⟩ [] rest ((d, v) :: argL 0 vs) (pre ++ F)) : SpecD P f vs.toArray u pre (fun e u2 hl => u2 = u' ∧ post e hl) := by
  intro F w0 w hw
  refine callsD_of_wpS hf hb ?_
  intro c₀ cs hc
  have hfr : Fr N [] (argL 0 vs) { tmps := vs.toArray ++ Array.replicate (fn.ntmps - vs.toArray.size) undef, defers := [] } := by
    refine ⟨?_, rfl, ?_⟩
    · have := Nat.le_of_ble_eq_true hle
      simp [hN]; omega
    · intro t v hv
      obtain ⟨j, rfl, hj⟩ := argL_get vs 0 t v hv
      have hlt := (List.getElem?_eq_some_iff.1 hj).1
      rw [Array.getD_eq_getD_getElem?]
      simp [Array.getElem?_append, hlt]
      exact (List.getElem?_eq_some_iff.1 hj).2
  generalize ({ tmps := vs.toArray ++ Array.replicate (fn.ntmps - vs.toArray.size) undef, defers := [] } : Act) = a at hfr ⊢
  have hfr2 : Fr N [] ((d, v) :: argL 0 vs) (a.put o.dst v) := by rw [hd]; exact hfr.put d (by simp [Nat.blt] at hdn; omega) v
  have hG := h F w0 _ w hfr2 hw
  simp only at hG
  have hlet : ¬ LetsOut (Exit.then (c2.wp P (Fin P w0 fn F post)) (Fin P w0 fn F post)) := by
    rintro ⟨a0, w1, hl, hp, _⟩; exact hno hl hp
  have key : ∀ (K : Act → List Frame → World → Prop), K (a.put o.dst v) ({ c₀ with mode := u' } :: cs) w → (match recoverD (c₀ :: cs) with | some (v, cs') => K (a.put o.dst v) cs' w | none => K (a.put o.dst .nilIface) (c₀ :: cs) w) := by
    intro K hK
    subst hc
    unfold recM at hr
    split at hr
    · rename_i x older hm
      simp only [Prod.mk.injEq] at hr
      obtain ⟨rfl, rfl⟩ := hr
      have hrd : recoverD (c₀ :: cs) = some (x, { c₀ with mode := .panicking ({ v := x, recovered := true } :: older) } :: cs) := by simp [recoverD, hm]
      rw [hrd]; exact hK
    · rename_i hm
      simp only [Prod.mk.injEq] at hr
      obtain ⟨rfl, rfl⟩ := hr
      have hrd : recoverD (c₀ :: cs) = none := by
        cases hmode : c₀.mode with
        | run => simp [recoverD, hmode]
        | returning => simp [recoverD, hmode]
        | panicking l =>
          cases l with
          | nil => simp [recoverD, hmode]
          | cons p older =>
            obtain ⟨v, rc, gx⟩ := p
            cases rc <;> cases gx <;> first | exact absurd hmode (hm _ _) | simp [recoverD, hmode]
      rw [hrd]; exact hK
  refine wpS_seq (wpS_region ?_)
  have hsz : (o :: rest).toArray.size = rest.length + 1 := by simp
  rw [hsz, List.range_eq_range', List.range'_succ]
  unfold wpOpsS
  have h0 : (o :: rest).toArray[0]? = some o := rfl
  have hw0 : Region.wanted o (yielded (o :: rest).toArray a.tmps) = true := by unfold Region.wanted; rw [hg]
  have hrun : (execOp a.eval o).run P w = .ok .recover w := by
    unfold execOp; rw [ho]
    simp [resolve, invoke, builtin]
  simp only [h0, hw0, if_true, hrun]
  refine key (fun a cs w => wpOpsS P (o :: rest).toArray _ (List.range' (0 + 1) rest.length) a cs w) ?_
  refine wpOpsS_of hlet ?_ _ _ _ ?_ (Q := Exit.then (c2.wp P (Fin P w0 fn F post)) (Fin P w0 fn F post))
  · intro e a1 w1 hq
    have fin : ∀ e a w, Fin P w0 fn F post e a w → bodyPostS P fn c₀ cs (fun e u2 w' => ∃ hl, (u2 = u' ∧ post e hl) ∧ WS w0 (hl ++ F) w') e a ({ c₀ with mode := u' } :: cs) w := by
      intro e a w hq
      cases e with
      | normal => obtain ⟨h1, x, h2, hl, hp, hw'⟩ := hq; exact ⟨h1, u', rfl, x, h2, hl, ⟨rfl, hp⟩, hw'⟩
      | ret => obtain ⟨h1, x, h2, hl, hp, hw'⟩ := hq; exact ⟨h1, u', rfl, x, h2, hl, ⟨rfl, hp⟩, hw'⟩
      | panic c => obtain ⟨h1, hl, hp, hw'⟩ := hq; exact ⟨h1, u', rfl, hl, ⟨rfl, hp⟩, hw'⟩
      | exit i => exact hq
      | goto i => exact hq
      | outgrown => obtain ⟨hl, hp, hw'⟩ := hq; exact absurd hp (hno hl)
    cases e with
    | normal => exact wpS_of_wp (wp_mono hq fun e a w hq => fin e a w hq)
    | _ => exact fin _ _ _ hq
  · have := wpOps_eq_wpList (P := P) (ops := (o :: rest).toArray) (Q := Exit.then (c2.wp P (Fin P w0 fn F post)) (Fin P w0 fn F post)) rest (0 + 1) (fun j => by simp [Nat.add_comm 1 j])
    rw [this]; exact hG

/-- what a function's results are -/
def RVal (P : Program) (fn : Func) (L : List (Nat × Value)) (H : List HP) (v : Value) : Prop := ∀ N D a w w0, Fr N D L a → WS w0 H w → (results fn a.tmps).run P w = .ok v w
/-- a variable's value, as a result -/
def LV (P : Program) (H : List HP) (T b : Nat) (v : Value) : Prop := ∀ w w0, WS w0 H w → (loadVar T ⟨b, 0, none⟩).run P w = .ok v w
theorem LV.agg {T U b n : Nat} {cs : List Value} (hT : aggB P T = some true) (hz : sizeB P T = some n) (hm : Mem (cel b U cs) H) (hn : Nat.beq cs.length n = true) : LV P H T b (.agg cs.toArray) := fun w w0 hw => run_loadVar_agg hw hT (by rw [Nat.eq_of_beq_eq_true hn]; exact hz) hm
theorem LV.one {T U b : Nat} {v : Value} (hT : aggB P T = some false) (hm : Mem (cel b U [v]) H) : LV P H T b v := fun w w0 hw => run_loadVar_one hw hT hm
theorem RVal.two {fn : Func} {t u T U b c : Nat} {x y : Value} (hr : fn.results = #[.cell t T, .cell u U]) (ht : get? L t = some (.pointer (some ⟨b, 0, none⟩))) (hu : get? L u = some (.pointer (some ⟨c, 0, none⟩))) (h1 : LV P H T b x) (h2 : LV P H U c y) : RVal P fn L H (.tuple #[x, y]) := by
  intro N D a w w0 hf hw
  have e1 := hf.val t _ ht
  have e2 := hf.val u _ hu
  rw [Array.getD_eq_getD_getElem?] at e1 e2
  simp [results, hr, e1, e2, asAddr, h1 w w0 hw, h2 w w0 hw]
theorem RVal.four {fn : Func} {t u s r T U S R b c d e : Nat} {x y z q : Value} (hr : fn.results = #[.cell t T, .cell u U, .cell s S, .cell r R]) (ht : get? L t = some (.pointer (some ⟨b, 0, none⟩))) (hu : get? L u = some (.pointer (some ⟨c, 0, none⟩))) (hs : get? L s = some (.pointer (some ⟨d, 0, none⟩))) (hq : get? L r = some (.pointer (some ⟨e, 0, none⟩)))
    (h1 : LV P H T b x) (h2 : LV P H U c y) (h3 : LV P H S d z) (h4 : LV P H R e q) : RVal P fn L H (.tuple #[x, y, z, q]) := by
  intro N D a w w0 hf hw
  have e1 := hf.val t _ ht
  have e2 := hf.val u _ hu
  have e3 := hf.val s _ hs
  have e4 := hf.val r _ hq
  rw [Array.getD_eq_getD_getElem?] at e1 e2 e3 e4
  simp [results, hr, e1, e2, e3, e4, asAddr, h1 w w0 hw, h2 w w0 hw, h3 w w0 hw, h4 w w0 hw]
/-- the end of a function that defers, nothing deferred yet -/
theorem finD_0 {fn : Func} {F : List HP} {post : Ending → List HP → Prop} {v : Value} {hl R : List HP} (hv : RVal P fn L H v) (ht : Takes H hl R) (hsu : Suf R F) (hp : post (.returned v) hl) (e : Exit) (he : e = .ret ∨ e = .normal) : EN w0 N (FinD P w0 fn F post) e [] L H := by
  intro a w hf hw
  have hw' : WS w0 (hl ++ F) w := hw.sel ht hsu
  rcases he with rfl | rfl
  all_goals
    show Leaves P fn a.tmps _ a.defers .returning w
    rw [hf.defs]
    exact ⟨v, hv _ _ _ _ _ hf hw, hl, hp, hw'⟩
/-- .. with one deferred call, at a return -/
theorem finD_r {fn : Func} {F F1 : List HP} {post : Ending → List HP → Prop} {v : Value} {pre hl1 hl R : List HP} {f : FuncId} {xs ca : List Value} (hs : SpecD P f (xs ++ ca).toArray .returning pre (fun e u' hl => u' = .returning ∧ (∃ r, e = .returned r) ∧ hl = hl1)) (hb : bodied P f = true) (ht : Takes H pre F1) (hv : RVal P fn L (hl1 ++ F1) v)
    (ht2 : Takes (hl1 ++ F1) hl R) (hsu : Suf R F) (hp : post (.returned v) hl) (e : Exit) (he : e = .ret ∨ e = .normal) : EN w0 N (FinD P w0 fn F post) e [{ target := .fn (.func f) ca.toArray, args := xs.toArray }] L H := by
  intro a w hf hw
  have hin : (invoke (.fn (.func f) ca.toArray) xs.toArray).run P w = .ok (.enter f (xs ++ ca).toArray) w := by simp [invoke, run_callFunc hb]
  have main : Leaves P fn a.tmps (fun e w' => ∃ hl, post e hl ∧ WS w0 (hl ++ F) w') [{ target := .fn (.func f) ca.toArray, args := xs.toArray }] .returning w := by
    refine leaves_cons (by simp) hin (CallsD.mono (hs F1 w0 w (hw.takes ht)) ?_)
    rintro e u' w' ⟨hl', ⟨rfl, ⟨r, rfl⟩, rfl⟩, hw'⟩
    show Leaves P fn a.tmps _ [] .returning w'
    exact ⟨v, hv _ _ _ _ _ hf hw', hl, hp, hw'.sel ht2 hsu⟩
  rcases he with rfl | rfl
  all_goals
    show Leaves P fn a.tmps _ a.defers .returning w
    rw [hf.defs]; exact main
/-- .. at a panic that is recovered -/
theorem finD_p {fn : Func} {F F1 : List HP} {post : Ending → List HP → Prop} {v x : Value} {pre hl1 hl R : List HP} {f : FuncId} {xs ca : List Value} (hs : SpecD P f (xs ++ ca).toArray (.panicking [{ v := x, recovered := false }]) pre (fun e u' hl => u' = .panicking [{ v := x, recovered := true }] ∧ (∃ r, e = .returned r) ∧ hl = hl1)) (hb : bodied P f = true) (ht : Takes H pre F1) (hv : RVal P fn L (hl1 ++ F1) v)
    (ht2 : Takes (hl1 ++ F1) hl R) (hsu : Suf R F) (hp : post (.returned v) hl) : EN w0 N (FinD P w0 fn F post) (.panic [{ v := x, recovered := false }]) [{ target := .fn (.func f) ca.toArray, args := xs.toArray }] L H := by
  intro a w hf hw
  have hin : (invoke (.fn (.func f) ca.toArray) xs.toArray).run P w = .ok (.enter f (xs ++ ca).toArray) w := by simp [invoke, run_callFunc hb]
  show Leaves P fn a.tmps _ a.defers (.panicking [{ v := x, recovered := false }]) w
  rw [hf.defs]
  refine leaves_cons (by simp) hin (CallsD.mono (hs F1 w0 w (hw.takes ht)) ?_)
  rintro e u' w' ⟨hl', ⟨rfl, ⟨r, rfl⟩, rfl⟩, hw'⟩
  show Leaves P fn a.tmps _ [] (settle (.panicking [{ v := x, recovered := true }])) w'
  exact ⟨v, hv _ _ _ _ _ hf hw', hl, hp, hw'.sel ht2 hsu⟩
end
end Go.Eng
/-
  Plain: RFC 1951 written (Deflate, Stored), no program in sight.
-/
set_option linter.unusedVariables false
namespace Go.Eng
namespace Defl
theorem xor16 {n : Nat} (h : n ≤ 65535) : n ^^^ 65535 = 65535 - n := by
  have h1 : BitVec.ofNat 16 n ^^^ BitVec.allOnes 16 = ~~~ BitVec.ofNat 16 n := BitVec.xor_allOnes
  have h2 := congrArg BitVec.toNat h1
  rw [BitVec.toNat_xor, BitVec.toNat_not, BitVec.toNat_ofNat, BitVec.toNat_allOnes, Nat.mod_eq_of_lt (by omega)] at h2
  simpa using h2
theorem xor_val {n : Nat} (h : n ≤ 65535) : bits .xor .i64 (n : Int) 65535 = ((65535 - n : Nat) : Int) := by
  have := bits_xor_lim (k := .i64) (a := n) (b := 65535) (by simp [lim, IntKind.signed, IntKind.bits]; omega) (by simp [lim, IntKind.signed, IntKind.bits])
  rw [show ((65535 : Nat) : Int) = 65535 from rfl] at this
  rw [this, xor16 h]
/-- one stored block -/
def stored (s : List UInt8) : List UInt8 := ((WR.zero.put 1 3).bytes (Sums.little (s.length : Int) 2 ++ Sums.little ((65535 - s.length : Nat) : Int) 2 ++ s)).text
/-- the last symbol whose base isn't above n -/
def symOf (base : Nat → Nat × Nat) (n : Nat) : Nat → Nat × Nat × Nat
  | 0 => (0, n - (base 0).1, (base 0).2)
  | i + 1 => if (base (i + 1)).1 ≤ n then (i + 1, n - (base (i + 1)).1, (base (i + 1)).2) else symOf base n i
theorem symOf_le (base : Nat → Nat × Nat) (n m : Nat) : (symOf base n m).1 ≤ m := by
  induction m with
  | zero => simp [symOf]
  | succ m ih =>
    unfold symOf; split
    · exact Nat.le_refl _
    · omega
/-- how many bytes stand alike -/
def ml (s : List UInt8) (a i : Nat) : Nat → Nat → Nat
  | 0, n => n
  | f + 1, n => if i + n < s.length ∧ s.getD (a + n) 0 = s.getD (i + n) 0 then ml s a i f (n + 1) else n
def key (s : List UInt8) (i : Nat) : List UInt8 := (s.take (i + 3)).drop i
abbrev Seen := List UInt8 → Option Nat
def find (s : List UInt8) (i : Nat) (seen : Seen) : Nat × Nat :=
  if i + 3 ≤ s.length then match seen (key s i) with
    | some a => if (i : Int) - a ≤ 32768 then (ml s a i 258 0, i - a) else (0, 0)
    | none => (0, 0)
  else (0, 0)
def note (s : List UInt8) (i : Nat) (seen : Seen) : Seen := if i + 3 ≤ s.length then fun k => if k = key s i then some i else seen k else seen
def lit (W : WR) (c : Nat) : WR := W.code (Huff.code Infl.fixedLit c).1 (Huff.code Infl.fixedLit c).2
def dst (W : WR) (c : Nat) : WR := W.code (Huff.code Infl.fixedDist c).1 (Huff.code Infl.fixedDist c).2
def rep (W : WR) (n back : Nat) : WR :=
  (dst ((lit W (257 + (symOf Infl.lengthBase n 28).1)).put (symOf Infl.lengthBase n 28).2.1 (symOf Infl.lengthBase n 28).2.2) (symOf Infl.distBase back 29).1).put (symOf Infl.distBase back 29).2.1 (symOf Infl.distBase back 29).2.2
def go (s : List UInt8) : Nat → Nat → Seen → WR → WR
  | 0, _, _, W => W
  | f + 1, i, seen, W => if s.length ≤ i then W else
    if (find s i seen).1 < 3 then go s f (i + 1) (note s i seen) (lit W (s.getD i 0).toNat)
    else go s f (i + (find s i seen).1) (note s i seen) (rep W (find s i seen).1 (find s i seen).2)
def stream (s : List UInt8) : List UInt8 := (lit (go s s.length 0 (fun _ => none) (WR.zero.put 3 3)) 256).text
def deflate (s : List UInt8) : List UInt8 := if (stream s).length < (stored s).length then stream s else stored s
theorem ml_le (s : List UInt8) (a i : Nat) : ∀ (f n : Nat), n ≤ ml s a i f n ∧ ml s a i f n ≤ n + f ∧ (ml s a i f n ≤ n ∨ i + ml s a i f n ≤ s.length)
  | 0, n => by simp [ml]
  | f + 1, n => by
    unfold ml
    split
    · have := ml_le s a i f (n + 1); omega
    · omega
/-- what is seen stands ahead -/
def SeenOk (s : List UInt8) (i : Nat) (seen : Seen) : Prop := ∀ k a, seen k = some a → a < i ∧ a + 3 ≤ s.length
theorem note_ok {s : List UInt8} {i : Nat} {seen : Seen} (h : SeenOk s i seen) {j : Nat} (hj : i < j) : SeenOk s j (note s i seen) := by
  intro k a hk
  unfold note at hk
  split at hk
  · simp only at hk
    split at hk
    · simp only [Option.some.injEq] at hk; omega
    · have := h k a hk; omega
  · have := h k a hk; omega
theorem find_le {s : List UInt8} {i : Nat} {seen : Seen} (h : SeenOk s i seen) : (find s i seen).1 ≤ 258 ∧ (3 ≤ (find s i seen).1 → i + (find s i seen).1 ≤ s.length ∧ 1 ≤ (find s i seen).2 ∧ (find s i seen).2 ≤ 32768 ∧ (find s i seen).2 ≤ i) := by
  unfold find
  split
  · split
    · rename_i a ha
      have := h _ a ha
      split
      · have := ml_le s a i 258 0
        simp only; omega
      · simp
    · simp
  · simp
theorem lengthBase_lt {i : Nat} (h : i ≤ 28) : (Infl.lengthBase i).2 ≤ 5 := by
  unfold Infl.lengthBase; split
  · simp
  · split
    · simp
    · simp only; omega
/-- the tables' codes -/
def litC (c : Nat) : Nat × Nat := if c < 144 then (48 + c, 8) else if c < 256 then (400 + (c - 144), 9) else if c < 280 then (c - 256, 7) else (192 + (c - 280), 8)
def litS : List Nat := List.range' 256 24 ++ List.range' 0 144 ++ List.range' 280 8 ++ List.range' 144 112
theorem litS_eq : Huff.sorted Infl.fixedLit = litS := by kernel_rfl
theorem code_lit0 : (List.range 288).all (fun c => decide (Huff.codeGo Infl.fixedLit litS c 15 1 0 0 = litC c)) = true := by kernel_rfl
theorem code_lit {c : Nat} (h : c < 288) : Huff.code Infl.fixedLit c = litC c := by
  have := List.all_eq_true.1 code_lit0 c (by simpa using h)
  unfold Huff.code; rw [litS_eq]; simpa using this
theorem code_dst0 : (List.range 32).all (fun c => decide (Huff.code Infl.fixedDist c = (c, 5))) = true := by kernel_rfl
theorem code_dst {c : Nat} (h : c < 32) : Huff.code Infl.fixedDist c = (c, 5) := by
  have := List.all_eq_true.1 code_dst0 c (by simpa using h)
  simpa using this
theorem litC_le (c : Nat) (h : c < 288) : (litC c).1 < 512 ∧ 7 ≤ (litC c).2 ∧ (litC c).2 ≤ 9 := by
  unfold litC; split
  · simp only; omega
  · split
    · simp only; omega
    · split <;> simp only <;> omega
def wl (W : WR) : Nat := 8 * W.out.length + W.hav
theorem lit_len (W : WR) {c : Nat} (h : c < 288) : wl (lit W c) ≤ wl W + 9 := by
  unfold lit wl; rw [WR.code_len, code_lit h]; have := litC_le c h; omega
theorem dst_len (W : WR) {c : Nat} (h : c < 32) : wl (dst W c) = wl W + 5 := by
  unfold dst wl; rw [WR.code_len, code_dst h]
theorem put_wl (W : WR) (x n : Nat) : wl (W.put x n) = wl W + n := WR.put_len W x n
theorem rep_len (W : WR) (n back : Nat) : wl (rep W n back) ≤ wl W + 32 := by
  unfold rep
  have h1 := symOf_le Infl.lengthBase n 28
  have h2 := symOf_le Infl.distBase back 29
  rw [put_wl, dst_len _ (by omega), put_wl]
  have h3 := lit_len W (c := 257 + (symOf Infl.lengthBase n 28).1) (by omega)
  have key : ∀ (base : Nat → Nat × Nat) (n m k : Nat), (∀ i, i ≤ m → (base i).2 ≤ k) → (symOf base n m).2.2 ≤ k := by
    intro base n m k hb
    induction m with
    | zero => exact hb 0 (Nat.le_refl _)
    | succ m ih => unfold symOf; split; exact hb _ (Nat.le_refl _); exact ih (fun i hi => hb i (by omega))
  have h4 := key Infl.lengthBase n 28 5 (fun i hi => lengthBase_lt hi)
  have h5 := key Infl.distBase back 29 13 (fun i hi => (Infl.distBase_le hi).2.2)
  omega
theorem lit_eq (W : WR) (c : Nat) : W.code (Huff.code Infl.fixedLit c).1 (Huff.code Infl.fixedLit c).2 = lit W c := rfl
theorem dst_eq (W : WR) (c : Nat) : W.code (Huff.code Infl.fixedDist c).1 (Huff.code Infl.fixedDist c).2 = dst W c := rfl
theorem rep_eq (W : WR) (n back : Nat) : (dst ((lit W (257 + (symOf Infl.lengthBase n 28).1)).put (symOf Infl.lengthBase n 28).2.1 (symOf Infl.lengthBase n 28).2.2) (symOf Infl.distBase back 29).1).put (symOf Infl.distBase back 29).2.1 (symOf Infl.distBase back 29).2.2 = rep W n back := rfl
theorem lit_get {c : Nat} (h : c < 288) : Infl.fixedLit[c]? = some (Infl.fixedLen c) := by simp [Infl.fixedLit, h]
theorem dst_get {c : Nat} (h : c < 32) : Infl.fixedDist[c]? = some 5 := by simp [Infl.fixedDist, h]
theorem len_pos (c : Nat) : 0 < Infl.fixedLen c := by unfold Infl.fixedLen; split <;> (try split) <;> (try split) <;> omega
theorem code_lt {c : Nat} (h : c < 288) : (Huff.code Infl.fixedLit c).1 < 2 ^ 32 ∧ (Huff.code Infl.fixedLit c).2 ≤ 32 := by rw [code_lit h]; have := litC_le c h; omega
theorem dcode_lt {c : Nat} (h : c < 32) : (Huff.code Infl.fixedDist c).1 < 2 ^ 32 ∧ (Huff.code Infl.fixedDist c).2 ≤ 32 := by rw [code_dst h]; simp only; omega
theorem sym_more (base : Nat → Nat × Nat) (n m k : Nat) (hb : ∀ i, i ≤ m → (base i).2 ≤ k) : (symOf base n m).2.2 ≤ k := by
  induction m with
  | zero => exact hb 0 (Nat.le_refl _)
  | succ m ih => unfold symOf; split; exact hb _ (Nat.le_refl _); exact ih (fun i hi => hb i (by omega))
theorem sym_rest (base : Nat → Nat × Nat) (n m : Nat) : (symOf base n m).2.1 ≤ n := by
  induction m with
  | zero => simp [symOf]
  | succ m ih => unfold symOf; split; exact Nat.sub_le _ _; exact ih
theorem find_no {s : List UInt8} {i : Nat} {seen : Seen} (h : s.length < i + 3) : find s i seen = (0, 0) ∧ note s i seen = seen := by
  unfold find note; rw [if_neg (by omega), if_neg (by omega)]; exact ⟨rfl, rfl⟩
theorem find_none {s : List UInt8} {i : Nat} {seen : Seen} (h : i + 3 ≤ s.length) (hs : seen ((s.take (i + 3)).drop i) = none) : find s i seen = (0, 0) := by
  unfold find key; rw [if_pos h, hs]
theorem find_far {s : List UInt8} {i a : Nat} {seen : Seen} (h : i + 3 ≤ s.length) (hs : seen ((s.take (i + 3)).drop i) = some a) (hf : ¬ (i : Int) - a ≤ 32768) : find s i seen = (0, 0) := by
  unfold find key; rw [if_pos h, hs]; exact if_neg hf
theorem find_some {s : List UInt8} {i a : Nat} {seen : Seen} (h : i + 3 ≤ s.length) (hs : seen ((s.take (i + 3)).drop i) = some a) (hf : (i : Int) - a ≤ 32768) : find s i seen = (ml s a i 258 0, i - a) := by
  unfold find key; rw [if_pos h, hs]; exact if_pos hf
theorem note_upd {s : List UInt8} {i : Nat} {seen : Seen} (h : i + 3 ≤ s.length) : upd (fun k => (seen k).map iv) ((s.take (i + 3)).drop i) (.int .i64 (i : Int)) = fun k => (note s i seen k).map iv := by
  funext k
  unfold upd note key
  rw [if_pos h]
  split <;> rfl
theorem lit_ok {W : WR} (h : W.Ok) (c : Nat) : (lit W c).Ok := WR.code_ok h _ _
theorem dst_ok {W : WR} (h : W.Ok) (c : Nat) : (dst W c).Ok := WR.code_ok h _ _
theorem rep_ok {W : WR} (h : W.Ok) (n back : Nat) : (rep W n back).Ok := WR.put_ok (dst_ok (WR.put_ok (lit_ok h _) _ _) _) _ _
theorem stored_len (s : List UInt8) : (stored s).length ≤ s.length + 6 := by
  have h1 := WR.put_len WR.zero 1 3
  have h2 := WR.align_len (WR.put_ok WR.zero_ok 1 3)
  have h3 : WR.zero.out.length = 0 := rfl
  have h4 : WR.zero.hav = 0 := rfl
  unfold stored WR.text
  rw [if_neg (by show ¬ 0 < (WR.zero.put 1 3).align.hav; omega)]
  simp [WR.bytes, Sums.little]; omega
theorem deflate_len (s : List UInt8) (hs : s.length ≤ 65535) : (deflate s).length ≤ 65600 := by
  have := stored_len s
  unfold deflate; split <;> omega
end Defl
end Go.Eng
/-
  Plain: deltas written (delta), no program in sight.
-/
set_option linter.unusedVariables false
namespace Go.Eng
namespace Dlt
/-- groups of seven bits -/
def sized (n : Nat) : List UInt8 := if h : 128 ≤ n then UInt8.ofNat (n % 128 + 128) :: sized (n / 128) else [UInt8.ofNat n]
termination_by n
theorem sized_len (n : Nat) : ∀ k, n < 128 ^ (k + 1) → (sized n).length ≤ k + 1 := by
  induction n using Nat.strongRecOn with
  | _ n ih =>
    intro k hk
    unfold sized
    split
    · cases k with
      | zero => rw [Nat.pow_succ, Nat.pow_zero] at hk; omega
      | succ k =>
        rw [Nat.pow_succ] at hk
        have := ih (n / 128) (by omega) k (by rw [Nat.div_lt_iff_lt_mul (by omega)]; exact hk)
        simp only [List.length_cons]; omega
    · simp
theorem or128_fin : ∀ a : _root_.Fin 256, (a.val ||| 128) = a.val % 128 + 128 := by decide +kernel
theorem or128 (n : Nat) : bits .or .u8 ((u8i (n : Int)).toNat : Int) 128 = ((UInt8.ofNat (n % 128 + 128)).toNat : Int) := by
  have e : (u8i (n : Int)).toNat = n % 256 := by unfold u8i; simp; omega
  have h := bits_or_lim (k := .u8) (a := n % 256) (b := 128) (by simp [lim, IntKind.signed, IntKind.bits]; omega) (by simp [lim, IntKind.signed, IntKind.bits])
  rw [show ((128 : Nat) : Int) = 128 from rfl] at h
  rw [e, h, or128_fin ⟨n % 256, by omega⟩]
  simp; omega
/-- a byte of a copy -/
def cx (o n i : Nat) : Nat := if 4 ≤ i then n / 2 ^ (8 * (i - 4)) % 256 else o / 2 ^ (8 * i) % 256
def takes (o n i : Nat) : Bool := decide (cx o n i ≠ 0) && !(decide (i = 6) && decide (n = 65536))
def flags (o n : Nat) : Nat → Nat
  | 0 => 0
  | k + 1 => flags o n k + if takes o n k then 2 ^ k else 0
def copyL (o n : Nat) : Nat → List UInt8
  | 0 => []
  | k + 1 => copyL o n k ++ if takes o n k then [UInt8.ofNat (cx o n k)] else []
def copyOf (o n : Nat) : List UInt8 := UInt8.ofNat (128 + flags o n 7) :: copyL o n 7
theorem flags_lt (o n k : Nat) : flags o n k < 2 ^ k := by
  induction k with
  | zero => simp [flags]
  | succ k ih => unfold flags; rw [Nat.pow_succ]; split <;> omega
theorem copyL_len (o n k : Nat) : (copyL o n k).length ≤ k := by
  induction k with
  | zero => simp [copyL]
  | succ k ih => unfold copyL; rw [List.length_append]; split <;> simp <;> omega
theorem copyOf_len (o n : Nat) : (copyOf o n).length ≤ 8 := by have := copyL_len o n 7; simp [copyOf]; omega
theorem flag_fin : ∀ i : _root_.Fin 7, ∀ f : _root_.Fin 64, f.val < 2 ^ i.val → ((128 + f.val) ||| 2 ^ i.val) = 128 + f.val + 2 ^ i.val := by decide +kernel
theorem flag_or {i f : Nat} (hi : i < 7) (hf : f < 2 ^ i) : bits .or .u8 ((128 + f : Nat) : Int) ((2 ^ i : Nat) : Int) = ((128 + f + 2 ^ i : Nat) : Int) := by
  have h6 : 2 ^ i ≤ 2 ^ 6 := Nat.pow_le_pow_right (by omega) (by omega)
  have h := bits_or_lim (k := .u8) (a := 128 + f) (b := 2 ^ i) (by simp [lim, IntKind.signed, IntKind.bits]; omega) (by simp only [lim, IntKind.signed, IntKind.bits]; omega)
  rw [h, flag_fin ⟨i, hi⟩ ⟨f, by omega⟩ hf]
theorem shr8 (o k : Nat) (hk : k ≤ 7) : (o : Int) / 2 ^ min (8 * (k : Int)).toNat IntKind.i64.bits = ((o / 2 ^ (8 * k) : Nat) : Int) := by
  have h := shr_nat (k := .i64) (a := o) (c := 8 * k) (by simp [IntKind.bits]; omega)
  rw [show (((8 * k : Nat) : Int)).toNat = (8 * (k : Int)).toNat by omega, Nat.shiftRight_eq_div_pow] at h
  exact h
theorem shl1 {k : Nat} (hk : k < 7) : IntKind.u8.wrap (1 * 2 ^ min (k : Int).toNat IntKind.u8.bits) = ((2 ^ k : Nat) : Int) := by
  have h6 : 2 ^ k ≤ 2 ^ 6 := Nat.pow_le_pow_right (by omega) (by omega)
  have h := shl_nat (k := .u8) (n := 8) rfl rfl (a := 1) (c := k) (by omega) (by omega)
  rw [Nat.shiftLeft_eq, Nat.one_mul] at h
  exact h
theorem head_val (o n : Nat) {k : Nat} (hk : k ≤ 7) : (UInt8.ofNat (128 + flags o n k)).toNat = 128 + flags o n k := by
  have h1 := flags_lt o n k
  have h2 : 2 ^ k ≤ 2 ^ 7 := Nat.pow_le_pow_right (by omega) hk
  simp; omega
theorem head2 {f k : Nat} (hf : f < 2 ^ k) (hk : k < 7) : ((128 + f + 2 ^ k : Nat) : Int) = ((UInt8.ofNat (128 + f + 2 ^ k)).toNat : Int) := by
  have h2 : 2 ^ k ≤ 2 ^ 6 := Nat.pow_le_pow_right (by omega) (by omega)
  generalize 2 ^ k = p at *
  rw [UInt8.toNat_ofNat']; omega
def cpL (o n k : Nat) : List UInt8 := UInt8.ofNat (128 + flags o n k) :: copyL o n k
theorem cpL_no {o n k : Nat} (h : takes o n k = false) : cpL o n k = cpL o n (k + 1) := by
  show UInt8.ofNat (128 + flags o n k) :: copyL o n k = UInt8.ofNat (128 + (flags o n k + if takes o n k then 2 ^ k else 0)) :: (copyL o n k ++ if takes o n k then [UInt8.ofNat (cx o n k)] else [])
  rw [h]; simp
theorem cpL_yes {o n k : Nat} (h : takes o n k = true) : (UInt8.ofNat (128 + flags o n k + 2 ^ k) :: copyL o n k) ++ [UInt8.ofNat (cx o n k)] = cpL o n (k + 1) := by
  unfold cpL; rw [flags, copyL, h, if_pos rfl, if_pos rfl, Nat.add_assoc]; rfl
theorem cpL_len (o n k : Nat) : (cpL o n k).length ≤ k + 1 ∧ 0 < (cpL o n k).length := by have := copyL_len o n k; simp [cpL]; omega
theorem cpL_set {o n k : Nat} {cur : List Value} {x : Value} (h : cur.take ((cpL o n k).length * 1) = (cpL o n k).map u8v) (hx : x = u8v (UInt8.ofNat (128 + flags o n k + 2 ^ k))) : (cur.set 0 x).take ((UInt8.ofNat (128 + flags o n k + 2 ^ k) :: copyL o n k).length * 1) = (UInt8.ofNat (128 + flags o n k + 2 ^ k) :: copyL o n k).map u8v := by
  subst hx
  cases cur with
  | nil => simp [cpL] at h
  | cons c cur => simp [cpL] at h ⊢; exact h.2
theorem takes_yes {o n k : Nat} (h1 : cx o n k ≠ 0) (h2 : ¬ (k = 6 ∧ n = 65536)) : takes o n k = true := by
  unfold takes; rw [decide_eq_true h1]
  by_cases h : k = 6
  · rw [decide_eq_false (p := n = 65536) (fun e => h2 ⟨h, e⟩)]; simp
  · rw [decide_eq_false h]; simp
theorem takes_no {o n k : Nat} (h : cx o n k = 0 ∨ (k = 6 ∧ n = 65536)) : takes o n k = false := by
  unfold takes
  rcases h with h | ⟨h1, h2⟩
  · rw [h]; simp
  · rw [decide_eq_true h1, decide_eq_true h2]; simp
/-- plain bytes, in pieces -/
def plain (p : List UInt8) : List UInt8 := if h : p = [] then [] else UInt8.ofNat (min p.length 127) :: (p.take (min p.length 127) ++ plain (p.drop (min p.length 127)))
termination_by p.length
decreasing_by have := List.length_pos_iff.2 h; simp; omega
theorem plain_len (p : List UInt8) : (plain p).length ≤ 2 * p.length := by
  induction p using plain.induct with
  | case1 => simp [plain]
  | case2 p h ih =>
    have := List.length_pos_iff.2 h
    rw [plain, dif_neg h]; simp only [List.length_cons, List.length_append, List.length_take, List.length_drop] at ih ⊢; omega
def key (s : List UInt8) (i : Nat) : List UInt8 := (s.take (i + 4)).drop i
abbrev Seen := List UInt8 → Option Nat
def note (s : List UInt8) (i : Nat) (seen : Seen) : Seen := if seen (key s i) = none then fun k => if k = key s i then some i else seen k else seen
/-- where four bytes stand first -/
def firsts (s : List UInt8) : Nat → Seen
  | 0 => fun _ => none
  | k + 1 => note s k (firsts s k)
def ml (s t : List UInt8) (o i : Nat) : Nat → Nat → Nat
  | 0, n => n
  | f + 1, n => if o + n < s.length ∧ i + n < t.length ∧ s.getD (o + n) 0 = t.getD (i + n) 0 then ml s t o i f (n + 1) else n
def find (s t : List UInt8) (i : Nat) (seen : Seen) : Nat × Nat := if i + 4 ≤ t.length then match seen (key t i) with | some o => (o, ml s t o i 65536 0) | none => (0, 0) else (0, 0)
def go (s t : List UInt8) (seen : Seen) : Nat → Nat → List UInt8 → List UInt8 → List UInt8
  | 0, _, p, out => out ++ plain p
  | f + 1, i, p, out => if t.length ≤ i then out ++ plain p else
    if (find s t i seen).2 < 4 then go s t seen f (i + 1) (p ++ [t.getD i 0]) out
    else go s t seen f (i + (find s t i seen).2) [] (out ++ plain p ++ copyOf (find s t i seen).1 (find s t i seen).2)
def head (s t : List UInt8) : List UInt8 := sized s.length ++ sized t.length
def long (s t : List UInt8) : List UInt8 := go s t (firsts s (s.length - 3)) t.length 0 [] (head s t)
def make (s t : List UInt8) : List UInt8 := if (head s t ++ plain t).length < (long s t).length then head s t ++ plain t else long s t
theorem ml_le (s t : List UInt8) (o i : Nat) : ∀ (f n : Nat), n ≤ ml s t o i f n ∧ ml s t o i f n ≤ n + f ∧ (ml s t o i f n ≤ n ∨ (o + ml s t o i f n ≤ s.length ∧ i + ml s t o i f n ≤ t.length))
  | 0, n => by simp [ml]
  | f + 1, n => by
    unfold ml
    split
    · have := ml_le s t o i f (n + 1); omega
    · omega
def SeenOk (s : List UInt8) (seen : Seen) : Prop := ∀ k a, seen k = some a → a + 4 ≤ s.length
theorem note_ok {s : List UInt8} {i : Nat} {seen : Seen} (h : SeenOk s seen) (hi : i + 4 ≤ s.length) : SeenOk s (note s i seen) := by
  intro k a hk
  unfold note at hk
  split at hk
  · simp only at hk
    split at hk
    · simp only [Option.some.injEq] at hk; omega
    · exact h k a hk
  · exact h k a hk
theorem firsts_ok (s : List UInt8) (k : Nat) (h : k ≤ s.length - 3) : SeenOk s (firsts s k) := by
  induction k with
  | zero => intro k a h; cases h
  | succ k ih => exact note_ok (ih (by omega)) (by omega)
theorem find_le {s t : List UInt8} {i : Nat} {seen : Seen} (h : SeenOk s seen) : 4 ≤ (find s t i seen).2 → i + (find s t i seen).2 ≤ t.length ∧ (find s t i seen).1 + (find s t i seen).2 ≤ s.length := by
  unfold find
  split
  · split
    · rename_i o ho
      have := ml_le s t o i 65536 0
      have := h _ _ ho
      simp only; omega
    · simp
  · simp
theorem find_no {s t : List UInt8} {i : Nat} {seen : Seen} (h : t.length < i + 4) : find s t i seen = (0, 0) := if_neg (by omega)
theorem find_none {s t : List UInt8} {i : Nat} {seen : Seen} (h : i + 4 ≤ t.length) (hs : seen ((t.take (i + 4)).drop i) = none) : find s t i seen = (0, 0) := by unfold find key; rw [if_pos h, hs]
theorem find_some {s t : List UInt8} {i o : Nat} {seen : Seen} (h : i + 4 ≤ t.length) (hs : seen ((t.take (i + 4)).drop i) = some o) : find s t i seen = (o, ml s t o i 65536 0) := by unfold find key; rw [if_pos h, hs]
theorem note_upd {s : List UInt8} {i : Nat} {seen : Seen} (h : seen ((s.take (i + 4)).drop i) = none) : upd (fun k => (seen k).map iv) ((s.take (i + 4)).drop i) (.int .i64 (i : Int)) = fun k => (note s i seen k).map iv := by
  funext k
  unfold upd note key
  rw [if_pos h]
  split <;> rfl
theorem note_same {s : List UInt8} {i a : Nat} {seen : Seen} (h : seen ((s.take (i + 4)).drop i) = some a) : note s i seen = seen := by unfold note key; rw [h]; rfl
theorem go_len (s t : List UInt8) (seen : Seen) (hs : SeenOk s seen) : ∀ (f i : Nat) (p out : List UInt8), i ≤ t.length → out.length + 2 * p.length ≤ 20 + 9 * i → (go s t seen f i p out).length ≤ 20 + 9 * t.length
  | 0, i, p, out, hi, h => by have := plain_len p; unfold go; rw [List.length_append]; omega
  | f + 1, i, p, out, hi, h => by
    have hp := plain_len p
    have hf := find_le (t := t) (i := i) hs
    have hc := copyOf_len (find s t i seen).1 (find s t i seen).2
    unfold go
    split
    · rw [List.length_append]; omega
    · split
      · exact go_len s t seen hs f _ _ _ (by omega) (by simp; omega)
      · exact go_len s t seen hs f _ _ _ (by omega) (by simp; omega)
theorem sized_le (n : Nat) (h : n ≤ 1000000) : (sized n).length ≤ 3 := sized_len n 2 (by omega)
theorem long_len (s t : List UInt8) (hs : s.length ≤ 1000000) (ht : t.length ≤ 1000000) : (long s t).length ≤ 20 + 9 * t.length := by
  have h1 := sized_le s.length hs
  have h2 := sized_le t.length ht
  exact go_len s t _ (firsts_ok s _ (Nat.le_refl _)) _ _ _ _ (by omega) (by simp [head]; omega)
end Dlt
end Go.Eng
/-
  Plain: packs (pack), no program in sight.
-/
set_option linter.unusedVariables false
namespace Go.Eng
namespace Pk
inductive Res (α : Type) where
  | err (e : Nat)
  | ok (a : α)
theorem or_shl {n m sh : Nat} (hn : n < 2 ^ sh) (hm : m < 128) (hs : sh ≤ 25) : bits .or .i64 (n : Int) (IntKind.i64.wrap ((m : Int) * 2 ^ min (sh : Int).toNat IntKind.i64.bits)) = ((n + m * 2 ^ sh : Nat) : Int) := by
  have h1 : 2 ^ sh ≤ 2 ^ 25 := Nat.pow_le_pow_right (by omega) hs
  have h2 : m * 2 ^ sh ≤ 127 * 2 ^ 25 := Nat.mul_le_mul (by omega) h1
  rw [shl_lim (k := .i64) (by simp [IntKind.bits]; omega) (by simp only [lim, IntKind.signed, IntKind.bits]; omega)]
  rw [bits_or_lim (by simp only [lim, IntKind.signed, IntKind.bits]; omega) (by simp only [lim, IntKind.signed, IntKind.bits]; omega)]
  rw [Nat.or_comm, Nat.mul_comm m, ← Nat.two_pow_add_eq_or_of_lt hn, Nat.add_comm]
def headGo (s : List UInt8) : Nat → Nat → Nat → Nat → Nat → Res (Nat × Nat)
  | 0, _, _, _, _ => .err 99
  | f + 1, c, n, sh, a => if c < 128 then .ok (n, a) else match s[a]? with
    | none => .err 6
    | some d => if 25 < sh then .err 3 else headGo s f d.toNat (n + d.toNat % 128 * 2 ^ sh) (sh + 7) (a + 1)
/-- kind, size, the next place -/
def head (s : List UInt8) (a : Nat) : Res (Nat × Nat × Nat) := match s[a]? with
  | none => .err 6
  | some c => match headGo s (s.length + 1) c.toNat (c.toNat % 16) 4 (a + 1) with
    | .err e => .err e
    | .ok p => .ok (c.toNat / 16 % 8, p.1, p.2)
def backGo (s : List UInt8) : Nat → Nat → Nat → Nat → Res (Nat × Nat)
  | 0, _, _, _ => .err 99
  | f + 1, c, n, a => if c < 128 then .ok (n, a) else if 16777216 < n then .err 3 else match s[a]? with
    | none => .err 6
    | some d => backGo s f d.toNat ((n + 1) * 128 + d.toNat % 128) (a + 1)
def back (s : List UInt8) (a : Nat) : Res (Nat × Nat) := match s[a]? with
  | none => .err 6
  | some c => backGo s (s.length + 1) c.toNat (c.toNat % 128) (a + 1)
structure Ent where
  at_ : Int
  nx : Int
  kind : Int
  data : List UInt8
  base : Int
  id : List UInt8
  crc : Int
def Ent.cells (x : Ent) : List Value := [.int .i64 x.at_, .int .i64 x.nx, .int .i64 x.kind, str x.data, .int .i64 x.base, str x.id, .int .u32 x.crc]
def Ent.zero : Ent := ⟨0, 0, 0, [], 0, [], 0⟩
/-- what stands between head and data: base, name, the next place -/
def refs (b : List UInt8) (a k a1 : Nat) : Res (Nat × List UInt8 × Nat) :=
  if k = 1 ∨ k = 2 ∨ k = 3 ∨ k = 4 then .ok (0, [], a1)
  else if k = 6 then match back b a1 with
    | .err e => .err e
    | .ok p => if p.1 < 1 ∨ a - 12 < p.1 then .err 3 else .ok (a - p.1, [], p.2)
  else if k = 7 then (if b.length < a1 + 20 then .err 6 else .ok (0, Sums.hex ((b.take (a1 + 20)).drop a1), a1 + 20))
  else .err 10
theorem headGo_at (s : List UInt8) : ∀ (f c n sh a : Nat) (p : Nat × Nat), a ≤ s.length → headGo s f c n sh a = .ok p → a ≤ p.2 ∧ p.2 ≤ s.length
  | 0, _, _, _, _, _, _, h => by cases h
  | f + 1, c, n, sh, a, p, ha, h => by
    unfold headGo at h
    split at h
    · cases h; exact ⟨Nat.le_refl _, ha⟩
    · split at h
      · cases h
      · rename_i d hd
        have hlt := (List.getElem?_eq_some_iff.1 hd).1
        split at h
        · cases h
        · have := headGo_at s f _ _ _ _ _ (by omega) h; omega
theorem head_at {s : List UInt8} {a : Nat} {p : Nat × Nat × Nat} (h : head s a = .ok p) : a < p.2.2 ∧ p.2.2 ≤ s.length := by
  unfold head at h
  split at h
  · cases h
  · rename_i c hc
    have hlt := (List.getElem?_eq_some_iff.1 hc).1
    split at h
    · cases h
    · rename_i q hq
      cases h
      have := headGo_at s _ _ _ _ _ _ (by omega) hq
      simp only; omega
theorem backGo_at (s : List UInt8) : ∀ (f c n a : Nat) (p : Nat × Nat), a ≤ s.length → backGo s f c n a = .ok p → a ≤ p.2 ∧ p.2 ≤ s.length
  | 0, _, _, _, _, _, h => by cases h
  | f + 1, c, n, a, p, ha, h => by
    unfold backGo at h
    split at h
    · cases h; exact ⟨Nat.le_refl _, ha⟩
    · split at h
      · cases h
      · split at h
        · cases h
        · rename_i d hd
          have hlt := (List.getElem?_eq_some_iff.1 hd).1
          have := backGo_at s f _ _ _ _ (by omega) h; omega
theorem back_at {s : List UInt8} {a : Nat} {p : Nat × Nat} (h : back s a = .ok p) : a < p.2 ∧ p.2 ≤ s.length := by
  unfold back at h
  split at h
  · cases h
  · rename_i c hc
    have hlt := (List.getElem?_eq_some_iff.1 hc).1
    have := backGo_at s _ _ _ _ _ (by omega) h
    omega
theorem refs_at {b : List UInt8} {a k a1 : Nat} {p : Nat × List UInt8 × Nat} (ha : a1 ≤ b.length) (h : refs b a k a1 = .ok p) : a1 ≤ p.2.2 ∧ p.2.2 ≤ b.length := by
  unfold refs at h
  split at h
  · cases h; exact ⟨Nat.le_refl _, ha⟩
  · split at h
    · split at h
      · cases h
      · rename_i q hq
        have := back_at hq
        split at h
        · cases h
        · cases h; simp only; omega
    · split at h
      · split at h
        · cases h
        · cases h; simp only; omega
      · cases h
end Pk
end Go.Eng
/-
  The reader and the writer of bits (bitin): each function's contract.
-/
set_option linter.unusedVariables false
set_option linter.unusedSimpArgs false
namespace Go.Eng
open Go.Proofs
theorem mixed : Tryz.prog.follows .mixedOrders = true := by kernel_rfl
theorem ag_3_F1 : aggB Tryz.prog 3 = some false := by kernel_rfl
theorem ag_58_F1 : aggB Tryz.prog 58 = some false := by kernel_rfl
theorem ag_9_F1 : aggB Tryz.prog 9 = some false := by kernel_rfl
theorem bd_119_F1 : bodied Tryz.prog 119 = true := by kernel_rfl
theorem bd_120_F1 : bodied Tryz.prog 120 = true := by kernel_rfl
theorem bd_128_F1 : bodied Tryz.prog 128 = true := by kernel_rfl
theorem bd_129_F1 : bodied Tryz.prog 129 = true := by kernel_rfl
theorem bu_150_0_1_4_F1 : ∀ (x0 : List UInt8) (x1 : Int) (x4 : Int) (w : World), (Instr.build 150 [(0, str x0), (1, .int .i64 x1), (4, .int .i64 x4)].toArray).run Tryz.prog w = .ok (.agg [str x0, .int .i64 x1, .int .u64 0, .int .i64 0, .int .i64 x4].toArray) w := fun _ _ _ _ => by kernel_rfl
theorem fo_150_0_F1 : fieldOff Tryz.prog 150 0 = some 0 := by kernel_rfl
theorem fo_150_1_F1 : fieldOff Tryz.prog 150 1 = some 1 := by kernel_rfl
theorem fo_150_2_F1 : fieldOff Tryz.prog 150 2 = some 2 := by kernel_rfl
theorem fo_150_3_F1 : fieldOff Tryz.prog 150 3 = some 3 := by kernel_rfl
theorem fo_150_4_F1 : fieldOff Tryz.prog 150 4 = some 4 := by kernel_rfl
theorem ik_28_F1 : intK Tryz.prog 28 = some .u32 := by kernel_rfl
theorem ik_58_F1 : intK Tryz.prog 58 = some .u64 := by kernel_rfl
theorem is_58_F1 : (Tryz.prog.underlying 58).isSome = true := by kernel_rfl
theorem is_5_F1 : (Tryz.prog.underlying 5).isSome = true := by kernel_rfl
theorem sz_3_F1 : sizeB Tryz.prog 3 = some 1 := by kernel_rfl
theorem sz_58_F1 : sizeB Tryz.prog 58 = some 1 := by kernel_rfl
theorem us_9_F1 : Tryz.prog.underlying 9 = some .string := by kernel_rfl

def RdAt (b : Nat) (r : RD) : HP := cel b 150 [str r.s, .int .i64 r.pos, .int .u64 r.hold, .int .i64 r.hav, .int .i64 r.frm]

set_option maxRecDepth 100000 in
set_option maxHeartbeats 1000000 in
theorem fill_spec (b : Nat) (r : RD) (n : Nat) (hr : r.Ok) (hn : n ≤ 32) : Spec Tryz.prog 128 #[.pointer (some ⟨b, 0, none⟩), .int .i64 n] [RdAt b r] (Ret fun v hl => v = .tuple #[] ∧ hl = [RdAt b (r.fill n)]) := by
 refine Spec.enter Tryz.func128 rfl rfl rfl (fun F w0 => ?_)
 dsimp only [argL, List.cons_append, List.nil_append]
 refine CG.block (CG.loopI (fun m L H => ∃ q : RD, q.Ok ∧ q.fill n = r.fill n ∧ m = q.s.length - q.pos ∧ L = [(0, .pointer (some ⟨b, 0, none⟩)), (1, .int .i64 n)] ∧ H = [RdAt b q] ++ F) (r.s.length - r.pos) (hl := [_]) (⟨r, hr, rfl, rfl, rfl, rfl⟩) sB rfl tK sF ?_)
 rintro m L H ⟨q, hq, hfill, rfl, rfl, rfl⟩
 unfold RdAt
 dsimp only [List.cons_append, List.nil_append]
 have hq1 := hq.pos
 have hq2 := hq.hav
 have hq3 := hq.len
 refine CG.seq (CG.seq ?_)
 refine CG.regT [] mixed (by kernel_rfl) ?_
 refine G.mv ?_
 refine G.np ?_
 refine G.q rfl rfl rfl rfl (q_field0 rfl rfl fo_150_3_F1) (G.ld ag_3_F1 ?_)
 refine G.mv ?_
 refine G.q rfl rfl rfl rfl (q_lss rfl rfl rfl) (G.mv ?_)
 refine G.split (t := 10) rfl (fun g10 => ?_) (fun g10 => ?_)
 ·
  refine G.mv ?_
  refine G.np ?_
  refine G.q rfl rfl rfl rfl (q_field0 rfl rfl fo_150_1_F1) (G.ld ag_3_F1 ?_)
  refine G.mv ?_
  refine G.np ?_
  refine G.q rfl rfl rfl rfl (q_field0 rfl rfl fo_150_0_F1) (G.ld ag_9_F1 ?_)
  refine G.q rfl rfl rfl rfl (q_len_str rfl rfl us_9_F1) (G.q rfl rfl rfl rfl (q_lss rfl rfl rfl) (G.q rfl rfl rfl rfl (q_pick_t rfl rfl rfl) (G.nil (EN.sub (sC 0 (sC 1 (sC 21 Sub.nil))) ?_))))
  refine EN.then ?_
  refine CG.cond rfl (fun h21 => ?_) (fun h21 => ?_)
  ·
   refine CG.skip (EN.then (CG.block (CG.seq ?_)))
   obtain ⟨c, hc⟩ : ∃ c, q.s[q.pos]? = some c := ⟨_, List.getElem?_eq_getElem oM⟩
   have hs : q.step = { q with hold := q.hold ||| (c.toNat <<< q.hav), pos := q.pos + 1, hav := q.hav + 8 } := by unfold RD.step; rw [hc]
   have hq' := hq.step oM oM
   rw [hs] at hq'
   have hfill' : RD.fill { q with hold := q.hold ||| (c.toNat <<< q.hav), pos := q.pos + 1, hav := q.hav + 8 } n = q.fill n := by rw [RD.fill.eq_1 q n, dif_pos oM, hs]
   have hc8 := c.toNat_lt
   have e : bits .or .u64 (q.hold : Int) (IntKind.u64.wrap ((c.toNat : Int) * 2 ^ min ((q.hav : Nat) : Int).toNat IntKind.u64.bits)) = ((q.hold ||| (c.toNat <<< q.hav) : Nat) : Int) := by
     have h1 := RD.shl_lt (c := c.toNat) (h := q.hav) oM oM
     rw [shl_nat rfl rfl (n := 64) oM h1, bits_or_nat (n := 64) rfl rfl]
     · exact Nat.lt_of_lt_of_le hq.hold (Nat.pow_le_pow_right oM oM)
     · rw [Nat.shiftLeft_eq]; exact h1
   refine CG.regT [35] mixed (by kernel_rfl) ?_
   refine G.mv ?_
   refine G.np ?_
   refine G.q rfl rfl rfl rfl (q_field0 rfl rfl fo_150_2_F1) (G.ld ag_58_F1 ?_)
   refine G.mv ?_
   refine G.np ?_
   refine G.q rfl rfl rfl rfl (q_field0 rfl rfl fo_150_0_F1) (G.ld ag_9_F1 ?_)
   refine G.mv ?_
   refine G.np ?_
   refine G.q rfl rfl rfl rfl (q_field0 rfl rfl fo_150_1_F1) (G.ld ag_3_F1 ?_)
   refine G.q rfl rfl rfl rfl (q_index rfl rfl rfl us_9_F1 (hc)) (G.q rfl rfl rfl rfl (q_conv_in rfl rfl is_5_F1 ik_58_F1 (wrapu_in (b := 64) rfl rfl oM)) (G.mv ?_))
   refine G.np ?_
   refine G.q rfl rfl rfl rfl (q_field0 rfl rfl fo_150_3_F1) (G.ld ag_3_F1 ?_)
   refine G.q rfl rfl rfl rfl (q_shl rfl rfl rfl oM) (G.q rfl rfl rfl rfl (q_or rfl rfl rfl) (G.np ?_))
   refine G.q rfl rfl rfl rfl (q_field0 rfl rfl fo_150_2_F1) ?_
   refine G.st0 sz_58_F1 ?_
   refine G.nil (EN.sub (sC 0 (sC 1 Sub.nil)) ?_)
   refine EN.tsr (G.mv ?_)
   refine G.np ?_
   refine G.q rfl rfl rfl rfl (q_field0 rfl rfl fo_150_1_F1) (G.ld ag_3_F1 ?_)
   refine G.q rfl rfl rfl rfl (q_add_i rfl rfl rfl oM) (G.np ?_)
   refine G.q rfl rfl rfl rfl (q_field0 rfl rfl fo_150_1_F1) ?_
   refine G.st0 sz_3_F1 ?_
   refine G.nil (EN.tr ?_)
   refine G.mv ?_
   refine G.np ?_
   refine G.q rfl rfl rfl rfl (q_field0 rfl rfl fo_150_3_F1) (G.ld ag_3_F1 ?_)
   refine G.q rfl rfl rfl rfl (q_add_i rfl rfl rfl oM) (G.np ?_)
   refine G.q rfl rfl rfl rfl (q_field0 rfl rfl fo_150_3_F1) ?_
   refine G.st0 sz_3_F1 ?_
   refine G.nil (EN.sub (sC 0 (sC 1 Sub.nil)) ?_)
   refine EN.in_normal ?_
   rw [e]
   exact EN.round (hl := [_]) (q.s.length - (q.pos + 1)) oM (⟨{ q with hold := q.hold ||| (c.toNat <<< q.hav), pos := q.pos + 1, hav := q.hav + 8 }, hq', by rw [hfill', ← hfill], rfl, rfl, rfl⟩) sB rfl tK sF
  ·
   refine CG.exit ?_
   refine EN.then_exit (EN.then_exit (EN.in_here ?_))
   rw [← hfill, RD.fill, dif_neg oM]
   exact fin_ret0 rfl tK sF (⟨rfl, rfl⟩) _ (.inr rfl)
 ·
  refine G.skip rfl rfl rfl (G.skip rfl rfl rfl (G.skip rfl rfl rfl (G.skip rfl rfl rfl (G.skip rfl rfl rfl (G.skip rfl rfl rfl ?_)))))
  refine G.skip rfl rfl rfl (G.skip rfl rfl rfl (G.skip rfl rfl rfl (G.skip rfl rfl rfl (G.q rfl rfl rfl rfl (q_pick_f rfl rfl rfl) (G.nil ?_)))))
  refine EN.sub (sC 0 (sC 1 (sC 21 Sub.nil))) ?_
  refine EN.then (CG.cond_f rfl ?_)
  refine CG.exit ?_
  refine EN.then_exit (EN.then_exit (EN.in_here ?_))
  rw [← hfill, RD.fill, dif_neg oM]
  exact fin_ret0 rfl tK sF (⟨rfl, rfl⟩) _ (.inr rfl)

set_option maxRecDepth 100000 in
set_option maxHeartbeats 1000000 in
theorem peek_spec (b : Nat) (r : RD) (n : Nat) (hr : r.Ok) (hn : n ≤ 32) : Spec Tryz.prog 119 #[.pointer (some ⟨b, 0, none⟩), .int .i64 n] [RdAt b r] (Ret fun v hl => (∃ m, v = .tuple #[.int .u32 ((r.fill n).hold % 2 ^ n : Nat), m]) ∧ hl = [RdAt b (r.fill n)]) := by
 refine Spec.enter Tryz.func119 rfl rfl rfl (fun F w0 => ?_)
 dsimp only [argL, List.cons_append, List.nil_append]
 refine CG.sr (G.as ?_)
 refine G.as ?_
 refine G.nil (EN.ts (CG.sr (G.mv ?_)))
 refine G.q rfl rfl rfl rfl (q_lss rfl rfl rfl) (G.mv ?_)
 refine G.split (t := 8) rfl (fun g8 => absurd g8 oM) (fun g8 => ?_)
 refine G.mv ?_
 refine G.q rfl rfl rfl rfl (q_gtr rfl rfl rfl) (G.q rfl rfl rfl rfl (q_pick_f rfl rfl rfl) (G.nil (EN.then ?_)))
 refine CG.cond rfl (fun h11 => absurd h11 oM) (fun h11 => ?_)
 refine CG.skip (EN.tsr (G.mv ?_))
 refine G.mv ?_
 refine G.call (xs := [_, _]) rfl rfl (fill_spec b r n hr hn) bd_128_F1 rfl rfl rfl rfl tK (fun _ _ _ _ _ _ => trivial) ?_
 rintro _ _ ⟨rfl, rfl⟩
 try dsimp only [List.cons_append, List.nil_append]
 refine G.nil (EN.sub (sC 0 (sC 1 (sC 4 (sC 5 Sub.nil)))) ?_)
 refine EN.ts ?_
 have e := RD.peek_val (n := n) (hold := (r.fill n).hold) hn (Nat.lt_of_lt_of_le (RD.fill_ok n hn r hr).hold (Nat.pow_le_pow_right oM (by have := (RD.fill_ok n hn r hr).hav; omega)))
 unfold RdAt
 refine CG.regT [23] mixed (by kernel_rfl) ?_
 refine G.mv ?_
 refine G.np ?_
 refine G.q rfl rfl rfl rfl (q_field0 rfl rfl fo_150_2_F1) (G.ld ag_58_F1 ?_)
 refine G.mv ?_
 refine G.q rfl rfl rfl rfl (q_shl rfl rfl rfl oM) (G.q rfl rfl rfl rfl (q_sub rfl rfl rfl) (G.q rfl rfl rfl rfl (q_and rfl rfl rfl) (G.q rfl rfl rfl rfl (q_conv rfl rfl is_58_F1 ik_28_F1) (G.mv ?_))))
 refine G.mv ?_
 refine G.np ?_
 refine G.q rfl rfl rfl rfl (q_field0 rfl rfl fo_150_3_F1) (G.ld ag_3_F1 ?_)
 refine G.q rfl rfl rfl rfl (q_min rfl rfl rfl) (G.as ?_)
 refine G.as ?_
 refine G.nil (EN.sub (sC 4 (sC 5 Sub.nil)) ?_)
 refine EN.then (CG.ret ?_)
 rw [e]
 exact fin_ret2 rfl rfl rfl tK sF (⟨⟨_, rfl⟩, rfl⟩) _ (.inl rfl)

set_option maxRecDepth 100000 in
set_option maxHeartbeats 1000000 in
theorem skip_spec (b : Nat) (r : RD) (n : Nat) (hr : r.Ok) (hn : n ≤ 32) : Spec Tryz.prog 120 #[.pointer (some ⟨b, 0, none⟩), .int .i64 n] [RdAt b r] (Ret fun v hl => v = .bool (decide (n ≤ (r.fill n).hav)) ∧ hl = [RdAt b (if (r.fill n).hav < n then r.fill n else (r.fill n).took n)]) := by
 refine Spec.enter Tryz.func120 rfl rfl rfl (fun F w0 => ?_)
 dsimp only [argL, List.cons_append, List.nil_append]
 refine CG.sr (G.as ?_)
 refine G.nil (EN.ts (CG.sr (G.mv ?_)))
 refine G.q rfl rfl rfl rfl (q_lss rfl rfl rfl) (G.mv ?_)
 refine G.split (t := 7) rfl (fun g7 => absurd g7 oM) (fun g7 => ?_)
 refine G.mv ?_
 refine G.q rfl rfl rfl rfl (q_gtr rfl rfl rfl) (G.q rfl rfl rfl rfl (q_pick_f rfl rfl rfl) (G.nil (EN.then ?_)))
 refine CG.cond rfl (fun h10 => absurd h10 oM) (fun h10 => ?_)
 refine CG.skip (EN.tsr (G.mv ?_))
 refine G.mv ?_
 refine G.call (xs := [_, _]) rfl rfl (fill_spec b r n hr hn) bd_128_F1 rfl rfl rfl rfl tK (fun _ _ _ _ _ _ => trivial) ?_
 rintro _ _ ⟨rfl, rfl⟩
 try dsimp only [List.cons_append, List.nil_append]
 refine G.nil (EN.sub (sC 0 (sC 1 (sC 4 Sub.nil))) ?_)
 refine EN.ts (CG.seq ?_)
 have hk := (RD.fill_ok n hn r hr).hav
 unfold RdAt
 refine CG.reg (G.mv ?_)
 refine G.np ?_
 refine G.q rfl rfl rfl rfl (q_field0 rfl rfl fo_150_3_F1) (G.ld ag_3_F1 ?_)
 refine G.mv ?_
 refine G.q rfl rfl rfl rfl (q_lss rfl rfl rfl) (G.nil (EN.then ?_))
 refine CG.cond rfl (fun h19 => ?_) (fun h19 => ?_)
 ·
  rw [if_pos (by omega : (r.fill n).hav < n), decide_eq_false (by omega : ¬ n ≤ (r.fill n).hav)]
  refine CG.sr (G.as ?_)
  refine G.nil (EN.then (CG.ret (EN.then_ret ?_)))
  exact fin_ret1 rfl rfl tK sF (⟨rfl, rfl⟩) _ (.inl rfl)
 ·
  rw [if_neg (by omega : ¬ (r.fill n).hav < n), decide_eq_true (by omega : n ≤ (r.fill n).hav)]
  have e := shr_nat (k := .u64) (a := (r.fill n).hold) (c := n) (by simp [IntKind.bits]; omega)
  have e2 : (((r.fill n).hav : Int) - n) = (((r.fill n).hav - n : Nat) : Int) := by omega
  refine CG.skip (EN.tsr (G.mv ?_))
  refine G.np ?_
  refine G.q rfl rfl rfl rfl (q_field0 rfl rfl fo_150_2_F1) (G.ld ag_58_F1 ?_)
  refine G.mv ?_
  refine G.q rfl rfl rfl rfl (q_shr rfl rfl rfl oM) (G.np ?_)
  refine G.q rfl rfl rfl rfl (q_field0 rfl rfl fo_150_2_F1) ?_
  refine G.st0 sz_58_F1 ?_
  refine G.nil (EN.sub (sC 0 (sC 1 (sC 4 Sub.nil))) ?_)
  refine EN.ts ?_
  rw [e]
  refine CG.reg (G.mv ?_)
  refine G.np ?_
  refine G.q rfl rfl rfl rfl (q_field0 rfl rfl fo_150_3_F1) (G.ld ag_3_F1 ?_)
  refine G.mv ?_
  refine G.q rfl rfl rfl rfl (q_sub_i rfl rfl rfl oM) (G.np ?_)
  refine G.q rfl rfl rfl rfl (q_field0 rfl rfl fo_150_3_F1) ?_
  refine G.st0 sz_3_F1 ?_
  refine G.nil (EN.sub (sC 4 Sub.nil) ?_)
  refine EN.ts ?_
  rw [e2]
  refine CG.reg (G.as ?_)
  refine G.nil (EN.then (CG.ret ?_))
  exact fin_ret1 rfl rfl tK sF (⟨rfl, rfl⟩) _ (.inl rfl)

set_option maxRecDepth 100000 in
set_option maxHeartbeats 1000000 in
theorem rbits_spec (b : Nat) (r : RD) (n : Nat) (hr : r.Ok) (hn : n ≤ 32) : Spec Tryz.prog 103 #[.pointer (some ⟨b, 0, none⟩), .int .i64 n] [RdAt b r] (Ret fun v hl => v = .tuple #[.int .u32 (r.bits n).2.1, .bool (r.bits n).2.2] ∧ hl = [RdAt b (r.bits n).1]) := by
 refine Spec.enter Tryz.func103 rfl rfl rfl (fun F w0 => ?_)
 dsimp only [argL, List.cons_append, List.nil_append]
 refine CG.sr (G.as ?_)
 refine G.as ?_
 refine G.nil (EN.tsr (G.mv ?_))
 refine G.mv ?_
 refine G.call (xs := [_, _]) rfl rfl (peek_spec b r n hr hn) bd_119_F1 rfl rfl rfl rfl tK (fun _ _ _ _ _ _ => trivial) ?_
 rintro _ _ ⟨⟨m, rfl⟩, rfl⟩
 try dsimp only [List.cons_append, List.nil_append]
 refine G.mv ?_
 refine G.q rfl rfl rfl rfl (q_extract rfl rfl rfl) (G.q rfl rfl rfl rfl (q_extract rfl rfl rfl) (G.as ?_))
 refine G.as ?_
 refine G.nil (EN.ts (CG.sr (G.mv ?_)))
 refine G.mv ?_
 refine G.call (xs := [_, _]) rfl rfl (skip_spec b (r.fill n) n (RD.fill_ok n hn r hr) hn) bd_120_F1 rfl rfl rfl rfl tK (fun _ _ _ _ _ _ => trivial) ?_
 rintro _ _ ⟨rfl, rfl⟩
 try dsimp only [List.cons_append, List.nil_append]
 refine G.q rfl rfl rfl rfl (q_not rfl rfl) (G.nil (EN.sub (sC 4 (sC 5 (sC 6 (sC 17 Sub.nil)))) ?_))
 refine EN.then ?_
 refine CG.condB rfl (fun h17 => ?_) (fun h17 => ?_)
 ·
  have h : (r.fill n).hav < n := by rw [RD.fill_idem] at h17; simpa using h17
  rw [RD.fill_idem, if_pos h, show r.bits n = (r.fill n, 0, false) from if_pos h]
  refine CG.sr (G.as ?_)
  refine G.as ?_
  refine G.nil (EN.then (CG.ret (EN.then_ret ?_)))
  exact fin_ret2 rfl rfl rfl tK sF (⟨rfl, rfl⟩) _ (.inl rfl)
 ·
  have h : ¬ (r.fill n).hav < n := by rw [RD.fill_idem] at h17; simpa using h17
  rw [RD.fill_idem, if_neg h, show r.bits n = ((r.fill n).took n, (r.fill n).hold % 2 ^ n, true) from if_neg h]
  refine CG.skip (EN.tsr (G.mv ?_))
  refine G.as ?_
  refine G.as ?_
  refine G.nil (EN.then (CG.ret ?_))
  exact fin_ret2 rfl rfl rfl tK sF (⟨rfl, rfl⟩) _ (.inl rfl)

set_option maxRecDepth 100000 in
set_option maxHeartbeats 1000000 in
theorem ralign_spec (b : Nat) (r : RD) (hr : r.Ok) : Spec Tryz.prog 129 #[.pointer (some ⟨b, 0, none⟩)] [RdAt b r] (Ret fun v hl => v = .tuple #[] ∧ hl = [RdAt b r.align]) := by
 unfold RdAt
 have hr1 := hr.hav
 refine Spec.enter Tryz.func129 rfl rfl rfl (fun F w0 => ?_)
 dsimp only [argL, List.cons_append, List.nil_append]
 refine CG.sr (G.mv ?_)
 refine G.np ?_
 refine G.q rfl rfl rfl rfl (q_field0 rfl rfl fo_150_3_F1) (G.ld ag_3_F1 ?_)
 refine G.q rfl rfl rfl rfl (q_rem_n rfl rfl rfl oM) (G.as ?_)
 refine G.nil (EN.ts ?_)
 have e0 : ((r.hav : Int) % 8) = ((r.hav % 8 : Nat) : Int) := by omega
 rw [e0]
 have e := shr_nat (k := .u64) (a := r.hold) (c := r.hav % 8) (by simp [IntKind.bits]; omega)
 have e2 : ((r.hav : Int) - (r.hav % 8 : Nat)) = ((r.hav - r.hav % 8 : Nat) : Int) := by omega
 refine CG.reg (G.mv ?_)
 refine G.np ?_
 refine G.q rfl rfl rfl rfl (q_field0 rfl rfl fo_150_2_F1) (G.ld ag_58_F1 ?_)
 refine G.mv ?_
 refine G.q rfl rfl rfl rfl (q_shr rfl rfl rfl oM) (G.np ?_)
 refine G.q rfl rfl rfl rfl (q_field0 rfl rfl fo_150_2_F1) ?_
 refine G.st0 sz_58_F1 ?_
 refine G.nil (EN.sub (sC 0 (sC 2 Sub.nil)) ?_)
 refine EN.then ?_
 rw [e]
 refine CG.reg (G.mv ?_)
 refine G.np ?_
 refine G.q rfl rfl rfl rfl (q_field0 rfl rfl fo_150_3_F1) (G.ld ag_3_F1 ?_)
 refine G.mv ?_
 refine G.q rfl rfl rfl rfl (q_sub_i rfl rfl rfl oM) (G.np ?_)
 refine G.q rfl rfl rfl rfl (q_field0 rfl rfl fo_150_3_F1) ?_
 refine G.st0 sz_3_F1 ?_
 refine G.nil ?_
 refine EN.sub Sub.nil ?_
 rw [e2]
 exact fin_ret0 rfl tK sF (⟨rfl, rfl⟩) _ (.inr rfl)

set_option maxRecDepth 100000 in
set_option maxHeartbeats 1000000 in
theorem used_spec (b : Nat) (r : RD) (hr : r.Ok) : Spec Tryz.prog 78 #[.pointer (some ⟨b, 0, none⟩)] [RdAt b r] (Ret fun v hl => v = .int .i64 r.used ∧ hl = [RdAt b r]) := by
 unfold RdAt
 have hr1 := hr.begun
 have hr2 := hr.pos
 have hr3 := hr.len
 have e : ((r.pos : Int) - r.hav / 8 - r.frm) = (r.used : Int) := by unfold RD.used; omega
 refine Spec.enter Tryz.func78 rfl rfl rfl (fun F w0 => ?_)
 dsimp only [argL, List.cons_append, List.nil_append]
 refine CG.sr (G.as ?_)
 refine G.nil (EN.ts ?_)
 refine CG.regT [] mixed (by kernel_rfl) ?_
 refine G.mv ?_
 refine G.np ?_
 refine G.q rfl rfl rfl rfl (q_field0 rfl rfl fo_150_1_F1) (G.ld ag_3_F1 ?_)
 refine G.mv ?_
 refine G.np ?_
 refine G.q rfl rfl rfl rfl (q_field0 rfl rfl fo_150_3_F1) (G.ld ag_3_F1 ?_)
 refine G.q rfl rfl rfl rfl (q_quo_i rfl rfl rfl oM) (G.q rfl rfl rfl rfl (q_sub_i rfl rfl rfl oM) (G.mv ?_))
 refine G.np ?_
 refine G.q rfl rfl rfl rfl (q_field0 rfl rfl fo_150_4_F1) (G.ld ag_3_F1 ?_)
 refine G.q rfl rfl rfl rfl (q_sub_i rfl rfl rfl oM) (G.as ?_)
 refine G.nil (EN.sub (sC 2 Sub.nil) ?_)
 refine EN.then (CG.ret ?_)
 rw [e]
 exact fin_ret1 rfl rfl tK sF (⟨rfl, rfl⟩) _ (.inl rfl)

set_option maxRecDepth 100000 in
set_option maxHeartbeats 1000000 in
theorem left_spec (b : Nat) (r : RD) (hr : r.Ok) : Spec Tryz.prog 123 #[.pointer (some ⟨b, 0, none⟩)] [RdAt b r] (Ret fun v hl => v = .int .i64 r.left ∧ hl = [RdAt b r]) := by
 unfold RdAt
 have hr1 := hr.hav
 have hr2 := hr.pos
 have hr3 := hr.len
 have e : (8 * ((r.s.length : Int) - r.pos) + r.hav) = (r.left : Int) := by unfold RD.left; omega
 refine Spec.enter Tryz.func123 rfl rfl rfl (fun F w0 => ?_)
 dsimp only [argL, List.cons_append, List.nil_append]
 refine CG.sr (G.as ?_)
 refine G.nil (EN.ts ?_)
 refine CG.regT [] mixed (by kernel_rfl) ?_
 refine G.mv ?_
 refine G.np ?_
 refine G.q rfl rfl rfl rfl (q_field0 rfl rfl fo_150_0_F1) (G.ld ag_9_F1 ?_)
 refine G.q rfl rfl rfl rfl (q_len_str rfl rfl us_9_F1) (G.mv ?_)
 refine G.np ?_
 refine G.q rfl rfl rfl rfl (q_field0 rfl rfl fo_150_1_F1) (G.ld ag_3_F1 ?_)
 refine G.q rfl rfl rfl rfl (q_sub_i rfl rfl rfl oM) (G.q rfl rfl rfl rfl (q_mul_i rfl rfl rfl oM) (G.mv ?_))
 refine G.np ?_
 refine G.q rfl rfl rfl rfl (q_field0 rfl rfl fo_150_3_F1) (G.ld ag_3_F1 ?_)
 refine G.q rfl rfl rfl rfl (q_add_i rfl rfl rfl oM) (G.as ?_)
 refine G.nil (EN.sub (sC 2 Sub.nil) ?_)
 refine EN.then (CG.ret ?_)
 rw [e]
 exact fin_ret1 rfl rfl tK sF (⟨rfl, rfl⟩) _ (.inl rfl)

set_option maxRecDepth 100000 in
set_option maxHeartbeats 1000000 in
theorem rnew_spec (s : List UInt8) (k : Nat) (hs : s.length ≤ 140737488351232) : Spec Tryz.prog 76 #[str s, .int .i64 k] [] (Ret fun v hl => ∃ b, v = .pointer (some ⟨b, 0, none⟩) ∧ hl = [RdAt b (RD.new s k)]) := by
 refine Spec.enter Tryz.func76 rfl rfl rfl (fun F w0 => ?_)
 dsimp only [argL, List.cons_append, List.nil_append]
 refine CG.sr (G.as ?_)
 refine G.nil (EN.tsr (G.mv ?_))
 refine G.mv ?_
 refine G.q rfl rfl rfl rfl (q_len_str rfl rfl us_9_F1) (G.q rfl rfl rfl rfl (q_min rfl rfl rfl) (G.q rfl rfl rfl rfl (q_max rfl rfl rfl) (G.as ?_)))
 refine G.nil (EN.ts ?_)
 have e : (if (0 : Int) < (if (s.length : Int) < k then (s.length : Int) else k) then (if (s.length : Int) < k then (s.length : Int) else k) else 0) = ((min k s.length : Nat) : Int) := by split <;> split <;> omega
 rw [e]
 refine CG.reg (G.mv ?_)
 refine G.mv ?_
 refine G.mv ?_
 refine G.q rfl rfl rfl rfl (q_build rfl rfl (bu_150_0_1_4_F1 _ _ _)) (G.e rfl rfl rfl rfl (e_box rfl rfl) (fun _ _ _ _ _ _ => trivial) ?_)
 rintro _ _ ⟨b14, rfl, rfl⟩
 refine G.as ?_
 refine G.nil (EN.sub (sC 4 Sub.nil) ?_)
 refine EN.then (CG.ret ?_)
 exact fin_ret1 rfl rfl tK sF (⟨b14, rfl, rfl⟩) _ (.inl rfl)

set_option maxRecDepth 100000 in
set_option maxHeartbeats 1000000 in
theorem rbytes_spec (b : Nat) (r : RD) (n : Nat) (hr : r.Ok) (hn : n ≤ 140737488351232) : Spec Tryz.prog 121 #[.pointer (some ⟨b, 0, none⟩), .int .i64 n] [RdAt b r] (Ret fun v hl => v = .tuple #[str (r.bytes n).2.1, .bool (r.bytes n).2.2] ∧ hl = [RdAt b (r.bytes n).1]) := by
 refine Spec.enter Tryz.func121 rfl rfl rfl (fun F w0 => ?_)
 dsimp only [argL, List.cons_append, List.nil_append]
 refine CG.sr (G.as ?_)
 refine G.as ?_
 refine G.nil (EN.tsr (G.mv ?_))
 refine G.call (xs := [_]) rfl rfl (ralign_spec b r hr) bd_129_F1 rfl rfl rfl rfl tK (fun _ _ _ _ _ _ => trivial) ?_
 rintro _ _ ⟨rfl, rfl⟩
 try dsimp only [List.cons_append, List.nil_append]
 refine G.nil (EN.ts ?_)
 have hf := RD.from_le hr
 have hr3 := hr.len
 have ha := RD.align_ok hr
 have ha1 := ha.begun
 have ha2 := ha.hav
 have ha3 := ha.pos
 have ha4 := ha.len
 have hls : r.align.s = r.s := rfl
 unfold RdAt
 refine CG.regT [] mixed (by kernel_rfl) ?_
 refine G.mv ?_
 refine G.np ?_
 refine G.q rfl rfl rfl rfl (q_field0 rfl rfl fo_150_1_F1) (G.ld ag_3_F1 ?_)
 refine G.mv ?_
 refine G.np ?_
 refine G.q rfl rfl rfl rfl (q_field0 rfl rfl fo_150_3_F1) (G.ld ag_3_F1 ?_)
 refine G.q rfl rfl rfl rfl (q_quo_i rfl rfl rfl oM) (G.q rfl rfl rfl rfl (q_sub_i rfl rfl rfl oM) (G.as ?_))
 refine G.nil (EN.sub (sC 0 (sC 1 (sC 4 (sC 5 (sC 6 Sub.nil))))) ?_)
 refine EN.ts (CG.seq ?_)
 have e : ((r.align.pos : Int) - r.align.hav / 8) = (r.from_ : Int) := by unfold RD.from_; omega
 rw [e, hls]
 refine CG.reg (G.mv ?_)
 refine G.q rfl rfl rfl rfl (q_lss rfl rfl rfl) (G.mv ?_)
 refine G.split (t := 21) rfl (fun g21 => absurd g21 oM) (fun g21 => ?_)
 refine G.mv ?_
 refine G.mv ?_
 refine G.np ?_
 refine G.q rfl rfl rfl rfl (q_field0 rfl rfl fo_150_0_F1) (G.ld ag_9_F1 ?_)
 refine G.q rfl rfl rfl rfl (q_len_str rfl rfl us_9_F1) (G.mv ?_)
 refine G.q rfl rfl rfl rfl (q_sub_i rfl rfl rfl oM) (G.q rfl rfl rfl rfl (q_gtr rfl rfl rfl) (G.q rfl rfl rfl rfl (q_pick_f rfl rfl rfl) (G.nil (EN.sub (sC 0 (sC 1 (sC 4 (sC 5 (sC 6 (sC 31 Sub.nil)))))) ?_))))
 refine EN.then ?_
 refine CG.cond rfl (fun h31 => ?_) (fun h31 => ?_)
 ·
  rw [show r.bytes n = (r.align, [], false) from if_pos oM]
  refine CG.sr (G.as ?_)
  refine G.as ?_
  refine G.nil (EN.then (CG.ret (EN.then_ret ?_)))
  exact fin_ret2 rfl rfl rfl tK sF (⟨rfl, rfl⟩) _ (.inl rfl)
 ·
  rw [show r.bytes n = ({ r.align with pos := r.from_ + n, hold := 0, hav := 0 }, (r.s.take (r.from_ + n)).drop r.from_, true) from if_neg oM]
  refine CG.skip (EN.tsr (G.mv ?_))
  refine G.mv ?_
  refine G.mv ?_
  refine G.mv ?_
  refine G.mv ?_
  refine G.q rfl rfl rfl rfl (q_add_i rfl rfl rfl oM) (G.np ?_)
  refine G.q rfl rfl rfl rfl (q_field0 rfl rfl fo_150_1_F1) ?_
  refine G.st0 sz_3_F1 ?_
  refine G.np ?_
  refine G.q rfl rfl rfl rfl (q_field0 rfl rfl fo_150_2_F1) ?_
  refine G.st0 sz_58_F1 ?_
  refine G.np ?_
  refine G.q rfl rfl rfl rfl (q_field0 rfl rfl fo_150_3_F1) ?_
  refine G.st0 sz_3_F1 ?_
  refine G.nil (EN.sub (sC 0 (sC 1 (sC 4 (sC 5 (sC 6 Sub.nil))))) ?_)
  refine EN.ts ?_
  have e3 : ((r.from_ : Int) + n) = ((r.from_ + n : Nat) : Int) := by omega
  rw [e3]
  refine CG.reg (G.mv ?_)
  refine G.np ?_
  refine G.q rfl rfl rfl rfl (q_field0 rfl rfl fo_150_0_F1) (G.ld ag_9_F1 ?_)
  refine G.mv ?_
  refine G.mv ?_
  refine G.mv ?_
  refine G.q rfl rfl rfl rfl (q_add_i rfl rfl rfl oM) ?_
  rw [e3]
  refine G.q rfl rfl rfl rfl (q_slice_lh rfl rfl rfl rfl us_9_F1 oM) (G.as ?_)
  refine G.as ?_
  refine G.nil (EN.sub (sC 4 (sC 5 Sub.nil)) ?_)
  refine EN.then (CG.ret ?_)
  exact fin_ret2 rfl rfl rfl tK sF (⟨rfl, rfl⟩) _ (.inl rfl)

end Go.Eng
/-
  The writer of bits (bitin): each function's contract.
-/
set_option linter.unusedVariables false
set_option linter.unusedSimpArgs false
namespace Go.Eng
open Go.Proofs
theorem ag_80_F2 : aggB Tryz.prog 80 = some false := by kernel_rfl
theorem bT_80_9_F2 : bytesT Tryz.prog 80 9 = some 5 := by kernel_rfl
theorem bd_126_F2 : bodied Tryz.prog 126 = true := by kernel_rfl
theorem bd_92_F2 : bodied Tryz.prog 92 = true := by kernel_rfl
theorem bs_80_1_all_F2 : ∀ (x0 : Int) (w : World), (Instr.buildSlice 80 1 [(0, .int .u8 x0)].toArray).run Tryz.prog w = .ok (.slice (some ⟨w.heap.size, 0, none⟩) 1 1) { w with heap := w.heap.push (.cells [.int .u8 x0].toArray 5) } := fun _ _ => by kernel_rfl
theorem fo_135_0_F2 : fieldOff Tryz.prog 135 0 = some 0 := by kernel_rfl
theorem fo_135_1_F2 : fieldOff Tryz.prog 135 1 = some 1 := by kernel_rfl
theorem fo_135_2_F2 : fieldOff Tryz.prog 135 2 = some 2 := by kernel_rfl
theorem ik_58_F2 : intK Tryz.prog 58 = some .u64 := by kernel_rfl
theorem ik_5_F2 : intK Tryz.prog 5 = some .u8 := by kernel_rfl
theorem is_28_F2 : (Tryz.prog.underlying 28).isSome = true := by kernel_rfl
theorem nf_5_F2 : infoB Tryz.prog 5 = some (some [.int .u8 0], 1, 1) := by kernel_rfl
theorem se_80_F2 : sliceE Tryz.prog 80 = some 5 := by kernel_rfl
theorem sz_80_F2 : sizeB Tryz.prog 80 = some 1 := by kernel_rfl

def WrP (b : Nat) (W : WR) (v : Value) : List HP := [cel b 135 [v, .int .u64 W.hold, .int .i64 W.hav], own 5 1 v W.out.length (W.out.map u8v)]
def WrAt (b : Nat) (W : WR) : HP := exS (WrP b W)

set_option maxRecDepth 100000 in
set_option maxHeartbeats 1000000 in
theorem wbits_spec (b : Nat) (W : WR) (x n : Nat) (hW : W.Ok) (hx : x < 2 ^ 32) (hn : n ≤ 32) (hlen : W.out.length ≤ 1000000000) : Spec Tryz.prog 92 #[.pointer (some ⟨b, 0, none⟩), .int .u32 x, .int .i64 n] [WrAt b W] (Ret fun v hl => v = .tuple #[] ∧ hl = [WrAt b (W.put x n)]) := by
 refine Spec.enter Tryz.func92 rfl rfl rfl (fun F w0 => ?_)
 dsimp only [argL, List.cons_append, List.nil_append]
 refine CG.seq (CG.sr (G.mv ?_))
 refine G.q rfl rfl rfl rfl (q_lss rfl rfl rfl) (G.mv ?_)
 refine G.split (t := 8) rfl (fun g8 => absurd g8 oM) (fun g8 => ?_)
 refine G.mv ?_
 refine G.q rfl rfl rfl rfl (q_gtr rfl rfl rfl) (G.q rfl rfl rfl rfl (q_pick_f rfl rfl rfl) (G.nil (EN.then ?_)))
 refine CG.cond rfl (fun h11 => absurd h11 oM) (fun h11 => ?_)
 refine CG.skip (EN.ts ?_)
 refine CG.openS (WrP b W) tK1 (fun v => ?_)
 unfold WrP
 dsimp only [List.cons_append, List.nil_append]
 have hW1 := hW.hav
 have hput := WR.put_len W x n
 refine CG.regT [17] mixed (by kernel_rfl) ?_
 refine G.mv ?_
 refine G.np ?_
 refine G.q rfl rfl rfl rfl (q_field0 rfl rfl fo_135_1_F2) (G.ld ag_58_F1 ?_)
 refine G.mv ?_
 refine G.q rfl rfl rfl rfl (q_conv_in rfl rfl is_28_F2 ik_58_F2 (wrapu_in (b := 64) rfl rfl oM)) (G.mv ?_)
 refine G.q rfl rfl rfl rfl (q_shl rfl rfl rfl oM) (G.q rfl rfl rfl rfl (q_sub rfl rfl rfl) (G.q rfl rfl rfl rfl (q_and rfl rfl rfl) (G.mv ?_)))
 refine G.np ?_
 refine G.q rfl rfl rfl rfl (q_field0 rfl rfl fo_135_2_F2) (G.ld ag_3_F1 ?_)
 refine G.q rfl rfl rfl rfl (q_shl rfl rfl rfl oM) (G.q rfl rfl rfl rfl (q_or rfl rfl rfl) (G.np ?_))
 refine G.q rfl rfl rfl rfl (q_field0 rfl rfl fo_135_1_F2) ?_
 refine G.st0 sz_58_F1 ?_
 refine G.nil (EN.sub (sC 0 (sC 2 Sub.nil)) ?_)
 refine EN.ts ?_
 rw [WR.put_val hx hn hW.hav hW.hold]
 refine CG.reg (G.mv ?_)
 refine G.np ?_
 refine G.q rfl rfl rfl rfl (q_field0 rfl rfl fo_135_2_F2) (G.ld ag_3_F1 ?_)
 refine G.mv ?_
 refine G.q rfl rfl rfl rfl (q_add_i rfl rfl rfl oM) (G.np ?_)
 refine G.q rfl rfl rfl rfl (q_field0 rfl rfl fo_135_2_F2) ?_
 refine G.st0 sz_3_F1 ?_
 refine G.nil (EN.sub (sC 0 Sub.nil) ?_)
 refine EN.then (CG.block (CG.loopI (fun m L H => ∃ (q : WR) (v : Value), q.hold < 2 ^ q.hav ∧ q.flush = W.put x n ∧ q.hav ≤ 39 ∧ 8 * q.out.length + q.hav ≤ 8000000100 ∧ m = q.hav ∧ L = [(0, .pointer (some ⟨b, 0, none⟩))] ∧ H = WrP b q v ++ F) (W.hav + n) (hl := [_, _]) (⟨⟨W.out, W.hold ||| ((x % 2 ^ n) <<< W.hav), W.hav + n⟩, v, WR.put_hold hW x n, rfl, by simp; omega, by simp; omega, rfl, rfl, rfl⟩) sB rfl tK sF ?_))
 rintro m L H ⟨q, v, hq, hfl, hq1, hq2, rfl, rfl, rfl⟩
 unfold WrP
 dsimp only [List.cons_append, List.nil_append]
 refine CG.seq (CG.sr (G.mv ?_))
 refine G.np ?_
 refine G.q rfl rfl rfl rfl (q_field0 rfl rfl fo_135_2_F2) (G.ld ag_3_F1 ?_)
 refine G.q rfl rfl rfl rfl (q_geq rfl rfl rfl) (G.nil (EN.then ?_))
 refine CG.cond rfl (fun h42 => ?_) (fun h42 => ?_)
 ·
  have h8 : 8 ≤ q.hav := by omega
  have hq3 : WR.flush ⟨q.out ++ [UInt8.ofNat q.hold], q.hold >>> 8, q.hav - 8⟩ = W.put x n := by rw [← hfl, WR.flush.eq_1 q, dif_pos h8]
  have hq2b : q.hold >>> 8 < 2 ^ (q.hav - 8) := by
    rw [Nat.shiftRight_eq_div_pow, Nat.div_lt_iff_lt_mul (Nat.pow_pos oM), ← Nat.pow_add, show q.hav - 8 + 8 = q.hav by omega]; exact hq
  have e := shr_nat (k := .u64) (a := q.hold) (c := 8) (by decide)
  rw [show ((8 : Nat) : Int) = 8 from rfl] at e
  have e2 : ((q.hav : Int) - 8) = ((q.hav - 8 : Nat) : Int) := by omega
  refine CG.skip (EN.then (CG.block (CG.seq ?_)))
  refine CG.regZ [52, 47] (CellIs b 0 v) mixed (by kernel_rfl) (fun w hw => CellIs.of hw mB rfl) ?_
  refine G.mv ?_
  refine G.mv ?_
  refine G.np ?_
  refine G.q rfl rfl rfl rfl (q_field0 rfl rfl fo_135_0_F2) (G.loadC rfl rfl rfl rfl rfl rfl rfl ag_80_F2 (fun w h => h) ?_)
  refine G.mv ?_
  refine G.np ?_
  refine G.q rfl rfl rfl rfl (q_field0 rfl rfl fo_135_1_F2) (G.ld ag_58_F1 ?_)
  refine G.q rfl rfl rfl rfl (q_conv rfl rfl is_58_F1 ik_5_F2) (G.e rfl rfl rfl rfl (e_bslice rfl rfl (bs_80_1_all_F2 _)) (fun _ _ _ w hR hw => by obtain ⟨_, _, rfl⟩ := hR; exact CellIs.of hw mB rfl) ?_)
  rintro _ _ ⟨b53, rfl, rfl⟩
  refine G.e rfl rfl rfl rfl (e_append rfl rfl rfl se_80_F2 nf_5_F2 rfl tK1 mB (by rfl) (by simp [Value.oneCell', str]) oM) (fun _ _ _ w hR hw => by subst hR; exact CellIs.of hw mB rfl) ?_
  rintro _ _ rfl
  rw [own_snoc]
  refine G.ownShape tK1 ?_
  rintro ad c' rfl
  refine G.np ?_
  refine G.q rfl rfl rfl rfl (q_field0 rfl rfl fo_135_0_F2) ?_
  refine G.z0 rfl rfl rfl (e_store rfl rfl rfl sz_80_F2 rfl sA (.there (.there .here))) ?_ rfl
  rintro _ _ ⟨rfl, rfl⟩
  refine G.nil (EN.sub (sC 0 Sub.nil) ?_)
  refine EN.tsr (G.mv ?_)
  refine G.np ?_
  refine G.q rfl rfl rfl rfl (q_field0 rfl rfl fo_135_1_F2) (G.ld ag_58_F1 ?_)
  refine G.q rfl rfl rfl rfl (q_shr rfl rfl rfl oM) (G.np ?_)
  refine G.q rfl rfl rfl rfl (q_field0 rfl rfl fo_135_1_F2) ?_
  refine G.st0 sz_58_F1 ?_
  refine G.nil (EN.then ?_)
  rw [e]
  refine CG.reg (G.mv ?_)
  refine G.np ?_
  refine G.q rfl rfl rfl rfl (q_field0 rfl rfl fo_135_2_F2) (G.ld ag_3_F1 ?_)
  refine G.q rfl rfl rfl rfl (q_sub_i rfl rfl rfl oM) (G.np ?_)
  refine G.q rfl rfl rfl rfl (q_field0 rfl rfl fo_135_2_F2) ?_
  refine G.st0 sz_3_F1 ?_
  refine G.nil (EN.sub (sC 0 Sub.nil) ?_)
  refine EN.in_normal ?_
  rw [e2]
  exact EN.round (hl := [_, _]) (q.hav - 8) oM (⟨⟨q.out ++ [UInt8.ofNat q.hold], q.hold >>> 8, q.hav - 8⟩, _, hq2b, hq3, by simp; omega, by simp; omega, rfl, rfl, rfl⟩) sB rfl tK sF
 ·
  refine CG.exit ?_
  refine EN.then_exit (EN.then_exit (EN.in_here ?_))
  rw [← hfl, WR.flush.eq_1 q, dif_neg oM]
  refine EN.closeS (WrP b q) v tK ?_
  exact fin_ret0 rfl tK sF (⟨rfl, rfl⟩) _ (.inr rfl)

set_option maxRecDepth 100000 in
set_option maxHeartbeats 1000000 in
theorem wcode_spec (b : Nat) (W : WR) (x n : Nat) (hW : W.Ok) (hx : x < 2 ^ 32) (hn : n ≤ 32) (hlen : W.out.length ≤ 900000000) : Spec Tryz.prog 94 #[.pointer (some ⟨b, 0, none⟩), .int .u32 x, .int .i64 n] [WrAt b W] (Ret fun v hl => v = .tuple #[] ∧ hl = [WrAt b (W.code x n)]) := by
 refine Spec.enter Tryz.func94 rfl rfl rfl (fun F w0 => ?_)
 dsimp only [argL, List.cons_append, List.nil_append]
 refine CG.seq (CG.sr (G.mv ?_))
 refine G.q rfl rfl rfl rfl (q_lss rfl rfl rfl) (G.mv ?_)
 refine G.split (t := 9) rfl (fun g9 => ?_) (fun g9 => ?_)
 ·
  have h0 : n = 0 := by omega
  subst h0
  refine G.skip rfl rfl rfl (G.skip rfl rfl rfl (G.q rfl rfl rfl rfl (q_pick_t rfl rfl rfl) (G.nil (EN.then (CG.cond_t rfl ?_)))))
  refine CG.ret (EN.then_ret ?_)
  skip
  exact fin_ret0 rfl tK sF (⟨rfl, rfl⟩) _ (.inl rfl)
 ·
  have h0 : 1 ≤ n := by omega
  refine G.mv ?_
  refine G.q rfl rfl rfl rfl (q_gtr rfl rfl rfl) (G.q rfl rfl rfl rfl (q_pick_f rfl rfl rfl) (G.nil (EN.then ?_)))
  refine CG.cond rfl (fun h12 => absurd h12 oM) (fun h12 => ?_)
  refine CG.skip (EN.tsr (G.mv ?_))
  refine G.q rfl rfl rfl rfl (q_sub_i rfl rfl rfl oM) (G.as ?_)
  refine G.nil (EN.sub (sC 0 (sC 1 (sC 6 Sub.nil))) ?_)
  refine EN.then (CG.block ?_)
  have e1 : ((n : Int) - 1) = ((n : Int) - 1) := rfl
  refine CG.loopI (fun m L H => ∃ (q : WR), q.Ok ∧ q.code x m = W.code x n ∧ m ≤ 32 ∧ 8 * q.out.length + q.hav ≤ 7200000100 + 8 * (32 - m) ∧ L = [(0, .pointer (some ⟨b, 0, none⟩)), (1, .int .u32 x), (6, .int .i64 ((m : Int) - 1))] ∧ H = [WrAt b q] ++ F) (n) (hl := [_]) (⟨W, hW, rfl, hn, by have := hW.hav; omega, rfl, rfl⟩) sB rfl tK sF ?_
  rintro m L H ⟨q, hq, hcode, hm, hql, rfl, rfl⟩
  dsimp only [List.cons_append, List.nil_append]
  refine CG.seq (CG.sr (G.mv ?_))
  refine G.q rfl rfl rfl rfl (q_geq rfl rfl rfl) (G.nil (EN.then ?_))
  refine CG.cond rfl (fun h16 => ?_) (fun h16 => ?_)
  ·
   obtain ⟨k, rfl⟩ : ∃ k, m = k + 1 := ⟨m - 1, by omega⟩
   have e3 : (((k + 1 : Nat) : Int) - 1 - 1) = ((k : Int) - 1) := by omega
   have e4 : (((k + 1 : Nat) : Int) - 1) = (k : Int) := by omega
   have e5 := shr_nat (k := .u32) (a := x) (c := k) (by simp [IntKind.bits]; omega)
   have hsx : x >>> k < 2 ^ 32 := Nat.lt_of_le_of_lt (by rw [Nat.shiftRight_eq_div_pow]; exact Nat.div_le_self _ _) hx
   refine CG.skip (EN.ts (CG.block ?_))
   rw [e4]
   refine CG.reg (G.mv ?_)
   refine G.mv ?_
   refine G.mv ?_
   refine G.q rfl rfl rfl rfl (q_shr rfl rfl rfl oM) ?_
   rw [e5]
   refine G.call (xs := [_, _, _]) rfl rfl (wbits_spec b q (x >>> k) 1 hq hsx oM oM) bd_92_F2 rfl rfl rfl rfl tK (fun _ _ _ _ _ _ => trivial) ?_
   rintro _ _ ⟨rfl, rfl⟩
   try dsimp only [List.cons_append, List.nil_append]
   refine G.nil (EN.in_normal (EN.then ?_))
   rw [← e4]
   refine CG.reg (G.mv ?_)
   refine G.q rfl rfl rfl rfl (q_sub_i rfl rfl rfl oM) (G.as ?_)
   refine G.nil ?_
   rw [e3]
   exact EN.round (hl := [_]) (k) oM (⟨q.put (x >>> k) 1, WR.put_ok hq _ _, hcode, by omega, by have := WR.put_len q (x >>> k) 1; omega, rfl, rfl⟩) sB rfl tK sF
  ·
   have h0 : m = 0 := by omega
   subst h0
   refine CG.exit ?_
   refine EN.then_exit (EN.then_exit (EN.in_here ?_))
   rw [← hcode]
   exact fin_ret0 rfl tK sF (⟨rfl, rfl⟩) _ (.inr rfl)

set_option maxRecDepth 100000 in
set_option maxHeartbeats 1000000 in
theorem walign_spec (b : Nat) (W : WR) (hW : W.Ok) (hlen : W.out.length ≤ 1000000000) : Spec Tryz.prog 126 #[.pointer (some ⟨b, 0, none⟩)] [WrAt b W] (Ret fun v hl => v = .tuple #[] ∧ hl = [WrAt b W.align]) := by
 refine Spec.enter Tryz.func126 rfl rfl rfl (fun F w0 => ?_)
 dsimp only [argL, List.cons_append, List.nil_append]
 refine CG.seq ?_
 refine CG.openS (WrP b W) tK1 (fun v => ?_)
 unfold WrP
 dsimp only [List.cons_append, List.nil_append]
 have hW1 := hW.hav
 refine CG.reg (G.mv ?_)
 refine G.np ?_
 refine G.q rfl rfl rfl rfl (q_field0 rfl rfl fo_135_2_F2) (G.ld ag_3_F1 ?_)
 refine G.q rfl rfl rfl rfl (q_gtr rfl rfl rfl) (G.nil (EN.then ?_))
 refine CG.cond rfl (fun h6 => ?_) (fun h6 => ?_)
 ·
  have e : ((8 : Int) - W.hav) = ((8 - W.hav : Nat) : Int) := by omega
  refine CG.reg (G.mv ?_)
  refine G.mv ?_
  refine G.np ?_
  refine G.q rfl rfl rfl rfl (q_field0 rfl rfl fo_135_2_F2) (G.ld ag_3_F1 ?_)
  refine G.q rfl rfl rfl rfl (q_sub_i rfl rfl rfl oM) ?_
  rw [e]
  refine G.closeS (WrP b W) v tK ?_
  refine G.call (xs := [_, _, _]) rfl rfl (wbits_spec b W 0 (8 - W.hav) hW oM oM hlen) bd_92_F2 rfl rfl rfl rfl tK (fun _ _ _ _ _ _ => trivial) ?_
  rintro _ _ ⟨rfl, rfl⟩
  try dsimp only [List.cons_append, List.nil_append]
  refine G.nil ?_
  refine EN.sub Sub.nil ?_
  rw [show W.align = W.put 0 (8 - W.hav) from if_pos oM]
  exact fin_ret0 rfl tK sF (⟨rfl, rfl⟩) _ (.inr rfl)
 ·
  refine CG.closeS (WrP b W) v tK ?_
  refine CG.skip ?_
  rw [show W.align = W from if_neg oM]
  exact fin_ret0 rfl tK sF (⟨rfl, rfl⟩) _ (.inr rfl)

set_option maxRecDepth 100000 in
set_option maxHeartbeats 1000000 in
theorem wbytes_spec (b : Nat) (W : WR) (s : List UInt8) (hW : W.Ok) (hlen : W.out.length ≤ 1000000000) (hs : s.length ≤ 1000000000) : Spec Tryz.prog 116 #[.pointer (some ⟨b, 0, none⟩), str s] [WrAt b W] (Ret fun v hl => v = .tuple #[] ∧ hl = [WrAt b (W.bytes s)]) := by
 refine Spec.enter Tryz.func116 rfl rfl rfl (fun F w0 => ?_)
 dsimp only [argL, List.cons_append, List.nil_append]
 refine CG.sr (G.mv ?_)
 refine G.call (xs := [_]) rfl rfl (walign_spec b W hW hlen) bd_126_F2 rfl rfl rfl rfl tK (fun _ _ _ _ _ _ => trivial) ?_
 rintro _ _ ⟨rfl, rfl⟩
 try dsimp only [List.cons_append, List.nil_append]
 refine G.nil (EN.then ?_)
 have hal := WR.align_len hW
 refine CG.openS (WrP b W.align) tK1 (fun v => ?_)
 unfold WrP
 dsimp only [List.cons_append, List.nil_append]
 refine CG.reg (G.mv ?_)
 refine G.mv ?_
 refine G.np ?_
 refine G.q rfl rfl rfl rfl (q_field0 rfl rfl fo_135_0_F2) (G.ld ag_80_F2 ?_)
 refine G.mv ?_
 refine G.e rfl rfl rfl rfl (e_append_str rfl rfl rfl se_80_F2 us_9_F1 nf_5_F2 tK1 oM) (fun _ _ _ _ _ _ => trivial) ?_
 rintro _ _ rfl
 rw [own_app]
 refine G.ownShape tK1 ?_
 rintro ad c' rfl
 refine G.np ?_
 refine G.q rfl rfl rfl rfl (q_field0 rfl rfl fo_135_0_F2) ?_
 refine G.st0 sz_80_F2 ?_
 refine G.nil ?_
 refine EN.sub Sub.nil ?_
 refine EN.closeS (WrP b (W.bytes s)) _ tK ?_
 exact fin_ret0 rfl tK sF (⟨rfl, rfl⟩) _ (.inr rfl)

set_option maxRecDepth 100000 in
set_option maxHeartbeats 1000000 in
theorem wtext_spec (b : Nat) (W : WR) (hW : W.Ok) (hlen : W.out.length ≤ 1000000000) : Spec Tryz.prog 98 #[.pointer (some ⟨b, 0, none⟩)] [WrAt b W] (Ret fun v hl => v = str W.text ∧ hl = [WrAt b W]) := by
 refine Spec.enter Tryz.func98 rfl rfl rfl (fun F w0 => ?_)
 dsimp only [argL, List.cons_append, List.nil_append]
 refine CG.seq ?_
 refine CG.openS (WrP b W) tK1 (fun v => ?_)
 unfold WrP
 dsimp only [List.cons_append, List.nil_append]
 have hW1 := hW.hav
 refine CG.reg (G.as ?_)
 refine G.nil (EN.ts (CG.sr (G.mv ?_)))
 refine G.np ?_
 refine G.q rfl rfl rfl rfl (q_field0 rfl rfl fo_135_2_F2) (G.ld ag_3_F1 ?_)
 refine G.q rfl rfl rfl rfl (q_gtr rfl rfl rfl) (G.nil (EN.then ?_))
 refine CG.cond rfl (fun h7 => ?_) (fun h7 => ?_)
 ·
  refine CG.seq ?_
  refine CG.regC [17, 11, 12] (fun w => CellIs b 0 v w ∧ w.ownsRow 0 5 1 v W.out.length (W.out.map u8v)) mixed (by kernel_rfl) (fun w hw => ⟨CellIs.of hw mB rfl, WS.own hw mB⟩) ?_
  refine G.mv ?_
  refine G.np ?_
  refine G.q rfl rfl rfl rfl (q_field0 rfl rfl fo_135_0_F2) (G.loadC rfl rfl rfl rfl rfl rfl rfl ag_80_F2 (fun w h => h.1) ?_)
  refine G.b2sC rfl rfl rfl rfl rfl rfl rfl bT_80_9_F2 (fun w h => h.2) ?_
  refine G.mv ?_
  refine G.np ?_
  refine G.q rfl rfl rfl rfl (q_field0 rfl rfl fo_135_1_F2) (G.ld ag_58_F1 ?_)
  refine G.q rfl rfl rfl rfl (q_conv rfl rfl is_58_F1 ik_5_F2) (G.e rfl rfl rfl rfl (e_bslice rfl rfl (bs_80_1_all_F2 _)) (fun _ _ _ w hR hw => by obtain ⟨_, _, rfl⟩ := hR; exact ⟨CellIs.of hw mB rfl, WS.own hw mB⟩) ?_)
  rintro _ _ ⟨b18, rfl, rfl⟩
  rw [WR.u8v_ofNat]
  refine G.r rfl rfl rfl rfl (r_b2s_cel (l := [UInt8.ofNat W.hold]) rfl rfl bT_80_9_F2 mB) ?_
  refine G.q rfl rfl rfl rfl (q_add_s rfl rfl rfl (by simp; omega)) (G.as ?_)
  refine G.nil (EN.sub (sC 0 (sC 2 Sub.nil)) ?_)
  refine EN.then (CG.ret (EN.then_ret ?_))
  rw [show W.text = W.out ++ [UInt8.ofNat W.hold] from if_pos oM]
  refine EN.closeS (WrP b W) v tK ?_
  exact fin_ret1 rfl rfl tK sF (⟨rfl, rfl⟩) _ (.inl rfl)
 ·
  refine CG.skip (EN.tsr (G.mv ?_))
  refine G.np ?_
  refine G.q rfl rfl rfl rfl (q_field0 rfl rfl fo_135_0_F2) (G.ld ag_80_F2 ?_)
  refine G.r rfl rfl rfl rfl (r_b2s rfl rfl bT_80_9_F2 mB) ?_
  refine G.as ?_
  refine G.nil (EN.sub (sC 2 Sub.nil) ?_)
  refine EN.then (CG.ret ?_)
  rw [show W.text = W.out from if_neg oM]
  refine EN.closeS (WrP b W) v tK ?_
  exact fin_ret1 rfl rfl tK sF (⟨rfl, rfl⟩) _ (.inl rfl)

end Go.Eng
/-
  Sums: each function's contract.
-/
set_option linter.unusedVariables false
set_option linter.unusedSimpArgs false
namespace Go.Eng
open Go.Proofs
theorem ag_28_F3 : aggB Tryz.prog 28 = some false := by kernel_rfl
theorem bd_55_F3 : bodied Tryz.prog 55 = true := by kernel_rfl
theorem bd_56_F3 : bodied Tryz.prog 56 = true := by kernel_rfl
theorem fo_103_0_F3 : fieldOff Tryz.prog 103 0 = some 0 := by kernel_rfl
theorem ik_28_F3 : intK Tryz.prog 28 = some .u32 := by kernel_rfl
theorem ik_58_F3 : intK Tryz.prog 58 = some .u64 := by kernel_rfl
theorem sz_28_F3 : sizeB Tryz.prog 28 = some 1 := by kernel_rfl
theorem zl_103_F3 : zeroL Tryz.prog 103 = some [.int .u32 0] := by kernel_rfl

set_option maxRecDepth 100000 in
set_option maxHeartbeats 1000000 in
theorem fromBig_spec (s : List UInt8) (h : s.length ≤ 8) : Spec Tryz.prog 19 #[str s] [] (Ret fun v hl => v = .int .u64 (Sums.fromBig s) ∧ hl = []) := by
 refine Spec.enter Tryz.func19 rfl rfl rfl (fun F w0 => ?_)
 dsimp only [argL, List.cons_append, List.nil_append]
 refine CG.sr (G.as ?_)
 refine G.nil (EN.tsr (G.as ?_))
 refine G.nil (EN.ts (CG.sr (G.mv ?_)))
 refine G.q rfl rfl rfl rfl (q_len_str rfl rfl us_9_F1) (G.mv ?_)
 refine G.nil (EN.then (CG.block (CG.loopI (fun m L H => ∃ k : Nat, k ≤ s.length ∧ m = (s.length) - k ∧ L = [(0, str s), (3, .int .u64 (Sums.fromBig (s.take k))), (6, .int .i64 s.length), (7, .int .i64 k)] ∧ H = F) ((s.length) - 0) (hl := []) (⟨0, Nat.zero_le _, rfl, rfl, rfl⟩) sB rfl tK sF ?_)))
 rintro m L H ⟨k, hk, rfl, rfl, rfl⟩
 try dsimp only [List.cons_append, List.nil_append]
 refine CG.sr (G.q rfl rfl rfl rfl (q_lss rfl rfl rfl) (G.nil (EN.ts ?_)))
 refine CG.cond rfl (fun h8 => ?_) (fun h8 => ?_)
 ·
  obtain ⟨c, hc⟩ := get_some (l := s) (k := k) oM
  have hs := take_snoc hc
  have hc8 := u8_lt c
  have hb := Sums.fromBig_lt' (s := s.take k) (j := 7) (by simp; omega)
  have e : Sums.fromBig (s.take (k+1)) = Sums.fromBig (s.take k) * 256 + c.toNat := by rw [hs, Sums.fromBig_snoc]
  refine CG.skip (EN.ts (CG.block (CG.sr (G.mv ?_))))
  refine G.as ?_
  refine G.nil (EN.tr ?_)
  refine G.mv ?_
  refine G.q rfl rfl rfl rfl (q_shlcw (d := 256) rfl rfl rfl (by decide) (by decide) lOm lOm) (G.mv ?_)
  refine G.mv ?_
  refine G.q rfl rfl rfl rfl (q_index rfl rfl rfl us_9_F1 (hc)) (G.q rfl rfl rfl rfl (q_conv_in rfl rfl is_5_F1 ik_58_F3 (wrapu_in (b := 64) rfl rfl oM)) (G.q rfl rfl rfl rfl (q_ord (j := 8) (d := 256) rfl rfl rfl (by decide) lOm lOm lOm (by decide)) (G.as ?_)))
  refine G.nil (EN.sub (sC 0 (sC 3 (sC 6 (sC 7 Sub.nil)))) ?_)
  refine EN.in_normal (EN.tr ?_)
  refine G.q rfl rfl rfl rfl (q_add_i rfl rfl rfl oM) (G.mv ?_)
  refine G.nil ?_
  rw [← e]
  exact EN.round (hl := []) ((s.length) - (k + 1)) oM (⟨k + 1, by omega, rfl, rfl, rfl⟩) sB rfl tK sF
 ·
  obtain rfl : k = s.length := by omega
  refine CG.exit ?_
  refine EN.then_exit (EN.then_exit (EN.in_here ?_))
  refine EN.tsr (G.mv ?_)
  refine G.as ?_
  refine G.nil (EN.then (CG.ret ?_))
  rw [List.take_length]
  exact fin_ret1 rfl rfl tK sF (⟨rfl, rfl⟩) _ (.inl rfl)

set_option maxRecDepth 100000 in
set_option maxHeartbeats 1000000 in
theorem fromLittle_spec (s : List UInt8) (h : s.length ≤ 8) : Spec Tryz.prog 122 #[str s] [] (Ret fun v hl => v = .int .u64 (Sums.fromLittle s) ∧ hl = []) := by
 refine Spec.enter Tryz.func122 rfl rfl rfl (fun F w0 => ?_)
 dsimp only [argL, List.cons_append, List.nil_append]
 refine CG.sr (G.as ?_)
 refine G.nil (EN.tsr (G.as ?_))
 refine G.nil (EN.ts (CG.sr (G.mv ?_)))
 refine G.q rfl rfl rfl rfl (q_len_str rfl rfl us_9_F1) (G.q rfl rfl rfl rfl (q_min rfl rfl rfl) (G.mv ?_))
 refine G.nil (EN.then (CG.block ?_))
 rw [if_neg oM]
 refine CG.loopI (fun m L H => ∃ k : Nat, k ≤ s.length ∧ m = (s.length) - k ∧ L = [(0, str s), (3, .int .u64 (Sums.fromLittle (s.take k))), (7, .int .i64 s.length), (8, .int .i64 k)] ∧ H = F) ((s.length) - 0) (hl := []) (⟨0, Nat.zero_le _, rfl, rfl, rfl⟩) sB rfl tK sF ?_
 rintro m L H ⟨k, hk, rfl, rfl, rfl⟩
 try dsimp only [List.cons_append, List.nil_append]
 refine CG.sr (G.q rfl rfl rfl rfl (q_lss rfl rfl rfl) (G.nil (EN.ts ?_)))
 refine CG.cond rfl (fun h9 => ?_) (fun h9 => ?_)
 ·
  obtain ⟨c, hc⟩ := get_some (l := s) (k := k) oM
  have hs := take_snoc hc
  have hc8 := u8_lt c
  have e := Sums.little_or (s.take k) c (by simp; omega)
  rw [← hs, show (s.take k).length = k by simp; omega] at e
  refine CG.skip (EN.ts (CG.block (CG.sr (G.mv ?_))))
  refine G.as ?_
  refine G.nil (EN.tr ?_)
  refine G.mv ?_
  refine G.mv ?_
  refine G.mv ?_
  refine G.q rfl rfl rfl rfl (q_index rfl rfl rfl us_9_F1 (hc)) (G.q rfl rfl rfl rfl (q_conv_in rfl rfl is_5_F1 ik_58_F3 (wrapu_in (b := 64) rfl rfl oM)) (G.mv ?_))
  refine G.q rfl rfl rfl rfl (q_mul_i rfl rfl rfl oM) (G.q rfl rfl rfl rfl (q_shl rfl rfl rfl oM) (G.q rfl rfl rfl rfl (q_or rfl rfl rfl) (G.as ?_)))
  refine G.nil (EN.sub (sC 0 (sC 3 (sC 7 (sC 8 Sub.nil)))) ?_)
  refine EN.in_normal (EN.tr ?_)
  refine G.q rfl rfl rfl rfl (q_add_i rfl rfl rfl oM) (G.mv ?_)
  refine G.nil ?_
  rw [e]
  exact EN.round (hl := []) ((s.length) - (k + 1)) oM (⟨k + 1, by omega, rfl, rfl, rfl⟩) sB rfl tK sF
 ·
  obtain rfl : k = s.length := by omega
  refine CG.exit ?_
  refine EN.then_exit (EN.then_exit (EN.in_here ?_))
  refine EN.tsr (G.mv ?_)
  refine G.as ?_
  refine G.nil (EN.then (CG.ret ?_))
  rw [List.take_length]
  exact fin_ret1 rfl rfl tK sF (⟨rfl, rfl⟩) _ (.inl rfl)

set_option maxRecDepth 100000 in
set_option maxHeartbeats 1000000 in
theorem crcSum_spec (b : Nat) (c : Int) : Spec Tryz.prog 56 #[.pointer (some ⟨b, 0, none⟩)] [cel b 103 [.int .u32 c]] (Ret fun v hl => v = .int .u32 c ∧ hl = [cel b 103 [.int .u32 c]]) := by
 refine Spec.enter Tryz.func56 rfl rfl rfl (fun F w0 => ?_)
 dsimp only [argL, List.cons_append, List.nil_append]
 refine CG.sr (G.as ?_)
 refine G.nil (EN.tsr (G.mv ?_))
 refine G.np ?_
 refine G.q rfl rfl rfl rfl (q_field0 rfl rfl fo_103_0_F3) (G.ld ag_28_F3 ?_)
 refine G.as ?_
 refine G.nil (EN.then (CG.ret ?_))
 exact fin_ret1 rfl rfl tK sF (⟨rfl, rfl⟩) _ (.inl rfl)

def crcBit (c : Int) : Int := bits .xor .u32 (c / 2) (bits .and .u32 3988292384 (IntKind.u32.wrap (0 - bits .and .u32 c 1)))
def crcBits : Nat → Int → Int
  | 0, c => c
  | n + 1, c => crcBit (crcBits n c)
def crcByte (c : Int) (x : UInt8) : Int := crcBits 8 (bits .xor .u32 c (x.toNat : Int))
def crcNot (c : Int) : Int := bits .xor .u32 4294967295 c
def crcW (c : Int) (s : List UInt8) : Int := s.foldl crcByte c
def crc32 (s : List UInt8) : Int := crcNot (crcW (crcNot 0) s)
theorem crcW_snoc (c : Int) (s : List UInt8) (x : UInt8) : crcW c (s ++ [x]) = crcByte (crcW c s) x := by simp [crcW]

set_option maxRecDepth 100000 in
set_option maxHeartbeats 1000000 in
theorem crcWrite_spec (b : Nat) (c : Int) (s : List UInt8) (h : s.length ≤ 9223372036854775000) : Spec Tryz.prog 55 #[.pointer (some ⟨b, 0, none⟩), str s] [cel b 103 [.int .u32 c]] (Ret fun v hl => v = .tuple #[] ∧ hl = [cel b 103 [.int .u32 (crcNot (crcW (crcNot c) s))]]) := by
 refine Spec.enter Tryz.func55 rfl rfl rfl (fun F w0 => ?_)
 dsimp only [argL, List.cons_append, List.nil_append]
 refine CG.sr (G.mv ?_)
 refine G.np ?_
 refine G.q rfl rfl rfl rfl (q_field0 rfl rfl fo_103_0_F3) (G.ld ag_28_F3 ?_)
 refine G.q rfl rfl rfl rfl (q_com rfl rfl) (G.as ?_)
 refine G.nil (EN.ts (CG.sr (G.mv ?_)))
 refine G.q rfl rfl rfl rfl (q_len_str rfl rfl us_9_F1) (G.mv ?_)
 refine G.nil (EN.then (CG.block (CG.loopI (fun m L H => ∃ k : Nat, k ≤ s.length ∧ m = (s.length) - k ∧ L = [(0, .pointer (some ⟨b, 0, none⟩)), (1, str s), (4, .int .u32 (crcW (crcNot c) (s.take k))), (12, .int .i64 s.length), (13, .int .i64 k)] ∧ H = [cel b 103 [.int .u32 c]] ++ F) ((s.length) - 0) (hl := [_]) (⟨0, Nat.zero_le _, rfl, rfl, rfl⟩) sB rfl tK sF ?_)))
 rintro m L H ⟨k, hk, rfl, rfl, rfl⟩
 try dsimp only [List.cons_append, List.nil_append]
 refine CG.sr (G.q rfl rfl rfl rfl (q_lss rfl rfl rfl) (G.nil (EN.ts ?_)))
 refine CG.cond rfl (fun h14 => ?_) (fun h14 => ?_)
 ·
  obtain ⟨x, hc⟩ := get_some (l := s) (k := k) oM
  have hs := take_snoc hc
  have hc8 := u8_lt x
  have e : crcBits 8 (bits .xor .u32 (crcW (crcNot c) (s.take k)) (x.toNat : Int)) = crcW (crcNot c) (s.take (k+1)) := by rw [hs, crcW_snoc]; rfl
  refine CG.skip (EN.ts (CG.block (CG.sr (G.mv ?_))))
  refine G.as ?_
  refine G.nil (EN.tsr (G.mv ?_))
  refine G.mv ?_
  refine G.mv ?_
  refine G.q rfl rfl rfl rfl (q_index rfl rfl rfl us_9_F1 (hc)) (G.q rfl rfl rfl rfl (q_conv_in rfl rfl is_5_F1 ik_28_F3 (wrapu_in (b := 32) rfl rfl oM)) (G.q rfl rfl rfl rfl (q_xor rfl rfl rfl) (G.as ?_)))
  refine G.nil (EN.sub (sC 0 (sC 1 (sC 4 (sC 12 (sC 13 Sub.nil))))) ?_)
  refine EN.tsr (G.mv ?_)
  refine G.nil (EN.then (CG.block (CG.loopI (fun m L H => ∃ j : Nat, j ≤ 8 ∧ m = (8) - j ∧ L = [(0, .pointer (some ⟨b, 0, none⟩)), (1, str s), (4, .int .u32 (crcBits j (bits .xor .u32 (crcW (crcNot c) (s.take k)) (x.toNat : Int)))), (12, .int .i64 s.length), (13, .int .i64 k), (22, .int .i64 j)] ∧ H = [cel b 103 [.int .u32 c]] ++ F) ((8) - 0) (hl := [_]) (⟨0, Nat.zero_le _, rfl, rfl, rfl⟩) sB rfl tK sF ?_)))
  rintro m L H ⟨j, hk, rfl, rfl, rfl⟩
  try dsimp only [List.cons_append, List.nil_append]
  refine CG.sr (G.q rfl rfl rfl rfl (q_lss rfl rfl rfl) (G.nil (EN.ts ?_)))
  refine CG.cond rfl (fun h23 => ?_) (fun h23 => ?_)
  ·
   refine CG.skip (EN.ts (CG.block (CG.reg (G.mv ?_))))
   refine G.q rfl rfl rfl rfl (q_shr rfl rfl rfl oM) (G.mv ?_)
   refine G.q rfl rfl rfl rfl (q_and rfl rfl rfl) (G.q rfl rfl rfl rfl (q_neg rfl rfl) (G.q rfl rfl rfl rfl (q_and rfl rfl rfl) (G.q rfl rfl rfl rfl (q_xor rfl rfl rfl) (G.as ?_))))
   refine G.nil (EN.in_normal (EN.tr ?_))
   refine G.q rfl rfl rfl rfl (q_add_i rfl rfl rfl oM) (G.mv ?_)
   refine G.nil ?_
   exact EN.round (hl := [_]) ((8) - (j + 1)) oM (⟨j + 1, by omega, rfl, rfl, rfl⟩) sB rfl tK sF
  ·
   obtain rfl : j = 8 := by omega
   refine CG.exit ?_
   refine EN.then_exit (EN.then_exit (EN.in_here ?_))
   refine EN.in_normal (EN.tr ?_)
   refine G.q rfl rfl rfl rfl (q_add_i rfl rfl rfl oM) (G.mv ?_)
   refine G.nil ?_
   rw [e]
   exact EN.round (hl := [_]) ((s.length) - (k + 1)) oM (⟨k + 1, by omega, rfl, rfl, rfl⟩) sB rfl tK sF
 ·
  obtain rfl : k = s.length := by omega
  refine CG.exit ?_
  refine EN.then_exit (EN.then_exit (EN.in_here ?_))
  refine EN.tr ?_
  refine G.mv ?_
  refine G.mv ?_
  refine G.q rfl rfl rfl rfl (q_com rfl rfl) (G.np ?_)
  refine G.q rfl rfl rfl rfl (q_field0 rfl rfl fo_103_0_F3) ?_
  refine G.st0 sz_28_F3 ?_
  refine G.nil ?_
  refine EN.sub Sub.nil ?_
  rw [List.take_length]
  exact fin_ret0 rfl tK sF (⟨rfl, rfl⟩) _ (.inr rfl)

set_option maxRecDepth 100000 in
set_option maxHeartbeats 1000000 in
theorem crc32_spec (s : List UInt8) (h : s.length ≤ 9223372036854775000) : Spec Tryz.prog 28 #[str s] [] (Ret fun v hl => v = .int .u32 (crc32 s) ∧ hl = []) := by
 refine Spec.enter Tryz.func28 rfl rfl rfl (fun F w0 => ?_)
 dsimp only [argL, List.cons_append, List.nil_append]
 refine CG.sr (G.as ?_)
 refine G.nil (EN.tsr (G.e rfl rfl rfl rfl (e_alloc rfl zl_103_F3) (fun _ _ _ _ _ _ => trivial) ?_))
 rintro _ _ ⟨b3, rfl, rfl⟩
 refine G.nil (EN.tsr (G.mv ?_))
 refine G.call (xs := [_, _]) rfl rfl (crcWrite_spec b3 0 s h) bd_55_F3 rfl rfl rfl rfl tK (fun _ _ _ _ _ _ => trivial) ?_
 rintro _ _ ⟨rfl, rfl⟩
 try dsimp only [List.cons_append, List.nil_append]
 refine G.nil (EN.tsr (G.call (xs := [_]) rfl rfl (crcSum_spec b3 _) bd_56_F3 rfl rfl rfl rfl tK (fun _ _ _ _ _ _ => trivial) ?_))
 rintro _ _ ⟨rfl, rfl⟩
 try dsimp only [List.cons_append, List.nil_append]
 refine G.as ?_
 refine G.nil (EN.then (CG.ret ?_))
 exact fin_ret1 rfl rfl tK sF (⟨rfl, rfl⟩) _ (.inl rfl)

end Go.Eng
/-
  Sums: numbers as bytes, digits, Adler.
-/
set_option linter.unusedVariables false
set_option linter.unusedSimpArgs false
namespace Go.Eng
open Go.Proofs
theorem bT_80_9_F4 : bytesT Tryz.prog 80 9 = some 5 := by kernel_rfl
theorem bd_68_F4 : bodied Tryz.prog 68 = true := by kernel_rfl
theorem bd_79_F4 : bodied Tryz.prog 79 = true := by kernel_rfl
theorem bd_80_F4 : bodied Tryz.prog 80 = true := by kernel_rfl
theorem bs_80_2_all_F4 : ∀ (x0 : Int) (x1 : Int) (w : World), (Instr.buildSlice 80 2 [(0, .int .u8 x0), (1, .int .u8 x1)].toArray).run Tryz.prog w = .ok (.slice (some ⟨w.heap.size, 0, none⟩) 2 2) { w with heap := w.heap.push (.cells [.int .u8 x0, .int .u8 x1].toArray 5) } := fun _ _ _ => by kernel_rfl
theorem fo_122_0_F4 : fieldOff Tryz.prog 122 0 = some 0 := by kernel_rfl
theorem fo_122_1_F4 : fieldOff Tryz.prog 122 1 = some 1 := by kernel_rfl
theorem ik_28_F4 : intK Tryz.prog 28 = some .u32 := by kernel_rfl
theorem ik_3_F4 : intK Tryz.prog 3 = some .i64 := by kernel_rfl
theorem ik_5_F4 : intK Tryz.prog 5 = some .u8 := by kernel_rfl
theorem is_3_F4 : (Tryz.prog.underlying 3).isSome = true := by kernel_rfl
theorem zl_122_F4 : zeroL Tryz.prog 122 = some [.int .u32 0, .int .u32 0] := by kernel_rfl

theorem own_take {e k : Nat} {v : Value} {f : Nat → UInt8} {u : Value} (h : u = u8v (f k)) : own e 1 v (k + 1) (((List.range k).map f).map u8v ++ [u]) = own e 1 v (k + 1) (((List.range (k + 1)).map f).map u8v) := by
  rw [h, Sums.range_take]; simp
theorem own_hex {e : Nat} {u : Value} {t : List UInt8} {c : UInt8} : own e 1 u ((Sums.hex t).length + 2) ((Sums.hex t).map u8v ++ [Value.int .u8 (Sums.hexDigit (c.toNat / 16)).toNat, Value.int .u8 (Sums.hexDigit (c.toNat % 16)).toNat]) = own e 1 u (Sums.hex (t ++ [c])).length ((Sums.hex (t ++ [c])).map u8v) := by
  rw [Sums.hex_snoc]; simp [u8v]
theorem own_snoc2 {e : Nat} {u : Value} {l : List UInt8} {c : UInt8} : own e 1 u (l.length + 1) (l.map u8v ++ [.int .u8 (c.toNat : Int)]) = own e 1 u (l ++ [c]).length ((l ++ [c]).map u8v) := by
  simp [u8v]
theorem drop2 {s : List UInt8} {i : Nat} {a b : UInt8} (ha : s[i]? = some a) (hb : s[i + 1]? = some b) : s.drop i = a :: b :: s.drop (i + 2) := by
  obtain ⟨h1, rfl⟩ := List.getElem?_eq_some_iff.1 ha
  obtain ⟨h2, rfl⟩ := List.getElem?_eq_some_iff.1 hb
  rw [List.drop_eq_getElem_cons h1, List.drop_eq_getElem_cons h2]
theorem digit_range (c : UInt8) : -1 ≤ Sums.digit c ∧ Sums.digit c ≤ 15 := by
  unfold Sums.digit; split
  · omega
  · split <;> omega
def unhexV (s : List UInt8) : Array Value := match Sums.unhex s with | some t => #[str t, .bool true] | none => #[str [], .bool false]
theorem unhexV_n {s : List UInt8} (h : none = Sums.unhex s) : #[str [], .bool false] = unhexV s := by unfold unhexV; rw [← h]
theorem unhexV_s {s t : List UInt8} (h : some t = Sums.unhex s) : #[str t, .bool true] = unhexV s := by unfold unhexV; rw [← h]

set_option maxRecDepth 100000 in
set_option maxHeartbeats 1000000 in
theorem big_spec (x : Int) (n : Nat) (hx : 0 ≤ x ∧ x < 18446744073709551616) (h : n ≤ 8) : Spec Tryz.prog 34 #[.int .u64 x, .int .i64 n] [] (Ret fun v hl => v = str (Sums.big x n) ∧ hl = []) := by
 refine Spec.enter Tryz.func34 rfl rfl rfl (fun F w0 => ?_)
 dsimp only [argL, List.cons_append, List.nil_append]
 refine CG.sr (G.as ?_)
 refine G.nil (EN.tsr (G.as ?_))
 refine G.nil (EN.ts (CG.sr (G.mv ?_)))
 refine G.q rfl rfl rfl rfl (q_max rfl rfl rfl) (G.mv ?_)
 refine G.nil (EN.then (CG.block ?_))
 rw [if_neg oM]
 refine CG.ownNil 5 1 ?_
 refine CG.loopI (fun m L H => ∃ k : Nat, ∃ (v : Value), k ≤ n ∧ m = (n) - k ∧ L = [(0, .int .u64 x), (1, .int .i64 n), (5, v), (8, .int .i64 n), (9, .int .i64 k)] ∧ H = [own 5 1 v k (((List.range k).map (fun i => u8i (x / 2 ^ (8 * (n - 1 - i))))).map u8v)] ++ F) ((n) - 0) (hl := [_]) (⟨0, .slice none 0 0, Nat.zero_le _, rfl, rfl, rfl⟩) sB rfl tK sF ?_
 rintro m L H ⟨k, v, hk, rfl, rfl, rfl⟩
 try dsimp only [List.cons_append, List.nil_append]
 refine CG.sr (G.q rfl rfl rfl rfl (q_lss rfl rfl rfl) (G.nil (EN.ts ?_)))
 refine CG.cond rfl (fun h10 => ?_) (fun h10 => ?_)
 ·
  have hk2 : k < n := by omega
  have hf : Value.int .u8 ((u8i (x / 2 ^ min (8 * ((n : Int) - 1 - k)).toNat IntKind.u64.bits)).toNat : Int) = u8v ((fun i => u8i (x / 2 ^ (8 * (n - 1 - i)))) k) := by
    rw [show (8 * ((n : Int) - 1 - k)).toNat = 8 * (n - 1 - k) by omega, Nat.min_eq_left (by simp [IntKind.bits]; omega)]; rfl
  refine CG.skip (EN.ts (CG.block (CG.sr (G.mv ?_))))
  refine G.as ?_
  refine G.nil (EN.ts (CG.sr (G.mv ?_)))
  refine G.mv ?_
  refine G.q rfl rfl rfl rfl (q_sub_i rfl rfl rfl oM) (G.q rfl rfl rfl rfl (q_gtr rfl rfl rfl) (G.nil (EN.then ?_)))
  refine CG.cond rfl (fun h15 => absurd h15 oM) (fun h15 => ?_)
  refine CG.skip (EN.tr ?_)
  refine G.mv ?_
  refine G.mv ?_
  refine G.mv ?_
  refine G.q rfl rfl rfl rfl (q_sub_i rfl rfl rfl oM) (G.mv ?_)
  refine G.q rfl rfl rfl rfl (q_sub_i rfl rfl rfl oM) (G.q rfl rfl rfl rfl (q_mul_i rfl rfl rfl oM) (G.q rfl rfl rfl rfl (q_shr rfl rfl rfl oM) (G.q rfl rfl rfl rfl (q_conv_u8 rfl rfl is_58_F1 ik_5_F4) (G.e rfl rfl rfl rfl (e_bslice rfl rfl (bs_80_1_all_F2 _)) (fun _ _ _ _ _ _ => trivial) ?_))))
  rintro _ _ ⟨b28, rfl, rfl⟩
  refine G.e rfl rfl rfl rfl (e_append rfl rfl rfl se_80_F2 nf_5_F2 rfl tK1 mB (by rfl) (by simp [Value.oneCell', str]) oM) (fun _ _ _ _ _ _ => trivial) ?_
  rintro _ _ rfl
  rw [own_take (f := (fun i => u8i (x / 2 ^ (8 * (n - 1 - i))))) hf]
  refine G.ownShape tK1 ?_
  rintro ad c' rfl
  refine G.as ?_
  refine G.nil (EN.sub (sC 0 (sC 1 (sC 5 (sC 8 (sC 9 Sub.nil))))) ?_)
  refine EN.in_normal (EN.tr ?_)
  refine G.q rfl rfl rfl rfl (q_add_i rfl rfl rfl oM) (G.mv ?_)
  refine G.nil ?_
  exact EN.round (hl := [_]) ((n) - (k + 1)) oM (⟨k + 1, _, by omega, rfl, rfl, rfl⟩) sB rfl tK sF
 ·
  obtain rfl : k = n := by omega
  refine CG.exit ?_
  refine EN.then_exit (EN.then_exit (EN.in_here ?_))
  refine EN.tsr (G.mv ?_)
  refine G.r rfl rfl rfl rfl (r_b2s rfl rfl bT_80_9_F4 mB) ?_
  refine G.as ?_
  refine G.nil (EN.then (CG.ret ?_))
  exact fin_ret1 rfl rfl tK sF (⟨rfl, rfl⟩) _ (.inl rfl)

set_option maxRecDepth 100000 in
set_option maxHeartbeats 1000000 in
theorem little_spec (x : Int) (n : Nat) (hx : 0 ≤ x ∧ x < 18446744073709551616) (h : n ≤ 8) : Spec Tryz.prog 117 #[.int .u64 x, .int .i64 n] [] (Ret fun v hl => v = str (Sums.little x n) ∧ hl = []) := by
 refine Spec.enter Tryz.func117 rfl rfl rfl (fun F w0 => ?_)
 dsimp only [argL, List.cons_append, List.nil_append]
 refine CG.sr (G.as ?_)
 refine G.nil (EN.tsr (G.as ?_))
 refine G.nil (EN.ts (CG.sr (G.mv ?_)))
 refine G.q rfl rfl rfl rfl (q_max rfl rfl rfl) (G.mv ?_)
 refine G.nil (EN.then (CG.block ?_))
 rw [if_neg oM]
 refine CG.ownNil 5 1 ?_
 refine CG.loopI (fun m L H => ∃ k : Nat, ∃ (v : Value), k ≤ n ∧ m = (n) - k ∧ L = [(0, .int .u64 x), (1, .int .i64 n), (5, v), (8, .int .i64 n), (9, .int .i64 k)] ∧ H = [own 5 1 v k (((List.range k).map (fun i => u8i (x / 2 ^ (8 * i)))).map u8v)] ++ F) ((n) - 0) (hl := [_]) (⟨0, .slice none 0 0, Nat.zero_le _, rfl, rfl, rfl⟩) sB rfl tK sF ?_
 rintro m L H ⟨k, v, hk, rfl, rfl, rfl⟩
 try dsimp only [List.cons_append, List.nil_append]
 refine CG.sr (G.q rfl rfl rfl rfl (q_lss rfl rfl rfl) (G.nil (EN.ts ?_)))
 refine CG.cond rfl (fun h10 => ?_) (fun h10 => ?_)
 ·
  have hk2 : k < n := by omega
  have hf : Value.int .u8 ((u8i (x / 2 ^ min (8 * (k : Int)).toNat IntKind.u64.bits)).toNat : Int) = u8v ((fun i => u8i (x / 2 ^ (8 * i))) k) := by
    rw [show (8 * (k : Int)).toNat = 8 * k by omega, Nat.min_eq_left (by simp [IntKind.bits]; omega)]; rfl
  refine CG.skip (EN.ts (CG.block (CG.sr (G.mv ?_))))
  refine G.as ?_
  refine G.nil (EN.ts (CG.sr (G.mv ?_)))
  refine G.q rfl rfl rfl rfl (q_geq rfl rfl rfl) (G.nil (EN.then ?_))
  refine CG.cond rfl (fun h13 => absurd h13 oM) (fun h13 => ?_)
  refine CG.skip (EN.tr ?_)
  refine G.mv ?_
  refine G.mv ?_
  refine G.mv ?_
  refine G.q rfl rfl rfl rfl (q_mul_i rfl rfl rfl oM) (G.q rfl rfl rfl rfl (q_shr rfl rfl rfl oM) (G.q rfl rfl rfl rfl (q_conv_u8 rfl rfl is_58_F1 ik_5_F4) (G.e rfl rfl rfl rfl (e_bslice rfl rfl (bs_80_1_all_F2 _)) (fun _ _ _ _ _ _ => trivial) ?_)))
  rintro _ _ ⟨b23, rfl, rfl⟩
  refine G.e rfl rfl rfl rfl (e_append rfl rfl rfl se_80_F2 nf_5_F2 rfl tK1 mB (by rfl) (by simp [Value.oneCell', str]) oM) (fun _ _ _ _ _ _ => trivial) ?_
  rintro _ _ rfl
  rw [own_take (f := (fun i => u8i (x / 2 ^ (8 * i)))) hf]
  refine G.ownShape tK1 ?_
  rintro ad c' rfl
  refine G.as ?_
  refine G.nil (EN.sub (sC 0 (sC 1 (sC 5 (sC 8 (sC 9 Sub.nil))))) ?_)
  refine EN.in_normal (EN.tr ?_)
  refine G.q rfl rfl rfl rfl (q_add_i rfl rfl rfl oM) (G.mv ?_)
  refine G.nil ?_
  exact EN.round (hl := [_]) ((n) - (k + 1)) oM (⟨k + 1, _, by omega, rfl, rfl, rfl⟩) sB rfl tK sF
 ·
  obtain rfl : k = n := by omega
  refine CG.exit ?_
  refine EN.then_exit (EN.then_exit (EN.in_here ?_))
  refine EN.tsr (G.mv ?_)
  refine G.r rfl rfl rfl rfl (r_b2s rfl rfl bT_80_9_F4 mB) ?_
  refine G.as ?_
  refine G.nil (EN.then (CG.ret ?_))
  exact fin_ret1 rfl rfl tK sF (⟨rfl, rfl⟩) _ (.inl rfl)

set_option maxRecDepth 100000 in
set_option maxHeartbeats 1000000 in
theorem adlerWrite_spec (b : Nat) (s : List UInt8) (h : s.length ≤ 9223372036854775000) : Spec Tryz.prog 79 #[.pointer (some ⟨b, 0, none⟩), str s] [cel b 122 [.int .u32 0, .int .u32 0]] (Ret fun v hl => v = .tuple #[] ∧ hl = [cel b 122 [.int .u32 (Sums.adlerP s).1, .int .u32 (Sums.adlerP s).2]]) := by
 refine Spec.enter Tryz.func79 rfl rfl rfl (fun F w0 => ?_)
 dsimp only [argL, List.cons_append, List.nil_append]
 refine CG.sr (G.mv ?_)
 refine G.q rfl rfl rfl rfl (q_len_str rfl rfl us_9_F1) (G.mv ?_)
 refine G.nil (EN.then (CG.block (CG.loopI (fun m L H => ∃ k : Nat, k ≤ s.length ∧ m = (s.length) - k ∧ L = [(0, .pointer (some ⟨b, 0, none⟩)), (1, str s), (6, .int .i64 s.length), (7, .int .i64 k)] ∧ H = [cel b 122 [.int .u32 (Sums.adlerP (s.take k)).1, .int .u32 (Sums.adlerP (s.take k)).2]] ++ F) ((s.length) - 0) (hl := [_]) (⟨0, Nat.zero_le _, rfl, rfl, rfl⟩) sB rfl tK sF ?_)))
 rintro m L H ⟨k, hk, rfl, rfl, rfl⟩
 try dsimp only [List.cons_append, List.nil_append]
 refine CG.sr (G.q rfl rfl rfl rfl (q_lss rfl rfl rfl) (G.nil (EN.ts ?_)))
 refine CG.cond rfl (fun h8 => ?_) (fun h8 => ?_)
 ·
  obtain ⟨c, hc⟩ := get_some (l := s) (k := k) oM
  have hs := take_snoc hc
  have hc8 := u8_lt c
  have hp := Sums.adlerP_lt (s.take k)
  have e : Sums.adlerP (s.take (k + 1)) = Sums.adlerStep (Sums.adlerP (s.take k)) c := by rw [hs, Sums.adlerP_snoc]
  have e1 : ((Sums.adlerP (s.take k)).1 + c.toNat) % 65521 = (Sums.adlerP (s.take (k + 1))).1 := by rw [e]; rfl
  have e2 : ((Sums.adlerP (s.take k)).2 + (Sums.adlerP (s.take (k + 1))).1 + 1) % 65521 = (Sums.adlerP (s.take (k + 1))).2 := by rw [e]; rfl
  refine CG.skip (EN.ts (CG.block (CG.sr (G.mv ?_))))
  refine G.as ?_
  refine G.nil (EN.ts ?_)
  refine CG.regT [18] mixed (by kernel_rfl) ?_
  refine G.mv ?_
  refine G.mv ?_
  refine G.np ?_
  refine G.q rfl rfl rfl rfl (q_field0 rfl rfl fo_122_0_F4) (G.ld ag_28_F3 ?_)
  refine G.mv ?_
  refine G.mv ?_
  refine G.q rfl rfl rfl rfl (q_index rfl rfl rfl us_9_F1 (hc)) (G.q rfl rfl rfl rfl (q_conv_in rfl rfl is_5_F1 ik_28_F4 (wrapu_in (b := 32) rfl rfl oM)) (G.q rfl rfl rfl rfl (q_addw rfl rfl rfl lOm lOm) (G.q rfl rfl rfl rfl (q_rem_n rfl rfl rfl oM) (G.np ?_))))
  refine G.q rfl rfl rfl rfl (q_field0 rfl rfl fo_122_0_F4) ?_
  refine G.st0 sz_28_F3 ?_
  refine G.nil (EN.sub (sC 0 (sC 1 (sC 6 (sC 7 Sub.nil)))) ?_)
  refine EN.then ?_
  refine CG.regT [] mixed (by kernel_rfl) ?_
  refine G.mv ?_
  refine G.mv ?_
  refine G.np ?_
  refine G.q rfl rfl rfl rfl (q_field0 rfl rfl fo_122_1_F4) (G.ld ag_28_F3 ?_)
  refine G.mv ?_
  refine G.np ?_
  refine G.q rfl rfl rfl rfl (q_field0 rfl rfl fo_122_0_F4) (G.ld ag_28_F3 ?_)
  refine G.q rfl rfl rfl rfl (q_addw rfl rfl rfl lOm lOm) (G.q rfl rfl rfl rfl (q_addw rfl rfl rfl lOm lOm) (G.q rfl rfl rfl rfl (q_rem_n rfl rfl rfl oM) (G.np ?_)))
  refine G.q rfl rfl rfl rfl (q_field0 rfl rfl fo_122_1_F4) ?_
  refine G.st0 sz_28_F3 ?_
  refine G.nil (EN.sub (sC 0 (sC 1 (sC 6 (sC 7 Sub.nil)))) ?_)
  refine EN.in_normal (EN.tr ?_)
  refine G.q rfl rfl rfl rfl (q_add_i rfl rfl rfl oM) (G.mv ?_)
  refine G.nil ?_
  rw [e1, e2]
  exact EN.round (hl := [_]) ((s.length) - (k + 1)) oM (⟨k + 1, by omega, rfl, rfl, rfl⟩) sB rfl tK sF
 ·
  obtain rfl : k = s.length := by omega
  refine CG.exit ?_
  refine EN.then_exit (EN.then_exit (EN.in_here ?_))
  rw [List.take_length]
  exact fin_ret0 rfl tK sF (⟨rfl, rfl⟩) _ (.inr rfl)

set_option maxRecDepth 100000 in
set_option maxHeartbeats 1000000 in
theorem adlerSum_spec (b : Nat) (s : List UInt8) : Spec Tryz.prog 80 #[.pointer (some ⟨b, 0, none⟩)] [cel b 122 [.int .u32 (Sums.adlerP s).1, .int .u32 (Sums.adlerP s).2]] (Ret fun v hl => v = .int .u32 (Sums.adler s) ∧ hl = [cel b 122 [.int .u32 (Sums.adlerP s).1, .int .u32 (Sums.adlerP s).2]]) := by
 have hp := Sums.adlerP_lt s
 refine Spec.enter Tryz.func80 rfl rfl rfl (fun F w0 => ?_)
 dsimp only [argL, List.cons_append, List.nil_append]
 refine CG.sr (G.as ?_)
 refine G.nil (EN.ts ?_)
 refine CG.regT [] mixed (by kernel_rfl) ?_
 refine G.mv ?_
 refine G.np ?_
 refine G.q rfl rfl rfl rfl (q_field0 rfl rfl fo_122_1_F4) (G.ld ag_28_F3 ?_)
 refine G.q rfl rfl rfl rfl (q_shlcw (d := 65536) rfl rfl rfl (by decide) (by decide) lOm lOm) (G.mv ?_)
 refine G.np ?_
 refine G.q rfl rfl rfl rfl (q_field0 rfl rfl fo_122_0_F4) (G.ld ag_28_F3 ?_)
 refine G.q rfl rfl rfl rfl (q_addw rfl rfl rfl lOm lOm) (G.q rfl rfl rfl rfl (q_rem_n rfl rfl rfl oM) (G.q rfl rfl rfl rfl (q_ord (j := 16) (d := 65536) rfl rfl rfl (by decide) lOm lOm lOm (by decide)) (G.as ?_)))
 refine G.nil (EN.sub (sC 2 Sub.nil) ?_)
 refine EN.then (CG.ret ?_)
 exact fin_ret1 rfl rfl tK sF (⟨rfl, rfl⟩) _ (.inl rfl)

set_option maxRecDepth 100000 in
set_option maxHeartbeats 1000000 in
theorem adler_spec (s : List UInt8) (h : s.length ≤ 9223372036854775000) : Spec Tryz.prog 54 #[str s] [] (Ret fun v hl => v = .int .u32 (Sums.adler s) ∧ hl = []) := by
 refine Spec.enter Tryz.func54 rfl rfl rfl (fun F w0 => ?_)
 dsimp only [argL, List.cons_append, List.nil_append]
 refine CG.sr (G.as ?_)
 refine G.nil (EN.tsr (G.e rfl rfl rfl rfl (e_alloc rfl zl_122_F4) (fun _ _ _ _ _ _ => trivial) ?_))
 rintro _ _ ⟨b3, rfl, rfl⟩
 refine G.nil (EN.tsr (G.mv ?_))
 refine G.call (xs := [_, _]) rfl rfl (adlerWrite_spec b3 s h) bd_79_F4 rfl rfl rfl rfl tK (fun _ _ _ _ _ _ => trivial) ?_
 rintro _ _ ⟨rfl, rfl⟩
 try dsimp only [List.cons_append, List.nil_append]
 refine G.nil (EN.tsr (G.call (xs := [_]) rfl rfl (adlerSum_spec b3 s) bd_80_F4 rfl rfl rfl rfl tK (fun _ _ _ _ _ _ => trivial) ?_))
 rintro _ _ ⟨rfl, rfl⟩
 try dsimp only [List.cons_append, List.nil_append]
 refine G.as ?_
 refine G.nil (EN.then (CG.ret ?_))
 exact fin_ret1 rfl rfl tK sF (⟨rfl, rfl⟩) _ (.inl rfl)

set_option maxRecDepth 100000 in
set_option maxHeartbeats 1000000 in
theorem digit_spec (c : UInt8) : Spec Tryz.prog 68 #[.int .u8 c.toNat] [] (Ret fun v hl => v = .int .i64 (Sums.digit c) ∧ hl = []) := by
 have hc := c.toNat_lt
 refine Spec.enter Tryz.func68 rfl rfl rfl (fun F w0 => ?_)
 dsimp only [argL, List.cons_append, List.nil_append]
 refine CG.sr (G.as ?_)
 refine G.nil (EN.ts (CG.block (CG.sr (G.mv ?_))))
 refine G.q rfl rfl rfl rfl (q_geq rfl rfl rfl) (G.mv ?_)
 refine G.split (t := 6) rfl (fun g6 => ?_) (fun g6 => ?_)
 ·
  refine G.mv ?_
  refine G.q rfl rfl rfl rfl (q_leq rfl rfl rfl) (G.q rfl rfl rfl rfl (q_pick_t rfl rfl rfl) (G.as ?_))
  refine G.nil (EN.then ?_)
  refine CG.cond rfl (fun h3 => ?_) (fun h3 => ?_)
  ·
   refine CG.sr (G.mv ?_)
   refine G.q rfl rfl rfl rfl (q_subw rfl rfl rfl lOm lOm) (G.q rfl rfl rfl rfl (q_conv_in rfl rfl is_5_F1 ik_3_F4 (wrap64_in oM)) (G.as ?_))
   refine G.nil (EN.sub (sC 2 Sub.nil) ?_)
   refine EN.then (CG.ret (EN.in_ret ?_))
   refine EN.then_ret ?_
   first
     | rw [show ((c.toNat : Int) - 48) = Sums.digit c from by unfold Sums.digit; rw [if_pos oM]]
     | rw [show ((c.toNat : Int) - 97 + 10) = Sums.digit c from by unfold Sums.digit; rw [if_neg oM, if_pos oM]]
     | rw [show (-1 : Int) = Sums.digit c from by unfold Sums.digit; rw [if_neg oM, if_neg oM]]
   exact fin_ret1 rfl rfl tK sF (⟨rfl, rfl⟩) _ (.inl rfl)
  ·
   refine CG.sr (G.mv ?_)
   refine G.q rfl rfl rfl rfl (q_geq rfl rfl rfl) (G.mv ?_)
   refine G.split (t := 16) rfl (fun g16 => ?_) (fun g16 => ?_)
   ·
    refine G.mv ?_
    refine G.q rfl rfl rfl rfl (q_leq rfl rfl rfl) (G.q rfl rfl rfl rfl (q_pick_t rfl rfl rfl) (G.as ?_))
    refine G.nil (EN.sub (sC 0 (sC 2 (sC 13 Sub.nil))) ?_)
    refine EN.then ?_
    refine CG.cond rfl (fun h13 => ?_) (fun h13 => ?_)
    ·
     refine CG.sr (G.mv ?_)
     refine G.q rfl rfl rfl rfl (q_subw rfl rfl rfl lOm lOm) (G.q rfl rfl rfl rfl (q_conv_in rfl rfl is_5_F1 ik_3_F4 (wrap64_in oM)) (G.q rfl rfl rfl rfl (q_add_i rfl rfl rfl oM) (G.as ?_)))
     refine G.nil (EN.then (CG.ret (EN.in_ret ?_)))
     refine EN.then_ret ?_
     first
       | rw [show ((c.toNat : Int) - 48) = Sums.digit c from by unfold Sums.digit; rw [if_pos oM]]
       | rw [show ((c.toNat : Int) - 97 + 10) = Sums.digit c from by unfold Sums.digit; rw [if_neg oM, if_pos oM]]
       | rw [show (-1 : Int) = Sums.digit c from by unfold Sums.digit; rw [if_neg oM, if_neg oM]]
     exact fin_ret1 rfl rfl tK sF (⟨rfl, rfl⟩) _ (.inl rfl)
    ·
     refine CG.skip (EN.in_normal (EN.tsr (G.as ?_)))
     refine G.nil (EN.then (CG.ret ?_))
     first
       | rw [show ((c.toNat : Int) - 48) = Sums.digit c from by unfold Sums.digit; rw [if_pos oM]]
       | rw [show ((c.toNat : Int) - 97 + 10) = Sums.digit c from by unfold Sums.digit; rw [if_neg oM, if_pos oM]]
       | rw [show (-1 : Int) = Sums.digit c from by unfold Sums.digit; rw [if_neg oM, if_neg oM]]
     exact fin_ret1 rfl rfl tK sF (⟨rfl, rfl⟩) _ (.inl rfl)
   ·
    refine G.skip rfl rfl rfl (G.skip rfl rfl rfl (G.q rfl rfl rfl rfl (q_pick_f rfl rfl rfl) (G.as ?_)))
    refine G.nil (EN.sub (sC 0 (sC 2 (sC 13 Sub.nil))) ?_)
    refine EN.then (CG.cond_f rfl ?_)
    refine CG.skip (EN.in_normal (EN.tsr (G.as ?_)))
    refine G.nil (EN.then (CG.ret ?_))
    first
      | rw [show ((c.toNat : Int) - 48) = Sums.digit c from by unfold Sums.digit; rw [if_pos oM]]
      | rw [show ((c.toNat : Int) - 97 + 10) = Sums.digit c from by unfold Sums.digit; rw [if_neg oM, if_pos oM]]
      | rw [show (-1 : Int) = Sums.digit c from by unfold Sums.digit; rw [if_neg oM, if_neg oM]]
    exact fin_ret1 rfl rfl tK sF (⟨rfl, rfl⟩) _ (.inl rfl)
 ·
  refine G.skip rfl rfl rfl (G.skip rfl rfl rfl (G.q rfl rfl rfl rfl (q_pick_f rfl rfl rfl) (G.as ?_)))
  refine G.nil (EN.then (CG.cond_f rfl ?_))
  refine CG.sr (G.mv ?_)
  refine G.q rfl rfl rfl rfl (q_geq rfl rfl rfl) (G.mv ?_)
  refine G.split (t := 16) rfl (fun g16 => ?_) (fun g16 => ?_)
  ·
   refine G.mv ?_
   refine G.q rfl rfl rfl rfl (q_leq rfl rfl rfl) (G.q rfl rfl rfl rfl (q_pick_t rfl rfl rfl) (G.as ?_))
   refine G.nil (EN.sub (sC 0 (sC 2 (sC 13 Sub.nil))) ?_)
   refine EN.then ?_
   refine CG.cond rfl (fun h13 => ?_) (fun h13 => ?_)
   ·
    refine CG.sr (G.mv ?_)
    refine G.q rfl rfl rfl rfl (q_subw rfl rfl rfl lOm lOm) (G.q rfl rfl rfl rfl (q_conv_in rfl rfl is_5_F1 ik_3_F4 (wrap64_in oM)) (G.q rfl rfl rfl rfl (q_add_i rfl rfl rfl oM) (G.as ?_)))
    refine G.nil (EN.then (CG.ret (EN.in_ret ?_)))
    refine EN.then_ret ?_
    first
      | rw [show ((c.toNat : Int) - 48) = Sums.digit c from by unfold Sums.digit; rw [if_pos oM]]
      | rw [show ((c.toNat : Int) - 97 + 10) = Sums.digit c from by unfold Sums.digit; rw [if_neg oM, if_pos oM]]
      | rw [show (-1 : Int) = Sums.digit c from by unfold Sums.digit; rw [if_neg oM, if_neg oM]]
    exact fin_ret1 rfl rfl tK sF (⟨rfl, rfl⟩) _ (.inl rfl)
   ·
    refine CG.skip (EN.in_normal (EN.tsr (G.as ?_)))
    refine G.nil (EN.then (CG.ret ?_))
    first
      | rw [show ((c.toNat : Int) - 48) = Sums.digit c from by unfold Sums.digit; rw [if_pos oM]]
      | rw [show ((c.toNat : Int) - 97 + 10) = Sums.digit c from by unfold Sums.digit; rw [if_neg oM, if_pos oM]]
      | rw [show (-1 : Int) = Sums.digit c from by unfold Sums.digit; rw [if_neg oM, if_neg oM]]
    exact fin_ret1 rfl rfl tK sF (⟨rfl, rfl⟩) _ (.inl rfl)
  ·
   refine G.skip rfl rfl rfl (G.skip rfl rfl rfl (G.q rfl rfl rfl rfl (q_pick_f rfl rfl rfl) (G.as ?_)))
   refine G.nil (EN.sub (sC 0 (sC 2 (sC 13 Sub.nil))) ?_)
   refine EN.then (CG.cond_f rfl ?_)
   refine CG.skip (EN.in_normal (EN.tsr (G.as ?_)))
   refine G.nil (EN.then (CG.ret ?_))
   first
     | rw [show ((c.toNat : Int) - 48) = Sums.digit c from by unfold Sums.digit; rw [if_pos oM]]
     | rw [show ((c.toNat : Int) - 97 + 10) = Sums.digit c from by unfold Sums.digit; rw [if_neg oM, if_pos oM]]
     | rw [show (-1 : Int) = Sums.digit c from by unfold Sums.digit; rw [if_neg oM, if_neg oM]]
   exact fin_ret1 rfl rfl tK sF (⟨rfl, rfl⟩) _ (.inl rfl)

set_option maxRecDepth 100000 in
set_option maxHeartbeats 1000000 in
theorem hex_spec (s : List UInt8) (h : s.length ≤ 1000000000) : Spec Tryz.prog 26 #[str s] [] (Ret fun v hl => v = str (Sums.hex s) ∧ hl = []) := by
 refine Spec.enter Tryz.func26 rfl rfl rfl (fun F w0 => ?_)
 dsimp only [argL, List.cons_append, List.nil_append]
 refine CG.sr (G.as ?_)
 refine G.nil (EN.tsr (G.as ?_))
 refine G.nil (EN.ts (CG.sr (G.mv ?_)))
 refine G.q rfl rfl rfl rfl (q_len_str rfl rfl us_9_F1) (G.mv ?_)
 refine G.nil (EN.then (CG.block (CG.ownNil 5 1 ?_)))
 refine CG.loopI (fun m L H => ∃ k : Nat, ∃ (v : Value), k ≤ s.length ∧ m = (s.length) - k ∧ L = [(0, str s), (3, v), (6, .int .i64 s.length), (7, .int .i64 k)] ∧ H = [own 5 1 v (Sums.hex (s.take k)).length ((Sums.hex (s.take k)).map u8v)] ++ F) ((s.length) - 0) (hl := [_]) (⟨0, .slice none 0 0, Nat.zero_le _, rfl, rfl, rfl⟩) sB rfl tK sF ?_
 rintro m L H ⟨k, v, hk, rfl, rfl, rfl⟩
 try dsimp only [List.cons_append, List.nil_append]
 refine CG.sr (G.q rfl rfl rfl rfl (q_lss rfl rfl rfl) (G.nil (EN.ts ?_)))
 refine CG.cond rfl (fun h8 => ?_) (fun h8 => ?_)
 ·
  obtain ⟨c, hc⟩ := get_some (l := s) (k := k) oM
  have hs := take_snoc hc
  have hc8 := u8_lt c
  have hl := Sums.hex_len (s.take k)
  rw [List.length_take, Nat.min_eq_left oM] at hl
  have h1 := Sums.hexDigit_get (n := c.toNat / 16) oM
  have h2 := Sums.hexDigit_get (n := c.toNat % 16) oM
  refine CG.skip (EN.ts (CG.block (CG.sr (G.mv ?_))))
  refine G.as ?_
  refine G.nil (EN.then ?_)
  refine CG.regT [] mixed (by kernel_rfl) ?_
  refine G.mv ?_
  refine G.mv ?_
  refine G.mv ?_
  refine G.q rfl rfl rfl rfl (q_index rfl rfl rfl us_9_F1 (hc)) (G.q rfl rfl rfl rfl (q_shrc (d := 16) rfl rfl rfl (by decide) (by decide)) (G.q rfl rfl rfl rfl (q_index rfl rfl rfl us_9_F1 (h1)) (G.mv ?_)))
  refine G.mv ?_
  refine G.q rfl rfl rfl rfl (q_index rfl rfl rfl us_9_F1 (hc)) (G.q rfl rfl rfl rfl (q_andm (j := 4) (d := 16) rfl rfl rfl lOm lOm (by decide) (by decide) (by decide)) (G.q rfl rfl rfl rfl (q_index rfl rfl rfl us_9_F1 (h2)) (G.e rfl rfl rfl rfl (e_bslice rfl rfl (bs_80_2_all_F4 _ _)) (fun _ _ _ _ _ _ => trivial) ?_)))
  rintro _ _ ⟨b21, rfl, rfl⟩
  refine G.e rfl rfl rfl rfl (e_append rfl rfl rfl se_80_F2 nf_5_F2 rfl tK1 mB (by rfl) (by simp [Value.oneCell', str]) oM) (fun _ _ _ _ _ _ => trivial) ?_
  rintro _ _ rfl
  rw [own_hex, ← hs]
  refine G.ownShape tK1 ?_
  rintro ad c' rfl
  refine G.as ?_
  refine G.nil (EN.sub (sC 0 (sC 3 (sC 6 (sC 7 Sub.nil)))) ?_)
  refine EN.in_normal (EN.tr ?_)
  refine G.q rfl rfl rfl rfl (q_add_i rfl rfl rfl oM) (G.mv ?_)
  refine G.nil ?_
  exact EN.round (hl := [_]) ((s.length) - (k + 1)) oM (⟨k + 1, _, by omega, rfl, rfl, rfl⟩) sB rfl tK sF
 ·
  obtain rfl : k = s.length := by omega
  refine CG.exit ?_
  refine EN.then_exit (EN.then_exit (EN.in_here ?_))
  refine EN.tsr (G.mv ?_)
  refine G.r rfl rfl rfl rfl (r_b2s rfl rfl bT_80_9_F4 mB) ?_
  refine G.as ?_
  refine G.nil (EN.then (CG.ret ?_))
  rw [List.take_length]
  exact fin_ret1 rfl rfl tK sF (⟨rfl, rfl⟩) _ (.inl rfl)

set_option maxRecDepth 100000 in
set_option maxHeartbeats 1000000 in
theorem unhex_spec (s : List UInt8) (h : s.length ≤ 1000000000) : Spec Tryz.prog 40 #[str s] [] (Ret fun v hl => v = .tuple (unhexV s) ∧ hl = []) := by
 refine Spec.enter Tryz.func40 rfl rfl rfl (fun F w0 => ?_)
 dsimp only [argL, List.cons_append, List.nil_append]
 refine CG.sr (G.as ?_)
 refine G.as ?_
 refine G.nil (EN.tsr (G.as ?_))
 refine G.nil (EN.ts (CG.sr (G.as ?_)))
 refine G.nil (EN.then (CG.block (CG.ownNil 5 1 ?_)))
 refine CG.loopI (fun m L H => ∃ (k : Nat) (out : List UInt8) (v : Value), 2 * k ≤ s.length ∧ out.length = k ∧ Sums.unhexGo (s.drop (2 * k)) out = Sums.unhex s ∧ m = s.length - 2 * k ∧ L = [(0, str s), (4, v), (5, .int .i64 (2 * k : Nat))] ∧ H = [own 5 1 v out.length (out.map u8v)] ++ F) (s.length - 0) (hl := [_]) (⟨0, [], .slice none 0 0, by omega, rfl, rfl, rfl, rfl, rfl⟩) sB rfl tK sF ?_
 rintro m L H ⟨k, out, v, hk, hout, hgo, rfl, rfl, rfl⟩
 try dsimp only [List.cons_append, List.nil_append]
 refine CG.seq (CG.sr (G.mv ?_))
 refine G.q rfl rfl rfl rfl (q_add_i rfl rfl rfl oM) (G.mv ?_)
 refine G.q rfl rfl rfl rfl (q_len_str rfl rfl us_9_F1) (G.q rfl rfl rfl rfl (q_lss rfl rfl rfl) (G.nil (EN.then ?_)))
 refine CG.cond rfl (fun h12 => ?_) (fun h12 => ?_)
 ·
  obtain ⟨a, ha⟩ := get_some (l := s) (k := 2 * k) oM
  obtain ⟨b, hb⟩ := get_some (l := s) (k := 2 * k + 1) oM
  rw [drop2 ha hb, Sums.unhexGo] at hgo
  have hda := digit_range a
  have hdb := digit_range b
  have e5 : (((2 * k : Nat) : Int) + 1) = ((2 * k + 1 : Nat) : Int) := by omega
  have e6 : (((2 * k : Nat) : Int) + 2) = ((2 * (k + 1) : Nat) : Int) := by omega
  refine CG.skip (EN.ts (CG.block (CG.seq ?_)))
  refine CG.regT [] mixed (by kernel_rfl) ?_
  refine G.mv ?_
  refine G.mv ?_
  refine G.q rfl rfl rfl rfl (q_index rfl rfl rfl us_9_F1 (ha)) (G.call (xs := [_]) rfl rfl (digit_spec a) bd_68_F4 rfl rfl rfl rfl tK (fun _ _ _ _ _ _ => trivial) ?_)
  rintro _ _ ⟨rfl, rfl⟩
  try dsimp only [List.cons_append, List.nil_append]
  refine G.mv ?_
  refine G.mv ?_
  refine G.q rfl rfl rfl rfl (q_add_i rfl rfl rfl oM) ?_
  rw [e5]
  refine G.q rfl rfl rfl rfl (q_index rfl rfl rfl us_9_F1 (hb)) (G.call (xs := [_]) rfl rfl (digit_spec b) bd_68_F4 rfl rfl rfl rfl tK (fun _ _ _ _ _ _ => trivial) ?_)
  rintro _ _ ⟨rfl, rfl⟩
  try dsimp only [List.cons_append, List.nil_append]
  refine G.as ?_
  refine G.as ?_
  refine G.nil (EN.sub (sC 0 (sC 4 (sC 5 (sC 6 (sC 7 Sub.nil))))) ?_)
  refine EN.ts (CG.sr (G.mv ?_))
  refine G.q rfl rfl rfl rfl (q_lss rfl rfl rfl) (G.mv ?_)
  refine G.split (t := 26) rfl (fun g26 => ?_) (fun g26 => ?_)
  ·
   refine G.skip rfl rfl rfl (G.skip rfl rfl rfl (G.q rfl rfl rfl rfl (q_pick_t rfl rfl rfl) (G.nil (EN.then (CG.cond_t rfl ?_)))))
   refine CG.seq ?_
   have hn : Sums.digit a < 0 ∨ Sums.digit b < 0 := by first | (left; assumption) | (right; simpa using h29)
   rw [if_pos hn] at hgo
   have eU := unhexV_n hgo
   refine CG.reg (G.as ?_)
   refine G.as ?_
   refine G.nil (EN.then (CG.ret (EN.then_ret (EN.in_ret ?_))))
   refine EN.then_ret (EN.then_ret (EN.in_ret ?_))
   refine EN.then_ret ?_
   exact fin_ret2 rfl rfl rfl tK sF (⟨congrArg _ eU, rfl⟩) _ (.inl rfl)
  ·
   refine G.mv ?_
   refine G.q rfl rfl rfl rfl (q_lss rfl rfl rfl) (G.q rfl rfl rfl rfl (q_pick_f rfl rfl rfl) (G.nil (EN.then ?_)))
   refine CG.condB rfl (fun h29 => ?_) (fun h29 => ?_)
   ·
    refine CG.seq ?_
    have hn : Sums.digit a < 0 ∨ Sums.digit b < 0 := by first | (left; assumption) | (right; simpa using h29)
    rw [if_pos hn] at hgo
    have eU := unhexV_n hgo
    refine CG.reg (G.as ?_)
    refine G.as ?_
    refine G.nil (EN.then (CG.ret (EN.then_ret (EN.in_ret ?_))))
    refine EN.then_ret (EN.then_ret (EN.in_ret ?_))
    refine EN.then_ret ?_
    exact fin_ret2 rfl rfl rfl tK sF (⟨congrArg _ eU, rfl⟩) _ (.inl rfl)
   ·
    refine CG.skip (EN.then ?_)
    have h29b : ¬ Sums.digit b < 0 := by simpa using h29
    rw [if_neg oM] at hgo
    have hgo2 : Sums.unhexGo (s.drop (2 * (k + 1))) (out ++ [u8i (Sums.digit a * 16 + Sums.digit b)]) = Sums.unhex s := hgo
    refine CG.reg (G.mv ?_)
    refine G.mv ?_
    refine G.q rfl rfl rfl rfl (q_shlcw (d := 16) rfl rfl rfl (by decide) (by decide) lOm lOm) (G.mv ?_)
    refine G.q rfl rfl rfl rfl (q_ord (j := 4) (d := 16) rfl rfl rfl (by decide) lOm lOm lOm (by decide)) (G.q rfl rfl rfl rfl (q_conv_u8 rfl rfl is_3_F4 ik_5_F4) (G.e rfl rfl rfl rfl (e_bslice rfl rfl (bs_80_1_all_F2 _)) (fun _ _ _ _ _ _ => trivial) ?_))
    rintro _ _ ⟨b36, rfl, rfl⟩
    refine G.e rfl rfl rfl rfl (e_append rfl rfl rfl se_80_F2 nf_5_F2 rfl tK1 mB (by rfl) (by simp [Value.oneCell', str]) oM) (fun _ _ _ _ _ _ => trivial) ?_
    rintro _ _ rfl
    rw [own_snoc2]
    refine G.ownShape tK1 ?_
    rintro ad c' rfl
    refine G.as ?_
    refine G.nil (EN.sub (sC 0 (sC 4 (sC 5 Sub.nil))) ?_)
    refine EN.in_normal (EN.tr ?_)
    refine G.mv ?_
    refine G.q rfl rfl rfl rfl (q_add_i rfl rfl rfl oM) (G.as ?_)
    refine G.nil ?_
    rw [e6]
    exact EN.round (hl := [_]) (s.length - 2 * (k + 1)) oM (⟨k + 1, out ++ [u8i (Sums.digit a * 16 + Sums.digit b)], _, by omega, by simp [hout], hgo2, rfl, rfl, rfl⟩) sB rfl tK sF
 ·
  refine CG.exit ?_
  refine EN.then_exit (EN.then_exit (EN.in_here ?_))
  refine EN.ts (CG.sr (G.mv ?_))
  refine G.q rfl rfl rfl rfl (q_len_str rfl rfl us_9_F1) (G.q rfl rfl rfl rfl (q_rem_n rfl rfl rfl oM) (G.q rfl rfl rfl rfl (q_neq rfl rfl rfl) (G.nil (EN.sub (sC 4 (sC 41 Sub.nil)) ?_))))
  refine EN.then ?_
  refine CG.cond rfl (fun h41 => ?_) (fun h41 => ?_)
  ·
   have hl1 : (s.drop (2 * k)).length = 1 := by rw [List.length_drop]; omega
   obtain ⟨c, hc⟩ := List.length_eq_one_iff.1 hl1
   rw [hc] at hgo
   have hend : Sums.unhexGo [c] out = none := rfl
   rw [hend] at hgo
   refine CG.seq ?_
   have eU := unhexV_n hgo
   refine CG.reg (G.as ?_)
   refine G.as ?_
   refine G.nil (EN.then (CG.ret (EN.then_ret ?_)))
   exact fin_ret2 rfl rfl rfl tK sF (⟨congrArg _ eU, rfl⟩) _ (.inl rfl)
  ·
   rw [List.drop_eq_nil_of_le oM] at hgo
   unfold Sums.unhexGo at hgo
   refine CG.skip (EN.ts ?_)
   have eU := unhexV_s hgo
   refine CG.reg (G.mv ?_)
   refine G.r rfl rfl rfl rfl (r_b2s rfl rfl bT_80_9_F4 mB) ?_
   refine G.as ?_
   refine G.as ?_
   refine G.nil (EN.then (CG.ret ?_))
   exact fin_ret2 rfl rfl rfl tK sF (⟨congrArg _ eU, rfl⟩) _ (.inl rfl)

end Go.Eng
/-
  Codes by their lengths (huff): each function's contract.
-/
set_option linter.unusedVariables false
set_option linter.unusedSimpArgs false
namespace Go.Eng
open Go.Proofs
theorem ae_170_F5 : arrE Tryz.prog 170 = some (16, 3) := by kernel_rfl
theorem ag_78_F5 : aggB Tryz.prog 78 = some false := by kernel_rfl
theorem bd_103_F5 : bodied Tryz.prog 103 = true := by kernel_rfl
theorem bs_78_1_all_F5 : ∀ (x0 : Int) (w : World), (Instr.buildSlice 78 1 [(0, .int .i64 x0)].toArray).run Tryz.prog w = .ok (.slice (some ⟨w.heap.size, 0, none⟩) 1 1) { w with heap := w.heap.push (.cells [.int .i64 x0].toArray 3) } := fun _ _ => by kernel_rfl
theorem bu_172_0_F5 : ∀ (x0a : Option Addr) (x0n x0c : Nat) (w : World), (Instr.build 172 [(0, .slice x0a x0n x0c)].toArray).run Tryz.prog w = .ok (.agg [.slice x0a x0n x0c, .int .i64 0, .int .i64 0, .int .i64 0, .int .i64 0, .int .i64 0, .int .i64 0, .int .i64 0, .int .i64 0, .int .i64 0, .int .i64 0, .int .i64 0, .int .i64 0, .int .i64 0, .int .i64 0, .int .i64 0, .int .i64 0, .slice none 0 0].toArray) w := fun _ _ _ _ => by kernel_rfl
theorem fo_172_0_F5 : fieldOff Tryz.prog 172 0 = some 0 := by kernel_rfl
theorem fo_172_1_F5 : fieldOff Tryz.prog 172 1 = some 1 := by kernel_rfl
theorem fo_172_2_F5 : fieldOff Tryz.prog 172 2 = some 17 := by kernel_rfl
theorem ik_3_F5 : intK Tryz.prog 3 = some .i64 := by kernel_rfl
theorem nf_3_F5 : infoB Tryz.prog 3 = some (some [.int .i64 0], 1, 8) := by kernel_rfl
theorem se_78_F5 : sliceE Tryz.prog 78 = some 3 := by kernel_rfl
theorem sz_78_F5 : sizeB Tryz.prog 78 = some 1 := by kernel_rfl

def TabP (b : Nat) (ls : List Nat) (p : Value × Value) : List HP := [cel b 172 (p.1 :: (Huff.cntC ls ++ [p.2])), own 3 1 p.1 ls.length (ls.map iv), own 3 1 p.2 (Huff.sorted ls).length ((Huff.sorted ls).map iv)]
def TabAt (b : Nat) (ls : List Nat) : HP := exS (TabP b ls)

set_option maxRecDepth 100000 in
set_option maxHeartbeats 1000000 in
theorem hnew_spec (g off c U : Nat) (cs : List Value) (ls : List Nat) (hls : ∀ x ∈ ls, x ≤ 15) (hlen : 0 < ls.length ∧ ls.length ≤ 320) (hsl : sliceL cs off ls.length = ls.map iv) : Spec Tryz.prog 115 #[.slice (some ⟨g, off, none⟩) ls.length c] [cel g U cs] (Ret fun v hl => (Huff.bad ls = true ∧ v = .tuple #[.pointer none, .int .i64 4] ∧ hl = [cel g U cs]) ∨ (Huff.bad ls = false ∧ ∃ b, v = .tuple #[.pointer (some ⟨b, 0, none⟩), .int .i64 0] ∧ hl = [TabAt b ls, cel g U cs])) := by
 have hsl1 : sliceL cs off (ls.length * 1) = ls.map iv := by rw [Nat.mul_one]; exact hsl
 refine Spec.enter Tryz.func115 rfl rfl rfl (fun F w0 => ?_)
 dsimp only [argL, List.cons_append, List.nil_append]
 refine CG.sr (G.as ?_)
 refine G.as ?_
 refine G.nil (EN.ts (CG.sr (G.mv ?_)))
 refine G.q rfl rfl rfl rfl (q_len_sl rfl rfl se_78_F5) (G.q rfl rfl rfl rfl (q_gtr rfl rfl rfl) (G.nil (EN.then ?_)))
 refine CG.cond rfl (fun h14 => absurd h14 oM) (fun h14 => ?_)
 refine CG.skip (EN.ts (CG.ownNil 3 1 ?_))
 refine CG.reg (G.mv ?_)
 refine G.e rfl rfl rfl rfl (e_append_off rfl rfl rfl se_78_F5 nf_3_F5 rfl tK1 mB (hsl1) (by simp) (iv_one ls) oM) (fun _ _ _ _ _ _ => trivial) ?_
 rintro _ _ rfl
 simp only [Nat.zero_add, List.nil_append]
 refine G.ownShape tK1 ?_
 rintro ad c' rfl
 refine G.q rfl rfl rfl rfl (q_build rfl rfl (bu_172_0_F5 _ _ _)) (G.e rfl rfl rfl rfl (e_box rfl rfl) (fun _ _ _ _ _ _ => trivial) ?_)
 rintro _ _ ⟨b18, rfl, rfl⟩
 refine G.as ?_
 refine G.nil (EN.ts (CG.sr (G.mv ?_)))
 refine G.q rfl rfl rfl rfl (q_len_sl rfl rfl se_78_F5) (G.mv ?_)
 refine G.nil (EN.then (CG.block (CG.loopI (fun m L H => ∃ k : Nat, k ≤ ls.length ∧ m = (ls.length) - k ∧ L = [(0, .slice (some ⟨g, off, none⟩) ls.length c), (4, .pointer (some ⟨b18, 0, none⟩)), (19, .slice (some ⟨g, off, none⟩) ls.length c), (20, .int .i64 ls.length), (21, .int .i64 k)] ∧ H = [cel b18 172 ((.slice ad ls.length c') :: (Huff.cntC (ls.take k) ++ [.slice none 0 0])), own 3 1 (.slice ad ls.length c') ls.length (ls.map iv), cel g U cs] ++ F) ((ls.length) - 0) (hl := [_, _, _]) (⟨0, Nat.zero_le _, rfl, rfl, rfl⟩) sB rfl tK sF ?_)))
 rintro m L H ⟨k, hk, rfl, rfl, rfl⟩
 try dsimp only [List.cons_append, List.nil_append]
 refine CG.sr (G.q rfl rfl rfl rfl (q_lss rfl rfl rfl) (G.nil (EN.ts ?_)))
 refine CG.cond rfl (fun h22 => ?_) (fun h22 => ?_)
 ·
  obtain ⟨x, hc⟩ := get_some (l := ls) (k := k) oM
  have hs := take_snoc hc
  have hx15 := hls x (List.mem_of_getElem? hc)
  have hcl := Huff.count_le (ls.take k) x
  rw [List.length_take] at hcl
  refine CG.skip (EN.ts (CG.block (CG.sr (G.q rfl rfl rfl rfl (q_ixaddr rfl rfl rfl se_78_F5 sz_3_F1 oM) (G.r rfl rfl rfl rfl (r_load rfl rfl ag_3_F1 (.there (.there .here)) (nth_sliceL hsl (get_iv hc))) ?_)))))
  refine G.as ?_
  refine G.nil (EN.ts (CG.sr (G.mv ?_)))
  refine G.q rfl rfl rfl rfl (q_lss rfl rfl rfl) (G.mv ?_)
  refine G.split (t := 27) rfl (fun g27 => absurd g27 oM) (fun g27 => ?_)
  refine G.mv ?_
  refine G.q rfl rfl rfl rfl (q_gtr rfl rfl rfl) (G.q rfl rfl rfl rfl (q_pick_f rfl rfl rfl) (G.nil (EN.then ?_)))
  refine CG.cond rfl (fun h30 => absurd h30 oM) (fun h30 => ?_)
  refine CG.skip (EN.then ?_)
  refine CG.regT [] mixed (by kernel_rfl) ?_
  refine G.mv ?_
  refine G.mv ?_
  refine G.np ?_
  refine G.q rfl rfl rfl rfl (q_field0 rfl rfl fo_172_1_F5) (G.q rfl rfl rfl rfl (q_ixarr rfl rfl rfl ae_170_F5 sz_3_F1 oM) (G.r rfl rfl rfl rfl (r_load rfl rfl ag_3_F1 .here (Huff.nth_cnt _ oM)) ?_))
  refine G.q rfl rfl rfl rfl (q_add_i rfl rfl rfl oM) (G.np ?_)
  refine G.q rfl rfl rfl rfl (q_field0 rfl rfl fo_172_1_F5) (G.q rfl rfl rfl rfl (q_ixarr rfl rfl rfl ae_170_F5 sz_3_F1 oM) ?_)
  refine G.e0 rfl rfl rfl (e_store rfl rfl rfl sz_3_F1 rfl (Huff.set_cnt _ oM) .here) (fun _ _ _ _ _ _ => trivial) ?_
  rintro _ _ ⟨rfl, rfl⟩
  refine G.nil (EN.sub (sC 0 (sC 4 (sC 19 (sC 20 (sC 21 Sub.nil))))) ?_)
  refine EN.in_normal (EN.tr ?_)
  refine G.q rfl rfl rfl rfl (q_add_i rfl rfl rfl oM) (G.mv ?_)
  refine G.nil ?_
  rw [← hs]
  exact EN.round (hl := [_, _, _]) ((ls.length) - (k + 1)) oM (⟨k + 1, by omega, rfl, rfl, rfl⟩) sB rfl tK sF
 ·
  obtain rfl : k = ls.length := by omega
  rw [List.take_length]
  refine CG.exit ?_
  refine EN.then_exit (EN.then_exit (EN.in_here ?_))
  refine EN.tsr (G.as ?_)
  refine G.as ?_
  refine G.nil (EN.ts (CG.sr (G.as ?_)))
  refine G.nil (EN.then (CG.block (CG.ownNil 3 1 ?_)))
  refine CG.loopI (fun m L H => ∃ k : Nat, ∃ (u : Value), k ≤ 15 ∧ (∀ n, n < k → 0 ≤ Huff.leftTo ls (n + 1)) ∧ m = (15) - k ∧ L = [(0, .slice (some ⟨g, off, none⟩) ls.length c), (4, .pointer (some ⟨b18, 0, none⟩)), (7, .int .i64 (Huff.leftTo ls k)), (8, .int .i64 (Huff.codesTo ls k)), (9, .int .i64 (k + 1 : Nat))] ∧ H = [cel b18 172 ((.slice ad ls.length c') :: (Huff.cntC (ls) ++ [u])), own 3 1 (.slice ad ls.length c') ls.length (ls.map iv), own 3 1 u (Huff.sortedTo ls k).length ((Huff.sortedTo ls k).map iv), cel g U cs] ++ F) ((15) - 0) (hl := [_, _, _, _]) (⟨0, .slice none 0 0, Nat.zero_le _, (fun n hn => absurd hn (Nat.not_lt_zero n)), rfl, rfl, rfl⟩) sB rfl tK sF ?_
  rintro m L H ⟨k, u, hk, he, rfl, rfl, rfl⟩
  try dsimp only [List.cons_append, List.nil_append]
  have hl := Huff.leftTo_le' ls (n := k) oM
  have hl2 : 0 ≤ Huff.leftTo ls k := by
    cases k with
    | zero => simp [Huff.leftTo]
    | succ n => exact he n oM
  have hcn := Huff.count_le ls (k + 1)
  have hcd := Huff.codesTo_le ls k
  have hcd2 : ls.length * k ≤ 320 * 15 := Nat.mul_le_mul hlen.2 hk
  have hsd := Huff.sortedTo_le ls k
  refine CG.seq (CG.sr (G.mv ?_))
  refine G.q rfl rfl rfl rfl (q_leq rfl rfl rfl) (G.nil (EN.then ?_))
  refine CG.cond rfl (fun h43 => ?_) (fun h43 => ?_)
  ·
   refine CG.skip (EN.ts (CG.block (CG.sr (G.mv ?_))))
   refine G.q rfl rfl rfl rfl (q_mul_i rfl rfl rfl oM) (G.mv ?_)
   refine G.mv ?_
   refine G.np ?_
   refine G.q rfl rfl rfl rfl (q_field0 rfl rfl fo_172_1_F5) (G.q rfl rfl rfl rfl (q_ixarr rfl rfl rfl ae_170_F5 sz_3_F1 oM) (G.r rfl rfl rfl rfl (r_load rfl rfl ag_3_F1 .here (Huff.nth_cnt _ oM)) ?_))
   refine G.q rfl rfl rfl rfl (q_sub_i rfl rfl rfl oM) (G.as ?_)
   refine G.nil (EN.sub (sC 0 (sC 4 (sC 7 (sC 8 (sC 9 Sub.nil))))) ?_)
   refine EN.tsr (G.mv ?_)
   refine G.mv ?_
   refine G.mv ?_
   refine G.np ?_
   refine G.q rfl rfl rfl rfl (q_field0 rfl rfl fo_172_1_F5) (G.q rfl rfl rfl rfl (q_ixarr rfl rfl rfl ae_170_F5 sz_3_F1 oM) (G.r rfl rfl rfl rfl (r_load rfl rfl ag_3_F1 .here (Huff.nth_cnt _ oM)) ?_))
   refine G.q rfl rfl rfl rfl (q_add_i rfl rfl rfl oM) (G.as ?_)
   refine G.nil (EN.ts (CG.sr (G.mv ?_)))
   refine G.q rfl rfl rfl rfl (q_lss rfl rfl rfl) (G.nil (EN.sub (sC 0 (sC 4 (sC 7 (sC 8 (sC 9 (sC 64 Sub.nil)))))) ?_))
   refine EN.then ?_
   refine CG.cond rfl (fun h64 => ?_) (fun h64 => ?_)
   ·
    refine CG.seq ?_
    have hb := Huff.bad_neg (ls := ls) (n := k) oM h64
    refine CG.reg (G.as ?_)
    refine G.as ?_
    refine G.nil (EN.then (CG.ret (EN.then_ret (EN.in_ret ?_))))
    refine EN.then_ret (EN.then_ret (EN.in_ret ?_))
    refine EN.then_ret ?_
    exact fin_ret2 rfl rfl rfl tK sF (.inl ⟨hb, rfl, rfl⟩) _ (.inl rfl)
   ·
    refine CG.skip (EN.tsr (G.mv ?_))
    refine G.q rfl rfl rfl rfl (q_len_sl rfl rfl se_78_F5) (G.mv ?_)
    refine G.nil (EN.then (CG.block ?_))
    rw [← List.append_nil (Huff.sortedTo ls k)]
    refine CG.loopI (fun m L H => ∃ j : Nat, ∃ (u : Value), j ≤ ls.length ∧ m = (ls.length) - j ∧ L = [(0, .slice (some ⟨g, off, none⟩) ls.length c), (4, .pointer (some ⟨b18, 0, none⟩)), (7, .int .i64 (Huff.leftTo ls (k + 1))), (8, .int .i64 (Huff.codesTo ls (k + 1))), (9, .int .i64 (k + 1 : Nat)), (65, .slice (some ⟨g, off, none⟩) ls.length c), (66, .int .i64 ls.length), (67, .int .i64 j)] ∧ H = [cel b18 172 ((.slice ad ls.length c') :: (Huff.cntC (ls) ++ [u])), own 3 1 (.slice ad ls.length c') ls.length (ls.map iv), own 3 1 u (Huff.sortedTo ls k ++ Huff.idxTo ls (k + 1) j).length ((Huff.sortedTo ls k ++ Huff.idxTo ls (k + 1) j).map iv), cel g U cs] ++ F) ((ls.length) - 0) (hl := [_, _, _, _]) (⟨0, u, Nat.zero_le _, rfl, rfl, rfl⟩) sB rfl tK sF ?_
    rintro m L H ⟨j, u, hk, rfl, rfl, rfl⟩
    try dsimp only [List.cons_append, List.nil_append]
    refine CG.sr (G.q rfl rfl rfl rfl (q_lss rfl rfl rfl) (G.nil (EN.ts ?_)))
    refine CG.cond rfl (fun h68 => ?_) (fun h68 => ?_)
    ·
     obtain ⟨x, hc⟩ := get_some (l := ls) (k := j) oM
     have hil := Huff.idxTo_len ls (k + 1) j hk
     have hil2 := Huff.count_le (ls.take j) (k + 1)
     rw [List.length_take] at hil2
     refine CG.skip (EN.ts (CG.block (CG.sr (G.mv ?_))))
     refine G.q rfl rfl rfl rfl (q_ixaddr rfl rfl rfl se_78_F5 sz_3_F1 oM) (G.r rfl rfl rfl rfl (r_load rfl rfl ag_3_F1 (.there (.there (.there .here))) (nth_sliceL hsl (get_iv hc))) ?_)
     refine G.as ?_
     refine G.as ?_
     refine G.nil (EN.tsr (G.mv ?_))
     refine G.mv ?_
     refine G.q rfl rfl rfl rfl (q_eql rfl rfl rfl) (G.nil (EN.then ?_))
     refine CG.cond rfl (fun h74 => ?_) (fun h74 => ?_)
     ·
      have hxk : x = k + 1 := by omega
      have e : (Huff.sortedTo ls k ++ Huff.idxTo ls (k + 1) j) ++ [j] = Huff.sortedTo ls k ++ Huff.idxTo ls (k + 1) (j + 1) := by
        rw [Huff.idxTo_succ, if_pos (by rw [hc, hxk]), List.append_assoc]
      refine CG.reg (G.mv ?_)
      refine G.mv ?_
      refine G.np ?_
      refine G.q rfl rfl rfl rfl (q_field0 rfl rfl fo_172_2_F5) (G.r rfl rfl rfl rfl (r_load rfl rfl ag_78_F5 .here (Huff.nth_cnt17 _)) ?_)
      refine G.mv ?_
      refine G.e rfl rfl rfl rfl (e_bslice rfl rfl (bs_78_1_all_F5 _)) (fun _ _ _ _ _ _ => trivial) ?_
      rintro _ _ ⟨b81, rfl, rfl⟩
      refine G.e rfl rfl rfl rfl (e_append rfl rfl rfl se_78_F5 nf_3_F5 rfl tK1 mB (by rfl) (by simp [Value.oneCell', str]) (by rw [List.length_append]; omega)) (fun _ _ _ _ _ _ => trivial) ?_
      rintro _ _ rfl
      rw [own_snocI, e]
      refine G.ownShape tK1 ?_
      rintro ad2 c2 rfl
      refine G.np ?_
      refine G.q rfl rfl rfl rfl (q_field0 rfl rfl fo_172_2_F5) ?_
      refine G.e0 rfl rfl rfl (e_store rfl rfl rfl sz_78_F5 rfl (Huff.set_cnt17 _) (.there (.there .here))) (fun _ _ _ _ _ _ => trivial) ?_
      rintro _ _ ⟨rfl, rfl⟩
      refine G.nil (EN.sub (sC 0 (sC 4 (sC 7 (sC 8 (sC 9 (sC 65 (sC 66 (sC 67 Sub.nil)))))))) ?_)
      refine EN.in_normal (EN.tr ?_)
      refine G.q rfl rfl rfl rfl (q_add_i rfl rfl rfl oM) (G.mv ?_)
      refine G.nil ?_
      exact EN.round (hl := [_, _, _, _]) ((ls.length) - (j + 1)) oM (⟨j + 1, _, by omega, rfl, rfl, rfl⟩) sB rfl tK sF
     ·
      have hxk : x ≠ k + 1 := by omega
      have e : Huff.idxTo ls (k + 1) j = Huff.idxTo ls (k + 1) (j + 1) := by
        rw [Huff.idxTo_succ, if_neg (by rw [hc]; simpa using hxk)]
      rw [e]
      refine CG.skip (EN.in_normal (EN.tr ?_))
      refine G.q rfl rfl rfl rfl (q_add_i rfl rfl rfl oM) (G.mv ?_)
      refine G.nil ?_
      exact EN.round (hl := [_, _, _, _]) ((ls.length) - (j + 1)) oM (⟨j + 1, _, by omega, rfl, rfl, rfl⟩) sB rfl tK sF
    ·
     obtain rfl : j = ls.length := by omega
     refine CG.exit ?_
     refine EN.then_exit (EN.then_exit (EN.in_here ?_))
     refine EN.in_normal (EN.tr ?_)
     refine G.mv ?_
     refine G.q rfl rfl rfl rfl (q_add_i rfl rfl rfl oM) (G.as ?_)
     refine G.nil ?_
     have hx : ∀ n, n < k + 1 → 0 ≤ Huff.leftTo ls (n + 1) := by
       intro n hn
       rcases Nat.lt_or_ge n k with h1 | h1
       · exact he n h1
       · rw [show n = k by omega]; have h2 := h64; exact Int.not_lt.1 h2
     exact EN.round (hl := [_, _, _, _]) ((15) - (k + 1)) oM (⟨k + 1, _, by omega, hx, rfl, rfl, rfl⟩) sB rfl tK sF
  ·
   obtain rfl : k = 15 := by omega
   refine CG.exit ?_
   refine EN.then_exit (EN.then_exit (EN.in_here ?_))
   refine EN.ts (CG.sr (G.mv ?_))
   refine G.q rfl rfl rfl rfl (q_gtr rfl rfl rfl) (G.mv ?_)
   refine G.split (t := 88) rfl (fun g88 => ?_) (fun g88 => ?_)
   ·
    refine G.mv ?_
    refine G.q rfl rfl rfl rfl (q_gtr rfl rfl rfl) (G.q rfl rfl rfl rfl (q_pick_t rfl rfl rfl) (G.mv ?_))
    refine G.split (t := 92) rfl (fun g92 => ?_) (fun g92 => ?_)
    ·
     refine G.mv ?_
     refine G.q rfl rfl rfl rfl (q_eql rfl rfl rfl) (G.mv ?_)
     refine G.split (t := 95) rfl (fun g95 => ?_) (fun g95 => ?_)
     ·
      refine G.mv ?_
      refine G.np ?_
      refine G.q rfl rfl rfl rfl (q_field0 rfl rfl fo_172_1_F5) (G.q rfl rfl rfl rfl (q_ixarr rfl rfl rfl ae_170_F5 sz_3_F1 (by decide)) (G.r rfl rfl rfl rfl (r_load rfl rfl ag_3_F1 .here (Huff.nth_cnt (i := 1) _ oM)) ?_))
      refine G.q rfl rfl rfl rfl (q_eql rfl rfl rfl) (G.q rfl rfl rfl rfl (q_pick_t rfl rfl rfl) (G.q rfl rfl rfl rfl (q_not rfl rfl) (G.q rfl rfl rfl rfl (q_pick_t rfl rfl rfl) (G.nil (EN.sub (sC 4 (sC 104 Sub.nil)) ?_)))))
      refine EN.then ?_
      refine CG.condB rfl (fun h104 => ?_) (fun h104 => ?_)
      ·
       have h104b : ¬ ls.count 1 = 1 := by simp at h104; omega
       refine CG.seq ?_
       have hb : Huff.bad ls = true := by rw [Huff.bad_end he]; simp; omega
       refine CG.reg (G.as ?_)
       refine G.as ?_
       refine G.nil (EN.then (CG.ret (EN.then_ret ?_)))
       exact fin_ret2 rfl rfl rfl tK sF (.inl ⟨hb, rfl, rfl⟩) _ (.inl rfl)
      ·
       have h104b : ls.count 1 = 1 := by simp at h104; omega
       refine CG.skip (EN.ts ?_)
       have hb : Huff.bad ls = false := by rw [Huff.bad_end he]; simp; omega
       refine CG.closeS (TabP b18 ls) (.slice ad ls.length c', u) tK ?_
       refine CG.reg (G.mv ?_)
       refine G.as ?_
       refine G.as ?_
       refine G.nil (EN.then (CG.ret ?_))
       exact fin_ret2 rfl rfl rfl tK sF (.inr ⟨hb, b18, rfl, rfl⟩) _ (.inl rfl)
     ·
      refine G.skip rfl rfl rfl (G.skip rfl rfl rfl (G.skip rfl rfl rfl (G.skip rfl rfl rfl (G.skip rfl rfl rfl (G.skip rfl rfl rfl ?_)))))
      refine G.q rfl rfl rfl rfl (q_pick_f rfl rfl rfl) (G.q rfl rfl rfl rfl (q_not rfl rfl) (G.q rfl rfl rfl rfl (q_pick_t rfl rfl rfl) (G.nil (EN.sub (sC 4 (sC 104 Sub.nil)) ?_))))
      refine EN.then (CG.cond_t rfl ?_)
      refine CG.seq ?_
      have hb : Huff.bad ls = true := by rw [Huff.bad_end he]; simp; omega
      refine CG.reg (G.as ?_)
      refine G.as ?_
      refine G.nil (EN.then (CG.ret (EN.then_ret ?_)))
      exact fin_ret2 rfl rfl rfl tK sF (.inl ⟨hb, rfl, rfl⟩) _ (.inl rfl)
    ·
     refine G.skip rfl rfl rfl (G.skip rfl rfl rfl (G.skip rfl rfl rfl (G.skip rfl rfl rfl (G.skip rfl rfl rfl (G.skip rfl rfl rfl ?_)))))
     refine G.skip rfl rfl rfl (G.skip rfl rfl rfl (G.skip rfl rfl rfl (G.skip rfl rfl rfl (G.skip rfl rfl rfl (G.q rfl rfl rfl rfl (q_pick_f rfl rfl rfl) ?_)))))
     refine G.nil (EN.sub (sC 4 (sC 104 Sub.nil)) ?_)
     refine EN.then (CG.cond_f rfl ?_)
     refine CG.skip (EN.ts ?_)
     have hb : Huff.bad ls = false := by rw [Huff.bad_end he]; simp; omega
     refine CG.closeS (TabP b18 ls) (.slice ad ls.length c', u) tK ?_
     refine CG.reg (G.mv ?_)
     refine G.as ?_
     refine G.as ?_
     refine G.nil (EN.then (CG.ret ?_))
     exact fin_ret2 rfl rfl rfl tK sF (.inr ⟨hb, b18, rfl, rfl⟩) _ (.inl rfl)
   ·
    refine G.skip rfl rfl rfl (G.skip rfl rfl rfl (G.q rfl rfl rfl rfl (q_pick_f rfl rfl rfl) (G.mv ?_)))
    refine G.skip rfl rfl rfl (G.skip rfl rfl rfl (G.skip rfl rfl rfl (G.skip rfl rfl rfl (G.skip rfl rfl rfl (G.skip rfl rfl rfl ?_)))))
    refine G.skip rfl rfl rfl (G.skip rfl rfl rfl (G.skip rfl rfl rfl (G.skip rfl rfl rfl (G.skip rfl rfl rfl (G.q rfl rfl rfl rfl (q_pick_f rfl rfl rfl) ?_)))))
    refine G.nil (EN.sub (sC 4 (sC 104 Sub.nil)) ?_)
    refine EN.then (CG.cond_f rfl ?_)
    refine CG.skip (EN.ts ?_)
    have hb : Huff.bad ls = false := by rw [Huff.bad_end he]; simp; omega
    refine CG.closeS (TabP b18 ls) (.slice ad ls.length c', u) tK ?_
    refine CG.reg (G.mv ?_)
    refine G.as ?_
    refine G.as ?_
    refine G.nil (EN.then (CG.ret ?_))
    exact fin_ret2 rfl rfl rfl tK sF (.inr ⟨hb, b18, rfl, rfl⟩) _ (.inl rfl)

attribute [local irreducible] cel own exS Huff.sorted Huff.cntC

set_option maxRecDepth 100000 in
set_option maxHeartbeats 1000000 in
theorem hread_spec (b rb : Nat) (ls : List Nat) (r : RD) (hr : r.Ok) (hlen : ls.length ≤ 320) : Spec Tryz.prog 106 #[.pointer (some ⟨b, 0, none⟩), .pointer (some ⟨rb, 0, none⟩)] [TabAt b ls, RdAt rb r] (Ret fun v hl => v = .tuple #[.int .i64 (Huff.read ls r).2.1, .int .i64 (Huff.read ls r).2.2] ∧ hl = [TabAt b ls, RdAt rb (Huff.read ls r).1]) := by
 refine Spec.enter Tryz.func106 rfl rfl rfl (fun F w0 => ?_)
 dsimp only [argL, List.cons_append, List.nil_append]
 refine CG.seq ?_
 refine CG.openS (TabP b ls) tK1 (fun p => ?_)
 obtain ⟨v, u⟩ := p
 unfold TabP
 dsimp only [List.cons_append, List.nil_append]
 refine CG.ownShape u tK1 (fun ad c2 hu => ?_)
 subst hu
 refine CG.reg (G.as ?_)
 refine G.as ?_
 refine G.nil (EN.ts (CG.sr (G.mv ?_)))
 refine G.np ?_
 refine G.q rfl rfl rfl rfl (q_field0 rfl rfl fo_172_2_F5) (G.r rfl rfl rfl rfl (r_load rfl rfl ag_78_F5 .here (Huff.nth_cnt17 _)) ?_)
 refine G.q rfl rfl rfl rfl (q_len_sl rfl rfl se_78_F5) (G.q rfl rfl rfl rfl (q_eql rfl rfl rfl) (G.nil (EN.then ?_)))
 refine CG.cond rfl (fun h18 => ?_) (fun h18 => ?_)
 ·
  have hE : Huff.read ls r = (r, 0, 3) := if_pos oM
  refine CG.sr (G.as ?_)
  refine G.as ?_
  refine G.nil (EN.then (CG.ret (EN.then_ret ?_)))
  skip
  refine EN.closeS (TabP b ls) (v, _) tK ?_
  rw [hE]
  try dsimp only
  exact fin_ret2 rfl rfl rfl tK sF (⟨rfl, rfl⟩) _ (.inl rfl)
 ·
  have hE0 : Huff.read ls r = Huff.readGo ls (Huff.sorted ls) 15 1 0 0 0 r := if_neg oM
  refine CG.skip (EN.tsr (G.as ?_))
  refine G.as ?_
  refine G.as ?_
  refine G.nil (EN.ts (CG.sr (G.as ?_)))
  refine G.nil (EN.then (CG.block (CG.loopI (fun m L H => ∃ (k code first att : Nat) (q : RD), q.Ok ∧ Huff.readGo ls (Huff.sorted ls) (15 - k) (k + 1) code first att q = Huff.readGo ls (Huff.sorted ls) 15 1 0 0 0 r ∧ first ≤ 2 * code ∧ code + 1 ≤ 2 ^ k ∧ att = (Huff.sortedTo ls k).length ∧ k ≤ 15 ∧ m = 15 - k ∧ L = [(0, .pointer (some ⟨b, 0, none⟩)), (1, .pointer (some ⟨rb, 0, none⟩)), (6, .int .i64 code), (7, .int .i64 first), (8, .int .i64 att), (9, .int .i64 (k + 1 : Nat))] ∧ H = [cel b 172 (v :: (Huff.cntC ls ++ [(.slice ad (Huff.sorted ls).length c2)])), own 3 1 v ls.length (ls.map iv), own 3 1 (.slice ad (Huff.sorted ls).length c2) (Huff.sorted ls).length ((Huff.sorted ls).map iv), RdAt rb q] ++ F) (15) (hl := [_, _, _, _]) (⟨0, 0, 0, 0, r, hr, rfl, by omega, by decide, rfl, by omega, rfl, rfl, rfl⟩) sB rfl tK sF ?_)))
  rintro m L H ⟨k, code, first, att, q, hq, hgo, hfc, hcp, hat, hk, rfl, rfl, rfl⟩
  try dsimp only [List.cons_append, List.nil_append]
  refine CG.seq (CG.sr (G.mv ?_))
  refine G.q rfl rfl rfl rfl (q_leq rfl rfl rfl) (G.nil (EN.then ?_))
  refine CG.cond rfl (fun h20 => ?_) (fun h20 => ?_)
  ·
   have hp15 : 2 ^ k ≤ 2 ^ 14 := Nat.pow_le_pow_right oM oM
   rw [show 15 - k = (15 - (k + 1)) + 1 by omega, Huff.readGo] at hgo
   have hx := RD.bits_lt q 1
   have hcn := Huff.count_le ls (k + 1)
   have hs1 := Huff.sortedTo_len_succ ls k
   have hs2 := Huff.sortedTo_mono ls (a := k + 1) (b := 15) oM
   have hs3 := Huff.sortedTo_le ls 15
   have hS : (Huff.sorted ls).length = (Huff.sortedTo ls 15).length := by unfold Huff.sorted; rfl
   have hql : (q.bits 1).1.Ok := RD.bits_ok hq oM
   refine CG.skip (EN.ts (CG.block (CG.sr (G.mv ?_))))
   refine G.call (xs := [_, _]) rfl rfl (rbits_spec rb q 1 hq oM) bd_103_F5 rfl rfl rfl rfl tK (fun _ _ _ _ _ _ => trivial) ?_
   rintro _ _ ⟨rfl, rfl⟩
   try dsimp only [List.cons_append, List.nil_append]
   refine G.mv ?_
   refine G.q rfl rfl rfl rfl (q_extract rfl rfl rfl) (G.q rfl rfl rfl rfl (q_extract rfl rfl rfl) (G.as ?_))
   refine G.as ?_
   refine G.nil (EN.ts (CG.sr (G.mv ?_)))
   refine G.q rfl rfl rfl rfl (q_not rfl rfl) (G.nil (EN.sub (sC 0 (sC 1 (sC 6 (sC 7 (sC 8 (sC 9 (sC 10 (sC 29 Sub.nil)))))))) ?_))
   refine EN.then ?_
   refine CG.condB rfl (fun h29 => ?_) (fun h29 => ?_)
   ·
    have h29b : (q.bits 1).2.2 = false := by simpa using h29
    rw [if_pos h29b] at hgo
    have hE := hE0.trans hgo.symm
    refine CG.sr (G.as ?_)
    refine G.as ?_
    refine G.nil (EN.then (CG.ret (EN.then_ret (EN.in_ret ?_))))
    refine EN.then_ret (EN.then_ret (EN.in_ret ?_))
    refine EN.then_ret ?_
    skip
    refine EN.closeS (TabP b ls) (v, _) tK ?_
    rw [hE]
    try dsimp only
    exact fin_ret2 rfl rfl rfl tK sF (⟨rfl, rfl⟩) _ (.inl rfl)
   ·
    have h29b : ¬ (q.bits 1).2.2 = false := by simpa using h29
    rw [if_neg h29b] at hgo
    have e31 : (code : Int) * 2 + ((q.bits 1).2.1 : Nat) = ((code * 2 + (q.bits 1).2.1 : Nat) : Int) := by omega
    refine CG.skip (EN.tsr (G.mv ?_))
    refine G.q rfl rfl rfl rfl (q_shlcw (d := 2) rfl rfl rfl (by decide) (by decide) lOm lOm) (G.mv ?_)
    refine G.q rfl rfl rfl rfl (q_conv_in rfl rfl is_28_F2 ik_3_F5 (wrap64_in oM)) (G.q rfl rfl rfl rfl (q_ord (j := 1) (d := 2) rfl rfl rfl (by decide) lOm lOm lOm (by decide)) (G.as ?_))
    refine G.nil (EN.ts (CG.sr (G.mv ?_)))
    refine G.mv ?_
    refine G.q rfl rfl rfl rfl (q_sub_i rfl rfl rfl oM) (G.as ?_)
    refine G.nil (EN.sub (sC 0 (sC 1 (sC 6 (sC 7 (sC 8 (sC 9 (sC 12 Sub.nil))))))) ?_)
    refine EN.tsr (G.mv ?_)
    refine G.mv ?_
    refine G.mv ?_
    refine G.np ?_
    refine G.q rfl rfl rfl rfl (q_field0 rfl rfl fo_172_1_F5) (G.q rfl rfl rfl rfl (q_ixarr rfl rfl rfl ae_170_F5 sz_3_F1 oM) (G.r rfl rfl rfl rfl (r_load rfl rfl ag_3_F1 (.there .here) (Huff.nth_cnt _ oM)) ?_))
    refine G.q rfl rfl rfl rfl (q_lss rfl rfl rfl) (G.nil (EN.then ?_))
    refine CG.cond rfl (fun h45 => ?_) (fun h45 => ?_)
    ·
     rw [if_pos oM] at hgo
     have hE := hE0.trans hgo.symm
     have e52 : (att : Int) + ((code : Int) * 2 + ((q.bits 1).2.1 : Nat) - first) = ((att + (code * 2 + (q.bits 1).2.1 - first) : Nat) : Int) := by omega
     refine CG.openOwn (v := (.slice ad (Huff.sorted ls).length c2)) tK1 oM (fun g cap cur hu hcap hmx hcl hct => ?_)
     cases hu
     refine CG.sr (G.mv ?_)
     refine G.np ?_
     refine G.q rfl rfl rfl rfl (q_field0 rfl rfl fo_172_2_F5) (G.r rfl rfl rfl rfl (r_load rfl rfl ag_78_F5 (.there (.there .here)) (Huff.nth_cnt17 _)) ?_)
     refine G.mv ?_
     refine G.mv ?_
     refine G.q rfl rfl rfl rfl (q_add_i rfl rfl rfl oM) ?_
     rw [e52]
     refine G.q rfl rfl rfl rfl (q_ixaddr1 rfl rfl rfl se_78_F5 sz_3_F1 oM) (G.r rfl rfl rfl rfl (r_load rfl rfl ag_3_F1 .here (nth_take hct (get_iv (getD_iv oM)))) ?_)
     refine G.as ?_
     refine G.as ?_
     refine G.nil (EN.sub (sC 0 (sC 1 (sC 4 (sC 5 (sC 6 (sC 7 (sC 8 (sC 9 Sub.nil)))))))) ?_)
     refine EN.then (CG.ret (EN.then_ret (EN.in_ret ?_)))
     refine EN.then_ret (EN.then_ret (EN.in_ret ?_))
     refine EN.then_ret (EN.closeOwn (g := g) tK1 hcap hmx hcl hct ?_)
     refine EN.closeS (TabP b ls) (v, _) tK ?_
     rw [hE]
     try dsimp only
     exact fin_ret2 rfl rfl rfl tK sF (⟨rfl, rfl⟩) _ (.inl rfl)
    ·
     rw [if_neg oM] at hgo
     have e71 : ((first : Int) + (ls.count (k + 1) : Nat)) * 2 = (((first + ls.count (k + 1)) * 2 : Nat) : Int) := by omega
     have e8 : (att : Int) + (ls.count (k + 1) : Nat) = ((att + ls.count (k + 1) : Nat) : Int) := by omega
     refine CG.skip (EN.tsr (G.mv ?_))
     refine G.mv ?_
     refine G.mv ?_
     refine G.np ?_
     refine G.q rfl rfl rfl rfl (q_field0 rfl rfl fo_172_1_F5) (G.q rfl rfl rfl rfl (q_ixarr rfl rfl rfl ae_170_F5 sz_3_F1 oM) (G.r rfl rfl rfl rfl (r_load rfl rfl ag_3_F1 (.there .here) (Huff.nth_cnt _ oM)) ?_))
     refine G.q rfl rfl rfl rfl (q_add_i rfl rfl rfl oM) (G.as ?_)
     refine G.nil (EN.sub (sC 0 (sC 1 (sC 6 (sC 7 (sC 8 (sC 9 Sub.nil)))))) ?_)
     refine EN.tsr (G.mv ?_)
     refine G.mv ?_
     refine G.mv ?_
     refine G.np ?_
     refine G.q rfl rfl rfl rfl (q_field0 rfl rfl fo_172_1_F5) (G.q rfl rfl rfl rfl (q_ixarr rfl rfl rfl ae_170_F5 sz_3_F1 oM) (G.r rfl rfl rfl rfl (r_load rfl rfl ag_3_F1 (.there .here) (Huff.nth_cnt _ oM)) ?_))
     refine G.q rfl rfl rfl rfl (q_add_i rfl rfl rfl oM) (G.q rfl rfl rfl rfl (q_shlcw (d := 2) rfl rfl rfl (by decide) (by decide) lOm lOm) (G.as ?_))
     refine G.nil (EN.sub (sC 0 (sC 1 (sC 6 (sC 7 (sC 8 (sC 9 Sub.nil)))))) ?_)
     refine EN.tsr (G.mv ?_)
     refine G.mv ?_
     refine G.np ?_
     refine G.q rfl rfl rfl rfl (q_field0 rfl rfl fo_172_2_F5) (G.r rfl rfl rfl rfl (r_load rfl rfl ag_78_F5 (.there .here) (Huff.nth_cnt17 _)) ?_)
     refine G.q rfl rfl rfl rfl (q_len_sl rfl rfl se_78_F5) (G.q rfl rfl rfl rfl (q_eql rfl rfl rfl) (G.nil (EN.then ?_)))
     refine CG.cond rfl (fun h78 => ?_) (fun h78 => ?_)
     ·
      rw [if_pos oM] at hgo
      have hE := hE0.trans hgo.symm
      refine CG.exit ?_
      refine EN.in_exit rfl ?_
      refine EN.then_exit (EN.then_exit (EN.in_here ?_))
      refine EN.tsr (G.as ?_)
      refine G.as ?_
      refine G.nil (EN.sub (sC 4 (sC 5 Sub.nil)) ?_)
      refine EN.then (CG.ret ?_)
      skip
      refine EN.closeS (TabP b ls) (v, _) tK ?_
      rw [hE]
      try dsimp only
      exact fin_ret2 rfl rfl rfl tK sF (⟨rfl, rfl⟩) _ (.inl rfl)
     ·
      rw [if_neg oM] at hgo
      refine CG.skip (EN.in_normal (EN.tr ?_))
      refine G.mv ?_
      refine G.q rfl rfl rfl rfl (q_add_i rfl rfl rfl oM) (G.as ?_)
      refine G.nil ?_
      rw [e31, e71, e8]
      exact EN.round (hl := [_, _, _, _]) (15 - (k + 1)) oM (⟨k + 1, _, _, _, _, RD.bits_ok hq oM, hgo, by omega, by rw [Nat.pow_succ]; omega, by rw [Huff.sortedTo_len_succ]; omega, by omega, rfl, rfl, rfl⟩) sB rfl tK sF
  ·
   obtain rfl : k = 15 := by omega
   rw [show 15 - 15 = 0 from rfl, Huff.readGo] at hgo
   have hE := hE0.trans hgo.symm
   refine CG.exit ?_
   refine EN.then_exit (EN.then_exit (EN.in_here ?_))
   refine EN.tsr (G.as ?_)
   refine G.as ?_
   refine G.nil (EN.then (CG.ret ?_))
   skip
   refine EN.closeS (TabP b ls) (v, _) tK ?_
   rw [hE]
   try dsimp only
   exact fin_ret2 rfl rfl rfl tK sF (⟨rfl, rfl⟩) _ (.inl rfl)

def codeV (p : Nat × Nat) : Value := .tuple #[.int .u32 p.1, .int .i64 p.2]

set_option maxRecDepth 100000 in
set_option maxHeartbeats 1000000 in
theorem hcode_spec (b : Nat) (ls : List Nat) (sym l : Nat) (hlen : ls.length ≤ 320) (hS : 0 < (Huff.sorted ls).length) (hsym : ls[sym]? = some l) (hl : 0 < l) : Spec Tryz.prog 93 #[.pointer (some ⟨b, 0, none⟩), .int .i64 sym] [TabAt b ls] (Ret fun v hl => v = codeV (Huff.code ls sym) ∧ hl = [TabAt b ls]) := by
 obtain ⟨hsl, _⟩ := List.getElem?_eq_some_iff.1 hsym
 refine Spec.enter Tryz.func93 rfl rfl rfl (fun F w0 => ?_)
 dsimp only [argL, List.cons_append, List.nil_append]
 refine CG.seq ?_
 refine CG.openS (TabP b ls) tK1 (fun p => ?_)
 obtain ⟨v, u⟩ := p
 unfold TabP
 dsimp only [List.cons_append, List.nil_append]
 refine CG.openOwn (v := v) tK1 oM (fun gv cv xv hv hcv hmv hlv htv => ?_)
 cases hv
 refine CG.openOwn (v := u) tK1 hS (fun gu cu xu hu hcu hmu hlu htu => ?_)
 cases hu
 refine CG.reg (G.as ?_)
 refine G.as ?_
 refine G.nil (EN.ts (CG.sr (G.mv ?_)))
 refine G.q rfl rfl rfl rfl (q_lss rfl rfl rfl) (G.mv ?_)
 refine G.split (t := 11) rfl (fun g11 => absurd g11 oM) (fun g11 => ?_)
 refine G.mv ?_
 refine G.mv ?_
 refine G.np ?_
 refine G.q rfl rfl rfl rfl (q_field0 rfl rfl fo_172_0_F5) (G.ld ag_78_F5 ?_)
 refine G.q rfl rfl rfl rfl (q_len_sl rfl rfl se_78_F5) (G.q rfl rfl rfl rfl (q_geq rfl rfl rfl) (G.q rfl rfl rfl rfl (q_pick_f rfl rfl rfl) (G.mv ?_)))
 refine G.split (t := 20) rfl (fun g20 => absurd g20 oM) (fun g20 => ?_)
 refine G.mv ?_
 refine G.np ?_
 refine G.q rfl rfl rfl rfl (q_field0 rfl rfl fo_172_0_F5) (G.ld ag_78_F5 ?_)
 refine G.mv ?_
 refine G.q rfl rfl rfl rfl (q_ixaddr1 rfl rfl rfl se_78_F5 sz_3_F1 oM) (G.r rfl rfl rfl rfl (r_load rfl rfl ag_3_F1 (.there .here) (nth_take htv (get_iv hsym))) ?_)
 refine G.q rfl rfl rfl rfl (q_eql rfl rfl rfl) (G.q rfl rfl rfl rfl (q_pick_f rfl rfl rfl) (G.nil (EN.sub (sC 0 (sC 1 (sC 4 (sC 5 (sC 29 Sub.nil))))) ?_)))
 refine EN.then ?_
 refine CG.cond rfl (fun h29 => absurd h29 oM) (fun h29 => ?_)
 refine CG.skip (EN.tsr (G.as ?_))
 refine G.as ?_
 refine G.nil (EN.ts (CG.sr (G.as ?_)))
 refine G.nil (EN.then (CG.block (CG.loopI (fun m L H => ∃ (k code att : Nat), Huff.codeGo ls (Huff.sorted ls) sym (15 - k) (k + 1) code att = Huff.codeGo ls (Huff.sorted ls) sym 15 1 0 0 ∧ code + 320 ≤ 320 * 2 ^ k ∧ att = (Huff.sortedTo ls k).length ∧ k ≤ 15 ∧ m = 15 - k ∧ L = [(0, .pointer (some ⟨b, 0, none⟩)), (1, .int .i64 sym), (6, .int .u32 code), (7, .int .i64 att), (8, .int .i64 (k + 1 : Nat))] ∧ H = [cel b 172 (.slice (some ⟨gv, 0, none⟩) ls.length cv :: (Huff.cntC ls ++ [.slice (some ⟨gu, 0, none⟩) (Huff.sorted ls).length cu])), cel gv 3 xv, cel gu 3 xu] ++ F) (15) (hl := [_, _, _]) (⟨0, 0, 0, rfl, by decide, rfl, by omega, rfl, rfl, rfl⟩) sB rfl tK sF ?_)))
 rintro m L H ⟨k, code, att, hgo, hcp, hat, hk, rfl, rfl, rfl⟩
 try dsimp only [List.cons_append, List.nil_append]
 refine CG.seq (CG.sr (G.mv ?_))
 refine G.q rfl rfl rfl rfl (q_leq rfl rfl rfl) (G.nil (EN.then ?_))
 refine CG.cond rfl (fun h31 => ?_) (fun h31 => ?_)
 ·
  have hp15 : 2 ^ k ≤ 2 ^ 14 := Nat.pow_le_pow_right oM oM
  rw [show 15 - k = (15 - (k + 1)) + 1 by omega, Huff.codeGo] at hgo
  have hcn := Huff.count_le ls (k + 1)
  have hs1 := Huff.sortedTo_len_succ ls k
  have hs2 := Huff.sortedTo_mono ls (a := k + 1) (b := 15) oM
  have hs3 := Huff.sortedTo_le ls 15
  have hSl : (Huff.sorted ls).length = (Huff.sortedTo ls 15).length := by unfold Huff.sorted; rfl
  have e6 : (code : Int) * 2 = ((2 * code + 0 : Nat) : Int) := by omega
  refine CG.skip (EN.ts (CG.block (CG.sr (G.mv ?_))))
  refine G.q rfl rfl rfl rfl (q_shlcw (d := 2) rfl rfl rfl (by decide) (by decide) lOm lOm) (G.as ?_)
  refine G.nil (EN.tsr (G.mv ?_))
  refine G.mv ?_
  refine G.np ?_
  refine G.q rfl rfl rfl rfl (q_field0 rfl rfl fo_172_1_F5) (G.q rfl rfl rfl rfl (q_ixarr rfl rfl rfl ae_170_F5 sz_3_F1 oM) (G.r rfl rfl rfl rfl (r_load rfl rfl ag_3_F1 .here (Huff.nth_cnt _ oM)) ?_))
  refine G.mv ?_
  refine G.nil (EN.sub (sC 0 (sC 1 (sC 6 (sC 7 (sC 8 (sC 41 (sC 42 Sub.nil))))))) ?_)
  refine EN.then (CG.block ?_)
  rw [e6]
  refine CG.loopI (fun m L H => ∃ j : Nat, j ≤ ls.count (k + 1) ∧ (Huff.codeRow (Huff.sorted ls) sym (ls.count (k + 1) - j) (2 * code + j) (att + j) = Huff.codeRow (Huff.sorted ls) sym (ls.count (k + 1)) (2 * code) att) ∧ m = (ls.count (k + 1)) - j ∧ L = [(0, .pointer (some ⟨b, 0, none⟩)), (1, .int .i64 sym), (6, .int .u32 (2 * code + j : Nat)), (7, .int .i64 (att + j : Nat)), (8, .int .i64 (k + 1 : Nat)), (41, .int .i64 (ls.count (k + 1) : Nat)), (42, .int .i64 j)] ∧ H = [cel b 172 (.slice (some ⟨gv, 0, none⟩) ls.length cv :: (Huff.cntC ls ++ [.slice (some ⟨gu, 0, none⟩) (Huff.sorted ls).length cu])), cel gv 3 xv, cel gu 3 xu] ++ F) ((ls.count (k + 1)) - 0) (hl := [_, _, _]) (⟨0, Nat.zero_le _, rfl, rfl, rfl, rfl⟩) sB rfl tK sF ?_
  rintro m L H ⟨j, hk, hrow, rfl, rfl, rfl⟩
  try dsimp only [List.cons_append, List.nil_append]
  refine CG.sr (G.q rfl rfl rfl rfl (q_lss rfl rfl rfl) (G.nil (EN.ts ?_)))
  refine CG.cond rfl (fun h43 => ?_) (fun h43 => ?_)
  ·
   rw [show ls.count (k + 1) - j = (ls.count (k + 1) - (j + 1)) + 1 by omega, Huff.codeRow, getD_iv (i := att + j) oM] at hrow
   refine CG.skip (EN.ts (CG.block (CG.seq (CG.sr (G.mv ?_)))))
   refine G.np ?_
   refine G.q rfl rfl rfl rfl (q_field0 rfl rfl fo_172_2_F5) (G.r rfl rfl rfl rfl (r_load rfl rfl ag_78_F5 .here (Huff.nth_cnt17 _)) ?_)
   refine G.mv ?_
   refine G.q rfl rfl rfl rfl (q_ixaddr1 rfl rfl rfl se_78_F5 sz_3_F1 oM) (G.r rfl rfl rfl rfl (r_load rfl rfl ag_3_F1 (.there (.there .here)) (nth_take htu (get_iv (getD_iv oM)))) ?_)
   refine G.mv ?_
   refine G.q rfl rfl rfl rfl (q_eql rfl rfl rfl) (G.nil (EN.sub (sC 0 (sC 1 (sC 6 (sC 7 (sC 8 (sC 41 (sC 42 (sC 52 Sub.nil)))))))) ?_))
   refine EN.then ?_
   refine CG.cond rfl (fun h52 => ?_) (fun h52 => ?_)
   ·
    rw [if_pos (by rw [show (Huff.sorted ls).getD (att + j) 0 = sym by omega])] at hrow
    rw [← hrow] at hgo
    dsimp only at hgo
    have hE : Huff.code ls sym = (2 * code + j, k + 1) := hgo.symm
    refine CG.sr (G.mv ?_)
    refine G.mv ?_
    refine G.as ?_
    refine G.as ?_
    refine G.nil (EN.then (CG.ret (EN.then_ret (EN.in_ret ?_))))
    refine EN.then_ret (EN.then_ret (EN.in_ret ?_))
    refine EN.in_ret ?_
    refine EN.then_ret (EN.then_ret (EN.in_ret ?_))
    refine EN.then_ret (EN.closeOwn (g := gv) tK1 hcv hmv hlv htv ?_)
    refine EN.closeOwn (g := gu) tK1 hcu hmu hlu htu ?_
    refine EN.closeS (TabP b ls) (_, _) tK ?_
    rw [hE]
    unfold codeV
    try dsimp only
    exact fin_ret2 rfl rfl rfl tK sF (⟨rfl, rfl⟩) _ (.inl rfl)
   ·
    rw [if_neg (fun e => h52 (by rw [Option.some.inj e]))] at hrow
    refine CG.skip (EN.tsr (G.mv ?_))
    refine G.q rfl rfl rfl rfl (q_addw rfl rfl rfl lOm lOm) (G.as ?_)
    refine G.nil (EN.tr ?_)
    refine G.mv ?_
    refine G.q rfl rfl rfl rfl (q_add_i rfl rfl rfl oM) (G.as ?_)
    refine G.nil (EN.in_normal (EN.tr ?_))
    refine G.q rfl rfl rfl rfl (q_add_i rfl rfl rfl oM) (G.mv ?_)
    refine G.nil ?_
    exact EN.round (hl := [_, _, _]) ((ls.count (k + 1)) - (j + 1)) oM (⟨j + 1, by omega, hrow, rfl, rfl, rfl⟩) sB rfl tK sF
  ·
   obtain rfl : j = ls.count (k + 1) := by omega
   rw [Nat.sub_self, Huff.codeRow] at hrow
   rw [← hrow] at hgo
   dsimp only at hgo
   refine CG.exit ?_
   refine EN.then_exit (EN.then_exit (EN.in_here ?_))
   refine EN.in_normal (EN.tr ?_)
   refine G.mv ?_
   refine G.q rfl rfl rfl rfl (q_add_i rfl rfl rfl oM) (G.as ?_)
   refine G.nil ?_
   exact EN.round (hl := [_, _, _]) (15 - (k + 1)) oM (⟨k + 1, _, _, hgo, by rw [Nat.pow_succ]; omega, by rw [Huff.sortedTo_len_succ]; omega, by omega, rfl, rfl, rfl⟩) sB rfl tK sF
 ·
  obtain rfl : k = 15 := by omega
  rw [show 15 - 15 = 0 from rfl, Huff.codeGo] at hgo
  have hE : Huff.code ls sym = (0, 0) := hgo.symm
  refine CG.exit ?_
  refine EN.then_exit (EN.then_exit (EN.in_here ?_))
  refine EN.tsr (G.as ?_)
  refine G.as ?_
  refine G.nil (EN.then (CG.ret (EN.closeOwn (g := gv) tK1 hcv hmv hlv htv ?_)))
  refine EN.closeOwn (g := gu) tK1 hcu hmu hlu htu ?_
  refine EN.closeS (TabP b ls) (_, _) tK ?_
  rw [hE]
  unfold codeV
  try dsimp only
  exact fin_ret2 rfl rfl rfl tK sF (⟨rfl, rfl⟩) _ (.inl rfl)

end Go.Eng
/-
  RFC 1951 read (inflate): each function's contract.
-/
set_option linter.unusedVariables false
set_option linter.unusedSimpArgs false
namespace Go.Eng
open Go.Proofs
theorem ag_116_F6 : aggB Tryz.prog 116 = some false := by kernel_rfl
theorem ag_175_F6 : aggB Tryz.prog 175 = some true := by kernel_rfl
theorem ag_5_F6 : aggB Tryz.prog 5 = some false := by kernel_rfl
theorem bd_106_F6 : bodied Tryz.prog 106 = true := by kernel_rfl
theorem bd_107_F6 : bodied Tryz.prog 107 = true := by kernel_rfl
theorem bd_115_F6 : bodied Tryz.prog 115 = true := by kernel_rfl
theorem bd_121_F6 : bodied Tryz.prog 121 = true := by kernel_rfl
theorem bd_122_F6 : bodied Tryz.prog 122 = true := by kernel_rfl
theorem bd_123_F6 : bodied Tryz.prog 123 = true := by kernel_rfl
theorem bd_96_F6 : bodied Tryz.prog 96 = true := by kernel_rfl
theorem bd_97_F6 : bodied Tryz.prog 97 = true := by kernel_rfl
theorem bu_175_0_1_2_3_4_5_6_7_8_9_10_11_12_13_14_15_16_17_18_F6 : ∀ (x0 : Int) (x1 : Int) (x2 : Int) (x3 : Int) (x4 : Int) (x5 : Int) (x6 : Int) (x7 : Int) (x8 : Int) (x9 : Int) (x10 : Int) (x11 : Int) (x12 : Int) (x13 : Int) (x14 : Int) (x15 : Int) (x16 : Int) (x17 : Int) (x18 : Int) (w : World), (Instr.build 175 [(0, .int .i64 x0), (1, .int .i64 x1), (2, .int .i64 x2), (3, .int .i64 x3), (4, .int .i64 x4), (5, .int .i64 x5), (6, .int .i64 x6), (7, .int .i64 x7), (8, .int .i64 x8), (9, .int .i64 x9), (10, .int .i64 x10), (11, .int .i64 x11), (12, .int .i64 x12), (13, .int .i64 x13), (14, .int .i64 x14), (15, .int .i64 x15), (16, .int .i64 x16), (17, .int .i64 x17), (18, .int .i64 x18)].toArray).run Tryz.prog w = .ok (.agg [.int .i64 x0, .int .i64 x1, .int .i64 x2, .int .i64 x3, .int .i64 x4, .int .i64 x5, .int .i64 x6, .int .i64 x7, .int .i64 x8, .int .i64 x9, .int .i64 x10, .int .i64 x11, .int .i64 x12, .int .i64 x13, .int .i64 x14, .int .i64 x15, .int .i64 x16, .int .i64 x17, .int .i64 x18].toArray) w := fun _ _ _ _ _ _ _ _ _ _ _ _ _ _ _ _ _ _ _ _ => by kernel_rfl
theorem fo_119_0_F6 : fieldOff Tryz.prog 119 0 = some 0 := by kernel_rfl
theorem fo_119_1_F6 : fieldOff Tryz.prog 119 1 = some 1 := by kernel_rfl
theorem fo_119_2_F6 : fieldOff Tryz.prog 119 2 = some 2 := by kernel_rfl
theorem ik_3_F6 : intK Tryz.prog 3 = some .i64 := by kernel_rfl
theorem sz_175_F6 : sizeB Tryz.prog 175 = some 19 := by kernel_rfl
theorem sz_5_F6 : sizeB Tryz.prog 5 = some 1 := by kernel_rfl
theorem zl_175_F6 : zeroL Tryz.prog 175 = some [.int .i64 0, .int .i64 0, .int .i64 0, .int .i64 0, .int .i64 0, .int .i64 0, .int .i64 0, .int .i64 0, .int .i64 0, .int .i64 0, .int .i64 0, .int .i64 0, .int .i64 0, .int .i64 0, .int .i64 0, .int .i64 0, .int .i64 0, .int .i64 0, .int .i64 0] := by kernel_rfl

theorem own_takeI {e k : Nat} {v : Value} {f : Nat → Nat} {u : Value} (h : u = iv (f k)) : own e 1 v (k + 1) (((List.range k).map f).map iv ++ [u]) = own e 1 v (k + 1) (((List.range (k + 1)).map f).map iv) := by
  rw [h, Sums.range_take]; simp
def StP (b rb : Nat) (out : List UInt8) (most : Nat) (v : Value) : List HP := [cel b 119 [.pointer (some ⟨rb, 0, none⟩), v, .int .i64 most], own 5 1 v out.length (out.map u8v)]
def StAt (b rb : Nat) (out : List UInt8) (most : Nat) : HP := exS (StP b rb out most)
attribute [local irreducible] cel own exS Huff.sorted Huff.cntC

set_option maxRecDepth 100000 in
set_option maxHeartbeats 1000000 in
theorem order_spec : Spec Tryz.prog 124 #[] [] (Ret fun v hl => v = .agg (Infl.order.map iv).toArray ∧ hl = []) := by
 refine Spec.enter Tryz.func124 rfl rfl rfl (fun F w0 => ?_)
 dsimp only [argL, List.cons_append, List.nil_append]
 refine CG.sr (G.e rfl rfl rfl rfl (e_alloc rfl zl_175_F6) (fun _ _ _ _ _ _ => trivial) ?_)
 rintro _ _ ⟨b0, rfl, rfl⟩
 refine G.nil (EN.tsr (G.q rfl rfl rfl rfl (q_build rfl rfl (bu_175_0_1_2_3_4_5_6_7_8_9_10_11_12_13_14_15_16_17_18_F6 _ _ _ _ _ _ _ _ _ _ _ _ _ _ _ _ _ _ _)) ?_))
 refine G.sa0 sz_175_F6 ?_
 refine G.nil (EN.then (CG.ret ?_))
 exact fin_ret1c rfl rfl ag_175_F6 sz_175_F6 mB rfl tK sF (⟨rfl, rfl⟩) _ (.inl rfl)

set_option maxRecDepth 100000 in
set_option maxHeartbeats 1000000 in
theorem lengthBase_spec (i : Nat) (hi : i ≤ 28) : Spec Tryz.prog 96 #[.int .i64 i] [] (Ret fun v hl => v = .tuple #[.int .i64 (Infl.lengthBase i).1, .int .i64 (Infl.lengthBase i).2] ∧ hl = []) := by
 refine Spec.enter Tryz.func96 rfl rfl rfl (fun F w0 => ?_)
 dsimp only [argL, List.cons_append, List.nil_append]
 refine CG.sr (G.as ?_)
 refine G.as ?_
 refine G.nil (EN.ts (CG.sr (G.mv ?_)))
 refine G.q rfl rfl rfl rfl (q_eql rfl rfl rfl) (G.nil (EN.then ?_))
 refine CG.cond rfl (fun h6 => ?_) (fun h6 => ?_)
 ·
  have e : Infl.lengthBase i = (258, 0) := if_pos oM
  refine CG.sr (G.as ?_)
  refine G.as ?_
  refine G.nil (EN.then (CG.ret (EN.then_ret ?_)))
  rw [e]
  try dsimp only
  exact fin_ret2 rfl rfl rfl tK sF (⟨rfl, rfl⟩) _ (.inl rfl)
 ·
  refine CG.skip (EN.ts (CG.sr (G.mv ?_)))
  refine G.q rfl rfl rfl rfl (q_lss rfl rfl rfl) (G.nil (EN.then ?_))
  refine CG.cond rfl (fun h8 => ?_) (fun h8 => ?_)
  ·
   have e : Infl.lengthBase i = (3 + i, 0) := by unfold Infl.lengthBase; rw [if_neg oM, if_pos oM]
   refine CG.sr (G.mv ?_)
   refine G.q rfl rfl rfl rfl (q_add_i rfl rfl rfl oM) (G.as ?_)
   refine G.as ?_
   refine G.nil (EN.then (CG.ret (EN.then_ret ?_)))
   rw [e]
   try dsimp only
   exact fin_ret2 rfl rfl rfl tK sF (⟨rfl, rfl⟩) _ (.inl rfl)
  ·
   have e : Infl.lengthBase i = (3 + (4 + i % 4) * 2 ^ (i / 4 - 1), i / 4 - 1) := by unfold Infl.lengthBase; rw [if_neg oM, if_neg oM]
   have hle : (4 + i % 4) * 2 ^ (i / 4 - 1) ≤ 7 * 2 ^ 6 := Nat.mul_le_mul oM (Infl.two_pow_le oM)
   have e1 : ((i : Int) / 4 - 1) = ((i / 4 - 1 : Nat) : Int) := by omega
   have e2 : ((4 : Int) + (i : Int) % 4) = ((4 + i % 4 : Nat) : Int) := by omega
   have e3 := shl_lim (k := .i64) (a := 4 + i % 4) (c := i / 4 - 1) (by simp [IntKind.bits]; omega) (by simp only [lim, IntKind.signed, IntKind.bits]; omega)
   refine CG.skip (EN.tsr (G.mv ?_))
   refine G.q rfl rfl rfl rfl (q_quo_i rfl rfl rfl oM) (G.q rfl rfl rfl rfl (q_sub_i rfl rfl rfl oM) (G.as ?_))
   refine G.nil (EN.ts ?_)
   rw [e1]
   refine CG.reg (G.mv ?_)
   refine G.q rfl rfl rfl rfl (q_rem_n rfl rfl rfl oM) (G.q rfl rfl rfl rfl (q_add_i rfl rfl rfl oM) ?_)
   rw [e2]
   refine G.mv ?_
   refine G.q rfl rfl rfl rfl (q_shl rfl rfl rfl oM) ?_
   rw [e3]
   refine G.q rfl rfl rfl rfl (q_add_i rfl rfl rfl oM) (G.mv ?_)
   refine G.as ?_
   refine G.as ?_
   refine G.nil (EN.sub (sC 2 (sC 3 Sub.nil)) ?_)
   refine EN.then (CG.ret ?_)
   rw [e]
   try dsimp only
   exact fin_ret2 rfl rfl rfl tK sF (⟨rfl, rfl⟩) _ (.inl rfl)

set_option maxRecDepth 100000 in
set_option maxHeartbeats 1000000 in
theorem distBase_spec (i : Nat) (hi : i ≤ 29) : Spec Tryz.prog 97 #[.int .i64 i] [] (Ret fun v hl => v = .tuple #[.int .i64 (Infl.distBase i).1, .int .i64 (Infl.distBase i).2] ∧ hl = []) := by
 refine Spec.enter Tryz.func97 rfl rfl rfl (fun F w0 => ?_)
 dsimp only [argL, List.cons_append, List.nil_append]
 refine CG.sr (G.as ?_)
 refine G.as ?_
 refine G.nil (EN.ts (CG.sr (G.mv ?_)))
 refine G.q rfl rfl rfl rfl (q_lss rfl rfl rfl) (G.nil (EN.then ?_))
 refine CG.cond rfl (fun h6 => ?_) (fun h6 => ?_)
 ·
  have e : Infl.distBase i = (1 + i, 0) := if_pos oM
  refine CG.sr (G.mv ?_)
  refine G.q rfl rfl rfl rfl (q_add_i rfl rfl rfl oM) (G.as ?_)
  refine G.as ?_
  refine G.nil (EN.then (CG.ret (EN.then_ret ?_)))
  rw [e]
  try dsimp only
  exact fin_ret2 rfl rfl rfl tK sF (⟨rfl, rfl⟩) _ (.inl rfl)
 ·
  have e : Infl.distBase i = (1 + (2 + i % 2) * 2 ^ (i / 2 - 1), i / 2 - 1) := if_neg oM
  have hle : (2 + i % 2) * 2 ^ (i / 2 - 1) ≤ 3 * 2 ^ 13 := Nat.mul_le_mul oM (Infl.two_pow_le oM)
  have e1 : ((i : Int) / 2 - 1) = ((i / 2 - 1 : Nat) : Int) := by omega
  have e2 : ((2 : Int) + (i : Int) % 2) = ((2 + i % 2 : Nat) : Int) := by omega
  have e3 := shl_lim (k := .i64) (a := 2 + i % 2) (c := i / 2 - 1) (by simp [IntKind.bits]; omega) (by simp only [lim, IntKind.signed, IntKind.bits]; omega)
  refine CG.skip (EN.tsr (G.mv ?_))
  refine G.q rfl rfl rfl rfl (q_quo_i rfl rfl rfl oM) (G.q rfl rfl rfl rfl (q_sub_i rfl rfl rfl oM) (G.as ?_))
  refine G.nil (EN.ts ?_)
  rw [e1]
  refine CG.reg (G.mv ?_)
  refine G.q rfl rfl rfl rfl (q_rem_n rfl rfl rfl oM) (G.q rfl rfl rfl rfl (q_add_i rfl rfl rfl oM) ?_)
  rw [e2]
  refine G.mv ?_
  refine G.q rfl rfl rfl rfl (q_shl rfl rfl rfl oM) ?_
  rw [e3]
  refine G.q rfl rfl rfl rfl (q_add_i rfl rfl rfl oM) (G.mv ?_)
  refine G.as ?_
  refine G.as ?_
  refine G.nil (EN.sub (sC 2 (sC 3 Sub.nil)) ?_)
  refine EN.then (CG.ret ?_)
  rw [e]
  try dsimp only
  exact fin_ret2 rfl rfl rfl tK sF (⟨rfl, rfl⟩) _ (.inl rfl)

set_option maxRecDepth 100000 in
set_option maxHeartbeats 1000000 in
theorem put_spec (b rb : Nat) (out : List UInt8) (most : Nat) (c : UInt8) (hm : most ≤ 1000000000) (ho : out.length ≤ 1000000000) : Spec Tryz.prog 107 #[.pointer (some ⟨b, 0, none⟩), .int .u8 c.toNat] [StAt b rb out most] (Ret fun v hl => v = .int .i64 (if out.length = most then 2 else 0) ∧ hl = [StAt b rb (if out.length = most then out else out ++ [c]) most]) := by
 refine Spec.enter Tryz.func107 rfl rfl rfl (fun F w0 => ?_)
 dsimp only [argL, List.cons_append, List.nil_append]
 refine CG.seq ?_
 refine CG.openS (StP b rb out most) tK1 (fun v => ?_)
 unfold StP
 dsimp only [List.cons_append, List.nil_append]
 refine CG.reg (G.as ?_)
 refine G.nil (EN.ts (CG.seq ?_))
 refine CG.regT [] mixed (by kernel_rfl) ?_
 refine G.mv ?_
 refine G.np ?_
 refine G.q rfl rfl rfl rfl (q_field0 rfl rfl fo_119_1_F6) (G.ld ag_80_F2 ?_)
 refine G.ownShape (v := v) tK1 ?_
 rintro ad c' rfl
 refine G.q rfl rfl rfl rfl (q_len_sl rfl rfl se_80_F2) (G.mv ?_)
 refine G.np ?_
 refine G.q rfl rfl rfl rfl (q_field0 rfl rfl fo_119_2_F6) (G.ld ag_3_F1 ?_)
 refine G.q rfl rfl rfl rfl (q_eql rfl rfl rfl) (G.nil (EN.sub (sC 0 (sC 1 (sC 4 (sC 14 Sub.nil)))) ?_))
 refine EN.then ?_
 refine CG.cond rfl (fun h14 => ?_) (fun h14 => ?_)
 ·
  rw [if_pos oM, if_pos oM]
  refine CG.closeS (StP b rb out most) _ tK ?_
  refine CG.sr (G.as ?_)
  refine G.nil (EN.then (CG.ret (EN.then_ret ?_)))
  skip
  exact fin_ret1 rfl rfl tK sF (⟨rfl, rfl⟩) _ (.inl rfl)
 ·
  rw [if_neg oM, if_neg oM]
  refine CG.skip (EN.tsr (G.mv ?_))
  refine G.mv ?_
  refine G.np ?_
  refine G.q rfl rfl rfl rfl (q_field0 rfl rfl fo_119_1_F6) (G.ld ag_80_F2 ?_)
  refine G.mv ?_
  refine G.e rfl rfl rfl rfl (e_bslice rfl rfl (bs_80_1_all_F2 _)) (fun _ _ _ _ _ _ => trivial) ?_
  rintro _ _ ⟨b21, rfl, rfl⟩
  refine G.e rfl rfl rfl rfl (e_append rfl rfl rfl se_80_F2 nf_5_F2 rfl tK1 mB (by rfl) (by simp [Value.oneCell', str]) oM) (fun _ _ _ _ _ _ => trivial) ?_
  rintro _ _ rfl
  rw [own_snoc2]
  refine G.ownShape tK1 ?_
  rintro ad2 c2 rfl
  refine G.np ?_
  refine G.q rfl rfl rfl rfl (q_field0 rfl rfl fo_119_1_F6) ?_
  refine G.st0 sz_80_F2 ?_
  refine G.nil (EN.sub (sC 4 Sub.nil) ?_)
  refine EN.tsr (G.as ?_)
  refine G.nil (EN.then (CG.ret (EN.closeS (StP b rb (out ++ [c]) most) _ tK ?_)))
  exact fin_ret1 rfl rfl tK sF (⟨rfl, rfl⟩) _ (.inl rfl)

set_option maxRecDepth 100000 in
set_option maxHeartbeats 1000000 in
theorem fixed_spec : Spec Tryz.prog 91 #[] [] (Ret fun v hl => ∃ bl bd, v = .tuple #[.pointer (some ⟨bl, 0, none⟩), .pointer (some ⟨bd, 0, none⟩)] ∧ hl = [TabAt bl Infl.fixedLit, TabAt bd Infl.fixedDist]) := by
 refine Spec.enter Tryz.func91 rfl rfl rfl (fun F w0 => ?_)
 dsimp only [argL, List.cons_append, List.nil_append]
 refine CG.sr (G.as ?_)
 refine G.as ?_
 refine G.nil (EN.tsr (G.as ?_))
 refine G.as ?_
 refine G.nil (EN.ts (CG.sr (G.mv ?_)))
 refine G.nil (EN.then (CG.block (CG.ownNil 3 1 ?_)))
 refine CG.loopI (fun m L H => ∃ k : Nat, ∃ (v : Value), k ≤ 288 ∧ m = (288) - k ∧ L = [(2, v), (3, .slice none 0 0), (9, .int .i64 k)] ∧ H = [own 3 1 v k (((List.range k).map Infl.fixedLen).map iv)] ++ F) ((288) - 0) (hl := [_]) (⟨0, .slice none 0 0, Nat.zero_le _, rfl, rfl, rfl⟩) sB rfl tK sF ?_
 rintro m L H ⟨k, v, hk, rfl, rfl, rfl⟩
 try dsimp only [List.cons_append, List.nil_append]
 refine CG.sr (G.q rfl rfl rfl rfl (q_lss rfl rfl rfl) (G.nil (EN.ts ?_)))
 refine CG.cond rfl (fun h10 => ?_) (fun h10 => ?_)
 ·
  have hk2 : k < 288 := by omega
  refine CG.skip (EN.ts (CG.block (CG.sr (G.mv ?_))))
  refine G.as ?_
  refine G.nil (EN.then (CG.block (CG.seq (CG.sr (G.mv ?_)))))
  refine G.q rfl rfl rfl rfl (q_lss rfl rfl rfl) (G.as ?_)
  refine G.nil (EN.then ?_)
  refine CG.splitT (t := 15) rfl (fun h15 => ?_) (fun h15 => ?_)
  ·
   refine CG.cond_t rfl ?_
   refine CG.skip (EN.then (CG.cond_t rfl ?_))
   have hf : Value.int .i64 8 = iv (Infl.fixedLen k) := by unfold Infl.fixedLen; first | rw [if_pos oM]; rfl | rw [if_neg oM, if_pos oM]; rfl
   refine CG.reg (G.mv ?_)
   refine G.e rfl rfl rfl rfl (e_bslice rfl rfl (bs_78_1_all_F5 _)) (fun _ _ _ _ _ _ => trivial) ?_
   rintro _ _ ⟨b21, rfl, rfl⟩
   refine G.e rfl rfl rfl rfl (e_append rfl rfl rfl se_78_F5 nf_3_F5 rfl tK1 mB (by rfl) (by simp [Value.oneCell', str]) oM) (fun _ _ _ _ _ _ => trivial) ?_
   rintro _ _ rfl
   rw [own_takeI (u := .int .i64 8) hf]
   refine G.ownShape tK1 ?_
   rintro ad c' rfl
   refine G.as ?_
   refine G.nil (EN.sub (sC 2 (sC 3 (sC 9 Sub.nil))) ?_)
   refine EN.in_normal (EN.in_normal (EN.tr ?_))
   refine G.q rfl rfl rfl rfl (q_add_i rfl rfl rfl oM) (G.mv ?_)
   refine G.nil ?_
   exact EN.round (hl := [_]) ((288) - (k + 1)) oM (⟨k + 1, _, by omega, rfl, rfl, rfl⟩) sB rfl tK sF
  ·
   refine CG.cond_f rfl ?_
   refine CG.reg (G.mv ?_)
   refine G.q rfl rfl rfl rfl (q_geq rfl rfl rfl) (G.as ?_)
   refine G.nil (EN.then ?_)
   refine CG.splitT (t := 15) rfl (fun h15 => ?_) (fun h15 => ?_)
   ·
    refine CG.cond_t rfl ?_
    have hf : Value.int .i64 8 = iv (Infl.fixedLen k) := by unfold Infl.fixedLen; first | rw [if_pos oM]; rfl | rw [if_neg oM, if_pos oM]; rfl
    refine CG.reg (G.mv ?_)
    refine G.e rfl rfl rfl rfl (e_bslice rfl rfl (bs_78_1_all_F5 _)) (fun _ _ _ _ _ _ => trivial) ?_
    rintro _ _ ⟨b21, rfl, rfl⟩
    refine G.e rfl rfl rfl rfl (e_append rfl rfl rfl se_78_F5 nf_3_F5 rfl tK1 mB (by rfl) (by simp [Value.oneCell', str]) oM) (fun _ _ _ _ _ _ => trivial) ?_
    rintro _ _ rfl
    rw [own_takeI (u := .int .i64 8) hf]
    refine G.ownShape tK1 ?_
    rintro ad c' rfl
    refine G.as ?_
    refine G.nil (EN.sub (sC 2 (sC 3 (sC 9 Sub.nil))) ?_)
    refine EN.in_normal (EN.in_normal (EN.tr ?_))
    refine G.q rfl rfl rfl rfl (q_add_i rfl rfl rfl oM) (G.mv ?_)
    refine G.nil ?_
    exact EN.round (hl := [_]) ((288) - (k + 1)) oM (⟨k + 1, _, by omega, rfl, rfl, rfl⟩) sB rfl tK sF
   ·
    refine CG.cond_f rfl ?_
    refine CG.sr (G.mv ?_)
    refine G.q rfl rfl rfl rfl (q_lss rfl rfl rfl) (G.as ?_)
    refine G.nil (EN.sub (sC 2 (sC 3 (sC 9 (sC 23 Sub.nil)))) ?_)
    refine EN.then ?_
    refine CG.cond rfl (fun h23 => ?_) (fun h23 => ?_)
    ·
     have hf : Value.int .i64 9 = iv (Infl.fixedLen k) := by unfold Infl.fixedLen; rw [if_neg oM, if_neg oM, if_pos oM]; rfl
     refine CG.reg (G.mv ?_)
     refine G.e rfl rfl rfl rfl (e_bslice rfl rfl (bs_78_1_all_F5 _)) (fun _ _ _ _ _ _ => trivial) ?_
     rintro _ _ ⟨b27, rfl, rfl⟩
     refine G.e rfl rfl rfl rfl (e_append rfl rfl rfl se_78_F5 nf_3_F5 rfl tK1 mB (by rfl) (by simp [Value.oneCell', str]) oM) (fun _ _ _ _ _ _ => trivial) ?_
     rintro _ _ rfl
     rw [own_takeI (u := .int .i64 9) hf]
     refine G.ownShape tK1 ?_
     rintro ad c' rfl
     refine G.as ?_
     refine G.nil (EN.in_normal (EN.in_normal (EN.tr ?_)))
     refine G.q rfl rfl rfl rfl (q_add_i rfl rfl rfl oM) (G.mv ?_)
     refine G.nil ?_
     exact EN.round (hl := [_]) ((288) - (k + 1)) oM (⟨k + 1, _, by omega, rfl, rfl, rfl⟩) sB rfl tK sF
    ·
     have hf : Value.int .i64 7 = iv (Infl.fixedLen k) := by unfold Infl.fixedLen; rw [if_neg oM, if_neg oM, if_neg oM]; rfl
     refine CG.reg (G.mv ?_)
     refine G.e rfl rfl rfl rfl (e_bslice rfl rfl (bs_78_1_all_F5 _)) (fun _ _ _ _ _ _ => trivial) ?_
     rintro _ _ ⟨b13, rfl, rfl⟩
     refine G.e rfl rfl rfl rfl (e_append rfl rfl rfl se_78_F5 nf_3_F5 rfl tK1 mB (by rfl) (by simp [Value.oneCell', str]) oM) (fun _ _ _ _ _ _ => trivial) ?_
     rintro _ _ rfl
     rw [own_takeI (u := .int .i64 7) hf]
     refine G.ownShape tK1 ?_
     rintro ad c' rfl
     refine G.as ?_
     refine G.nil (EN.in_normal (EN.in_normal (EN.tr ?_)))
     refine G.q rfl rfl rfl rfl (q_add_i rfl rfl rfl oM) (G.mv ?_)
     refine G.nil ?_
     exact EN.round (hl := [_]) ((288) - (k + 1)) oM (⟨k + 1, _, by omega, rfl, rfl, rfl⟩) sB rfl tK sF
 ·
  obtain rfl : k = 288 := by omega
  refine CG.exit ?_
  refine EN.then_exit (EN.then_exit (EN.in_here ?_))
  refine EN.ts (CG.sr (G.mv ?_))
  refine G.nil (EN.then (CG.block (CG.ownNil 3 1 ?_)))
  refine CG.loopI (fun m L H => ∃ k : Nat, ∃ (u : Value), k ≤ 32 ∧ m = (32) - k ∧ L = [(2, v), (3, u), (30, .int .i64 k)] ∧ H = [own 3 1 v 288 (Infl.fixedLit.map iv), own 3 1 u k (((List.range k).map fun _ => 5).map iv)] ++ F) ((32) - 0) (hl := [_, _]) (⟨0, .slice none 0 0, Nat.zero_le _, rfl, rfl, rfl⟩) sB rfl tK sF ?_
  rintro m L H ⟨k, u, hk, rfl, rfl, rfl⟩
  try dsimp only [List.cons_append, List.nil_append]
  refine CG.sr (G.q rfl rfl rfl rfl (q_lss rfl rfl rfl) (G.nil (EN.ts ?_)))
  refine CG.cond rfl (fun h31 => ?_) (fun h31 => ?_)
  ·
   have hk2 : k < 32 := by omega
   refine CG.skip (EN.ts (CG.block (CG.reg (G.mv ?_))))
   refine G.e rfl rfl rfl rfl (e_bslice rfl rfl (bs_78_1_all_F5 _)) (fun _ _ _ _ _ _ => trivial) ?_
   rintro _ _ ⟨b33, rfl, rfl⟩
   refine G.e rfl rfl rfl rfl (e_append rfl rfl rfl se_78_F5 nf_3_F5 rfl tK1 mB (by rfl) (by simp [Value.oneCell', str]) oM) (fun _ _ _ _ _ _ => trivial) ?_
   rintro _ _ rfl
   rw [own_takeI (f := fun _ => 5) (u := .int .i64 5) rfl]
   refine G.ownShape tK1 ?_
   rintro ad c' rfl
   refine G.as ?_
   refine G.nil (EN.in_normal (EN.tr ?_))
   refine G.q rfl rfl rfl rfl (q_add_i rfl rfl rfl oM) (G.mv ?_)
   refine G.nil ?_
   exact EN.round (hl := [_, _]) ((32) - (k + 1)) oM (⟨k + 1, _, by omega, rfl, rfl, rfl⟩) sB rfl tK sF
  ·
   obtain rfl : k = 32 := by omega
   refine CG.openOwn (v := v) tK1 oM (fun gv cv xv hv hcv hmv hlv htv => ?_)
   cases hv
   refine CG.openOwn (v := u) tK1 oM (fun gu cu xu hu hcu hmu hlu htu => ?_)
   cases hu
   refine CG.exit ?_
   refine EN.then_exit (EN.then_exit (EN.in_here ?_))
   refine EN.tsr (G.mv ?_)
   refine G.call (xs := [_]) rfl rfl (hnew_spec gv 0 cv 3 xv Infl.fixedLit Infl.lit_le (by rw [Infl.lit_len]; omega) (by rw [Infl.lit_len]; exact htv)) bd_115_F6 rfl rfl rfl rfl tK (fun _ _ _ _ _ _ => trivial) ?_
   rintro _ _ (⟨hb, _⟩ | ⟨_, bl, rfl, rfl⟩)
   · rw [Infl.lit_bad] at hb; cases hb
   try dsimp only [List.cons_append, List.nil_append]
   refine G.mv ?_
   refine G.q rfl rfl rfl rfl (q_extract rfl rfl rfl) (G.q rfl rfl rfl rfl (q_extract rfl rfl rfl) (G.as ?_))
   refine G.as ?_
   refine G.nil (EN.sub (sC 3 (sC 5 Sub.nil)) ?_)
   refine EN.tsr (G.mv ?_)
   refine G.call (xs := [_]) rfl rfl (hnew_spec gu 0 cu 3 xu Infl.fixedDist Infl.dist_le (by rw [Infl.dist_len]; omega) (by rw [Infl.dist_len]; exact htu)) bd_115_F6 rfl rfl rfl rfl tK (fun _ _ _ _ _ _ => trivial) ?_
   rintro _ _ (⟨hb, _⟩ | ⟨_, bd, rfl, rfl⟩)
   · rw [Infl.dist_bad] at hb; cases hb
   try dsimp only [List.cons_append, List.nil_append]
   refine G.mv ?_
   refine G.q rfl rfl rfl rfl (q_extract rfl rfl rfl) (G.q rfl rfl rfl rfl (q_extract rfl rfl rfl) (G.as ?_))
   refine G.as ?_
   refine G.nil (EN.tsr (G.mv ?_))
   refine G.mv ?_
   refine G.as ?_
   refine G.as ?_
   refine G.nil (EN.sub (sC 0 (sC 1 Sub.nil)) ?_)
   refine EN.then (CG.ret ?_)
   exact fin_ret2 rfl rfl rfl tK sF (⟨bl, bd, rfl, rfl⟩) _ (.inl rfl)

set_option maxRecDepth 100000 in
set_option maxHeartbeats 1000000 in
theorem stored_spec (b rb : Nat) (r : RD) (out : List UInt8) (most : Nat) (hr : r.Ok) (hm : most ≤ 1000000) (ho : out.length ≤ most) : Spec Tryz.prog 104 #[.pointer (some ⟨b, 0, none⟩)] [StAt b rb out most, RdAt rb r] (Ret fun v hl => v = .int .i64 (Infl.stored r out most).2.2 ∧ hl = [StAt b rb (Infl.stored r out most).2.1 most, RdAt rb (Infl.stored r out most).1]) := by
 refine Spec.enter Tryz.func104 rfl rfl rfl (fun F w0 => ?_)
 dsimp only [argL, List.cons_append, List.nil_append]
 refine CG.seq ?_
 refine CG.openS (StP b rb out most) tK1 (fun v => ?_)
 unfold StP
 dsimp only [List.cons_append, List.nil_append]
 refine CG.reg (G.as ?_)
 refine G.nil (EN.tsr (G.mv ?_))
 refine G.np ?_
 refine G.q rfl rfl rfl rfl (q_field0 rfl rfl fo_119_0_F6) (G.ld ag_116_F6 ?_)
 refine G.call (xs := [_, _]) rfl rfl (rbytes_spec rb r 4 hr oM) bd_121_F6 rfl rfl rfl rfl tK (fun _ _ _ _ _ _ => trivial) ?_
 rintro _ _ ⟨rfl, rfl⟩
 try dsimp only [List.cons_append, List.nil_append]
 refine G.mv ?_
 refine G.q rfl rfl rfl rfl (q_extract rfl rfl rfl) (G.q rfl rfl rfl rfl (q_extract rfl rfl rfl) (G.as ?_))
 refine G.as ?_
 refine G.nil (EN.ts (CG.sr (G.mv ?_)))
 refine G.q rfl rfl rfl rfl (q_not rfl rfl) (G.nil (EN.sub (sC 0 (sC 2 (sC 3 (sC 4 (sC 16 Sub.nil))))) ?_))
 refine EN.then ?_
 refine CG.condB rfl (fun h16 => ?_) (fun h16 => ?_)
 ·
  have hE : Infl.stored r out most = ((r.bytes 4).1, out, 6) := if_pos (by simpa using h16)
  refine CG.sr (G.as ?_)
  refine G.nil (EN.then (CG.ret (EN.then_ret (EN.closeS (StP b rb out most) _ tK ?_))))
  rw [hE]
  try dsimp only
  exact fin_ret1 rfl rfl tK sF (⟨rfl, rfl⟩) _ (.inl rfl)
 ·
  have h16b : ¬ (r.bytes 4).2.2 = false := by simpa using h16
  have hl := RD.bytes_len hr (n := 4) (by simpa using h16b)
  have hr1 : (r.bytes 4).1.Ok := RD.bytes_ok hr 4
  have hb1 := Sums.fromLittle_lt' (s := (r.bytes 4).2.1.take 2) (j := 2) (by simp; omega)
  have hb2 := Sums.fromLittle_lt' (s := (r.bytes 4).2.1.drop 2) (j := 2) (by simp; omega)
  obtain ⟨n, hn⟩ := Int.eq_ofNat_of_zero_le hb1.1
  rw [hn] at hb1
  have hr2 : ((r.bytes 4).1.bytes n).1.Ok := RD.bytes_ok hr1 n
  have hE0 : Infl.stored r out most = if bits .xor .i64 (n : Int) 65535 ≠ Sums.fromLittle ((r.bytes 4).2.1.drop 2) then ((r.bytes 4).1, out, 3) else Infl.stored1 (r.bytes 4).1 n out most := by
    unfold Infl.stored; rw [if_neg h16b, hn, Int.toNat_natCast]
  refine CG.skip (EN.tsr (G.mv ?_))
  refine G.q rfl rfl rfl rfl (q_slice_hi rfl rfl rfl us_9_F1 (by rw [hl]; decide)) (G.call (xs := [_]) rfl rfl (fromLittle_spec ((r.bytes 4).2.1.take 2) (by simp; omega)) bd_122_F6 rfl rfl rfl rfl tK (fun _ _ _ _ _ _ => trivial) ?_)
  rintro _ _ ⟨rfl, rfl⟩
  try dsimp only [List.cons_append, List.nil_append]
  rw [hn]
  refine G.q rfl rfl rfl rfl (q_conv_in rfl rfl is_58_F1 ik_3_F6 (wrap64_in oM)) (G.as ?_)
  refine G.nil (EN.ts (CG.sr (G.mv ?_)))
  refine G.q rfl rfl rfl rfl (q_xor rfl rfl rfl) (G.mv ?_)
  refine G.q rfl rfl rfl rfl (q_slice_lo rfl rfl rfl us_9_F1 (by rw [hl]; decide)) (G.call (xs := [_]) rfl rfl (fromLittle_spec ((r.bytes 4).2.1.drop 2) (by simp; omega)) bd_122_F6 rfl rfl rfl rfl tK (fun _ _ _ _ _ _ => trivial) ?_)
  rintro _ _ ⟨rfl, rfl⟩
  try dsimp only [List.cons_append, List.nil_append]
  refine G.q rfl rfl rfl rfl (q_conv_in rfl rfl is_58_F1 ik_3_F6 (wrap64_in oM)) (G.q rfl rfl rfl rfl (q_neq rfl rfl rfl) (G.nil (EN.sub (sC 0 (sC 2 (sC 4 (sC 5 (sC 27 Sub.nil))))) ?_)))
  refine EN.then ?_
  refine CG.cond rfl (fun h27 => ?_) (fun h27 => ?_)
  ·
   have hE : Infl.stored r out most = ((r.bytes 4).1, out, 3) := by rw [hE0, if_pos h27]
   refine CG.sr (G.as ?_)
   refine G.nil (EN.then (CG.ret (EN.then_ret (EN.closeS (StP b rb out most) _ tK ?_))))
   rw [hE]
   try dsimp only
   exact fin_ret1 rfl rfl tK sF (⟨rfl, rfl⟩) _ (.inl rfl)
  ·
   rw [if_neg h27] at hE0
   unfold Infl.stored1 at hE0
   refine CG.skip (EN.tsr (G.mv ?_))
   refine G.np ?_
   refine G.q rfl rfl rfl rfl (q_field0 rfl rfl fo_119_0_F6) (G.ld ag_116_F6 ?_)
   refine G.mv ?_
   refine G.call (xs := [_, _]) rfl rfl (rbytes_spec rb (r.bytes 4).1 n hr1 oM) bd_121_F6 rfl rfl rfl rfl tK (fun _ _ _ _ _ _ => trivial) ?_
   rintro _ _ ⟨rfl, rfl⟩
   try dsimp only [List.cons_append, List.nil_append]
   refine G.mv ?_
   refine G.q rfl rfl rfl rfl (q_extract rfl rfl rfl) (G.q rfl rfl rfl rfl (q_extract rfl rfl rfl) (G.as ?_))
   refine G.as ?_
   refine G.nil (EN.sub (sC 0 (sC 2 (sC 4 (sC 6 Sub.nil)))) ?_)
   refine EN.then ?_
   refine CG.cut (fun L H => ∃ (q : RD) (bs : List UInt8) (ok : Bool), q.Ok ∧ Infl.stored r out most = Infl.stored2 ok q bs out most ∧ L = [(0, .pointer (some ⟨b, 0, none⟩)), (4, .bool ok), (6, str bs)] ∧ H = [cel b 119 [.pointer (some ⟨rb, 0, none⟩), v, .int .i64 most], own 5 1 v out.length (out.map u8v), RdAt rb q] ++ F) ?_ ?_
   ·
    refine CG.sr (G.mv ?_)
    refine G.q rfl rfl rfl rfl (q_not rfl rfl) (G.nil (EN.then ?_))
    refine CG.condB rfl (fun h38 => ?_) (fun h38 => ?_)
    ·
     have h38b : ((r.bytes 4).1.bytes n).2.2 = false := by simpa using h38
     rw [if_pos h38b] at hE0
     have e9 : ((((r.bytes 4).1.bytes n).1.left : Nat) : Int) / 8 = ((((r.bytes 4).1.bytes n).1.left / 8 : Nat) : Int) := by omega
     have hld := RD.left_div hr2
     have hld2 := hr2.len
     have hq2 := RD.bytes_ok hr2 (((r.bytes 4).1.bytes n).1.left / 8)
     rw [h38b]
     refine CG.regC [43] (CellIs b 0 (.pointer (some ⟨rb, 0, none⟩))) mixed (by kernel_rfl) (fun w hw => CellIs.of hw mB rfl) ?_
     refine G.mv ?_
     refine G.np ?_
     refine G.q rfl rfl rfl rfl (q_field0 rfl rfl fo_119_0_F6) (G.loadC rfl rfl rfl rfl rfl rfl rfl ag_116_F6 (fun w h => h) ?_)
     refine G.mv ?_
     refine G.np ?_
     refine G.q rfl rfl rfl rfl (q_field0 rfl rfl fo_119_0_F6) (G.ld ag_116_F6 ?_)
     refine G.call (xs := [_]) rfl rfl (left_spec rb ((r.bytes 4).1.bytes n).1 hr2) bd_123_F6 rfl rfl rfl rfl tK (fun _ _ _ w hR hw => by obtain ⟨_, rfl⟩ := hR; exact CellIs.of hw mB rfl) ?_
     rintro _ _ ⟨rfl, rfl⟩
     try dsimp only [List.cons_append, List.nil_append]
     refine G.q rfl rfl rfl rfl (q_quo_i rfl rfl rfl oM) ?_
     rw [e9]
     refine G.call (xs := [_, _]) rfl rfl (rbytes_spec rb ((r.bytes 4).1.bytes n).1 _ hr2 (Nat.le_trans (RD.left_div hr2) hr2.len)) bd_121_F6 rfl rfl rfl rfl tK (fun _ _ _ w hR hw => by obtain ⟨_, rfl⟩ := hR; exact CellIs.of hw mB rfl) ?_
     rintro _ _ ⟨rfl, rfl⟩
     try dsimp only [List.cons_append, List.nil_append]
     refine G.mv ?_
     refine G.q rfl rfl rfl rfl (q_extract rfl rfl rfl) (G.q rfl rfl rfl rfl (q_extract rfl rfl rfl) (G.as ?_))
     refine G.nil (EN.sub (sC 0 (sC 2 (sC 4 (sC 6 Sub.nil)))) ?_)
     exact EN.cut (hl := [_, _, _]) (⟨_, _, _, hq2, hE0, rfl, rfl⟩) sB rfl tK sF
    ·
     have h38b : ((r.bytes 4).1.bytes n).2.2 = true := by simpa using h38
     rw [if_neg (by rw [h38b]; simp)] at hE0
     have hq2 := hr2
     rw [h38b]
     refine CG.skip ?_
     exact EN.cut (hl := [_, _, _]) (⟨_, _, _, hq2, hE0, rfl, rfl⟩) sB rfl tK sF
   ·
    rintro L H ⟨q, bs, ok, hq, hE1, rfl, rfl⟩
    try dsimp only [List.cons_append, List.nil_append]
    unfold Infl.stored2 at hE1
    refine CG.ownShape v tK1 (fun ad c2 hu => ?_)
    subst hu
    refine CG.seq (CG.seq ?_)
    refine CG.regT [] mixed (by kernel_rfl) ?_
    refine G.mv ?_
    refine G.q rfl rfl rfl rfl (q_len_str rfl rfl us_9_F1) (G.mv ?_)
    refine G.np ?_
    refine G.q rfl rfl rfl rfl (q_field0 rfl rfl fo_119_2_F6) (G.ld ag_3_F1 ?_)
    refine G.mv ?_
    refine G.np ?_
    refine G.q rfl rfl rfl rfl (q_field0 rfl rfl fo_119_1_F6) (G.ld ag_80_F2 ?_)
    refine G.q rfl rfl rfl rfl (q_len_sl rfl rfl se_80_F2) (G.q rfl rfl rfl rfl (q_sub_i rfl rfl rfl oM) (G.q rfl rfl rfl rfl (q_gtr rfl rfl rfl) (G.nil (EN.sub (sC 0 (sC 4 (sC 6 (sC 65 Sub.nil)))) ?_))))
    refine EN.then ?_
    refine CG.cond rfl (fun h65 => ?_) (fun h65 => ?_)
    ·
     have hE : Infl.stored r out most = (q, out, 2) := by rw [hE1, if_pos oM]
     refine CG.sr (G.as ?_)
     refine G.nil (EN.then (CG.ret (EN.then_ret (EN.closeS (StP b rb out most) _ tK ?_))))
     rw [hE]
     try dsimp only
     exact fin_ret1 rfl rfl tK sF (⟨rfl, rfl⟩) _ (.inl rfl)
    ·
     rw [if_neg oM] at hE1
     refine CG.skip (EN.tsr (G.mv ?_))
     refine G.mv ?_
     refine G.np ?_
     refine G.q rfl rfl rfl rfl (q_field0 rfl rfl fo_119_1_F6) (G.ld ag_80_F2 ?_)
     refine G.mv ?_
     refine G.e rfl rfl rfl rfl (e_append_str rfl rfl rfl se_80_F2 us_9_F1 nf_5_F2 tK1 oM) (fun _ _ _ _ _ _ => trivial) ?_
     rintro _ _ rfl
     rw [own_app]
     refine G.ownShape tK1 ?_
     rintro ad2 c3 rfl
     refine G.np ?_
     refine G.q rfl rfl rfl rfl (q_field0 rfl rfl fo_119_1_F6) ?_
     refine G.st0 sz_80_F2 ?_
     refine G.nil (EN.sub (sC 4 Sub.nil) ?_)
     refine EN.ts (CG.sr (G.mv ?_))
     refine G.q rfl rfl rfl rfl (q_not rfl rfl) (G.nil (EN.then ?_))
     refine CG.condB rfl (fun h76 => ?_) (fun h76 => ?_)
     ·
      have hE : Infl.stored r out most = (q, out ++ bs, 6) := by rw [hE1, if_pos (by simpa using h76)]
      refine CG.sr (G.as ?_)
      refine G.nil (EN.then (CG.ret (EN.then_ret (EN.closeS (StP b rb (out ++ bs) most) _ tK ?_))))
      rw [hE]
      try dsimp only
      exact fin_ret1 rfl rfl tK sF (⟨rfl, rfl⟩) _ (.inl rfl)
     ·
      have hE : Infl.stored r out most = (q, out ++ bs, 0) := by rw [hE1, if_neg (by simpa using h76)]
      refine CG.skip (EN.tsr (G.as ?_))
      refine G.nil (EN.then (CG.ret (EN.closeS (StP b rb (out ++ bs) most) _ tK ?_)))
      rw [hE]
      try dsimp only
      exact fin_ret1 rfl rfl tK sF (⟨rfl, rfl⟩) _ (.inl rfl)

set_option maxRecDepth 100000 in
set_option maxHeartbeats 1000000 in
theorem again_spec (b rb bd : Nat) (ds : List Nat) (r : RD) (out : List UInt8) (most s : Nat) (hr : r.Ok) (hds : ds.length ≤ 320) (hm : most ≤ 1000000) (ho : out.length ≤ most) (hs : 257 ≤ s) : Spec Tryz.prog 108 #[.pointer (some ⟨b, 0, none⟩), .int .i64 s, .pointer (some ⟨bd, 0, none⟩)] [StAt b rb out most, TabAt bd ds, RdAt rb r] (Ret fun v hl => v = .int .i64 (Infl.again ds most r out s).2.2 ∧ hl = [StAt b rb (Infl.again ds most r out s).2.1 most, TabAt bd ds, RdAt rb (Infl.again ds most r out s).1]) := by
 obtain ⟨X, hX⟩ : ∃ X, Infl.again ds most r out s = X := ⟨_, rfl⟩
 have hE0 := hX
 unfold Infl.again at hE0
 rw [hX]
 refine Spec.enter Tryz.func108 rfl rfl rfl (fun F w0 => ?_)
 dsimp only [argL, List.cons_append, List.nil_append]
 refine CG.seq ?_
 refine CG.openS (StP b rb out most) tK1 (fun v => ?_)
 unfold StP
 dsimp only [List.cons_append, List.nil_append]
 refine CG.reg (G.as ?_)
 refine G.nil (EN.ts (CG.sr (G.mv ?_)))
 refine G.q rfl rfl rfl rfl (q_gtr rfl rfl rfl) (G.nil (EN.then ?_))
 refine CG.cond rfl (fun h16 => ?_) (fun h16 => ?_)
 ·
  rw [if_pos oM] at hE0
  refine CG.sr (G.as ?_)
  refine G.nil (EN.then (CG.ret (EN.then_ret (EN.closeS (StP b rb _ most) _ tK ?_))))
  rw [← hE0]
  try dsimp only
  exact fin_ret1 rfl rfl tK sF (⟨rfl, rfl⟩) _ (.inl rfl)
 ·
  rw [if_neg oM] at hE0
  dsimp only at hE0
  have e257 : ((s : Int) - 257) = ((s - 257 : Nat) : Int) := by omega
  have hB := Infl.lengthBase_le (i := s - 257) oM
  have hx1 := RD.bits_ok hr (n := (Infl.lengthBase (s - 257)).2) oM
  have hx2 := RD.bits_lt r (Infl.lengthBase (s - 257)).2
  have hx3 := Infl.two_pow_le hB.2.2
  have hy1 := (Huff.read_ok ds hx1).1
  refine CG.skip (EN.tsr (G.mv ?_))
  refine G.q rfl rfl rfl rfl (q_sub_i rfl rfl rfl oM) ?_
  rw [e257]
  refine G.call (xs := [_]) rfl rfl (lengthBase_spec (s - 257) oM) bd_96_F6 rfl rfl rfl rfl tK (fun _ _ _ _ _ _ => trivial) ?_
  rintro _ _ ⟨rfl, rfl⟩
  try dsimp only [List.cons_append, List.nil_append]
  refine G.mv ?_
  refine G.q rfl rfl rfl rfl (q_extract rfl rfl rfl) (G.q rfl rfl rfl rfl (q_extract rfl rfl rfl) (G.as ?_))
  refine G.as ?_
  refine G.nil (EN.sub (sC 0 (sC 2 (sC 6 (sC 7 (sC 8 Sub.nil))))) ?_)
  refine EN.tsr (G.mv ?_)
  refine G.np ?_
  refine G.q rfl rfl rfl rfl (q_field0 rfl rfl fo_119_0_F6) (G.ld ag_116_F6 ?_)
  refine G.mv ?_
  refine G.call (xs := [_, _]) rfl rfl (rbits_spec rb r _ hr oM) bd_103_F5 rfl rfl rfl rfl tK (fun _ _ _ _ _ _ => trivial) ?_
  rintro _ _ ⟨rfl, rfl⟩
  try dsimp only [List.cons_append, List.nil_append]
  refine G.mv ?_
  refine G.q rfl rfl rfl rfl (q_extract rfl rfl rfl) (G.q rfl rfl rfl rfl (q_extract rfl rfl rfl) (G.as ?_))
  refine G.as ?_
  refine G.nil (EN.sub (sC 0 (sC 2 (sC 6 (sC 7 (sC 8 (sC 9 (sC 10 Sub.nil))))))) ?_)
  refine EN.ts (CG.sr (G.mv ?_))
  refine G.q rfl rfl rfl rfl (q_not rfl rfl) (G.nil (EN.then ?_))
  refine CG.condB rfl (fun h33 => ?_) (fun h33 => ?_)
  ·
   rw [if_pos (by simpa using h33)] at hE0
   refine CG.sr (G.as ?_)
   refine G.nil (EN.then (CG.ret (EN.then_ret (EN.closeS (StP b rb _ most) _ tK ?_))))
   rw [← hE0]
   try dsimp only
   exact fin_ret1 rfl rfl tK sF (⟨rfl, rfl⟩) _ (.inl rfl)
  ·
   rw [if_neg (by simpa using h33)] at hE0
   refine CG.skip (EN.tsr (G.mv ?_))
   refine G.mv ?_
   refine G.q rfl rfl rfl rfl (q_conv_in rfl rfl is_28_F2 ik_3_F6 (wrap64_in oM)) (G.q rfl rfl rfl rfl (q_add_i rfl rfl rfl oM) (G.as ?_))
   refine G.nil (EN.tsr (G.mv ?_))
   refine G.mv ?_
   refine G.np ?_
   refine G.q rfl rfl rfl rfl (q_field0 rfl rfl fo_119_0_F6) (G.ld ag_116_F6 ?_)
   refine G.call (xs := [_, _]) rfl rfl (hread_spec bd rb ds (r.bits (Infl.lengthBase (s - 257)).2).1 hx1 hds) bd_106_F6 rfl rfl rfl rfl tK (fun _ _ _ _ _ _ => trivial) ?_
   rintro _ _ ⟨rfl, rfl⟩
   try dsimp only [List.cons_append, List.nil_append]
   refine G.mv ?_
   refine G.q rfl rfl rfl rfl (q_extract rfl rfl rfl) (G.q rfl rfl rfl rfl (q_extract rfl rfl rfl) (G.as ?_))
   refine G.as ?_
   refine G.nil (EN.sub (sC 0 (sC 6 (sC 7 (sC 8 (sC 9 (sC 10 (sC 11 (sC 12 Sub.nil)))))))) ?_)
   refine EN.ts (CG.sr (G.mv ?_))
   refine G.q rfl rfl rfl rfl (q_neq rfl rfl rfl) (G.nil (EN.then ?_))
   refine CG.cond rfl (fun h48 => ?_) (fun h48 => ?_)
   ·
    rw [if_pos oM] at hE0
    refine CG.sr (G.mv ?_)
    refine G.as ?_
    refine G.nil (EN.then (CG.ret (EN.then_ret (EN.closeS (StP b rb _ most) _ tK ?_))))
    rw [← hE0]
    try dsimp only
    exact fin_ret1 rfl rfl tK sF (⟨rfl, rfl⟩) _ (.inl rfl)
   ·
    rw [if_neg oM] at hE0
    refine CG.skip (EN.ts (CG.sr (G.mv ?_)))
    refine G.q rfl rfl rfl rfl (q_gtr rfl rfl rfl) (G.nil (EN.then ?_))
    refine CG.cond rfl (fun h51 => ?_) (fun h51 => ?_)
    ·
     rw [if_pos oM] at hE0
     refine CG.sr (G.as ?_)
     refine G.nil (EN.then (CG.ret (EN.then_ret (EN.closeS (StP b rb _ most) _ tK ?_))))
     rw [← hE0]
     try dsimp only
     exact fin_ret1 rfl rfl tK sF (⟨rfl, rfl⟩) _ (.inl rfl)
    ·
     rw [if_neg oM] at hE0
     have hD := Infl.distBase_le (i := (Huff.read ds (r.bits (Infl.lengthBase (s - 257)).2).1).2.1) oM
     have hz2 := RD.bits_lt (Huff.read ds (r.bits (Infl.lengthBase (s - 257)).2).1).1 (Infl.distBase (Huff.read ds (r.bits (Infl.lengthBase (s - 257)).2).1).2.1).2
     have hz3 := Infl.two_pow_le hD.2.2
     refine CG.skip (EN.tsr (G.mv ?_))
     refine G.call (xs := [_]) rfl rfl (distBase_spec (Huff.read ds (r.bits (Infl.lengthBase (s - 257)).2).1).2.1 oM) bd_97_F6 rfl rfl rfl rfl tK (fun _ _ _ _ _ _ => trivial) ?_
     rintro _ _ ⟨rfl, rfl⟩
     try dsimp only [List.cons_append, List.nil_append]
     refine G.mv ?_
     refine G.q rfl rfl rfl rfl (q_extract rfl rfl rfl) (G.q rfl rfl rfl rfl (q_extract rfl rfl rfl) (G.as ?_))
     refine G.as ?_
     refine G.nil (EN.sub (sC 0 (sC 6 (sC 7 (sC 8 (sC 9 (sC 10 (sC 13 Sub.nil))))))) ?_)
     refine EN.tsr (G.mv ?_)
     refine G.np ?_
     refine G.q rfl rfl rfl rfl (q_field0 rfl rfl fo_119_0_F6) (G.ld ag_116_F6 ?_)
     refine G.mv ?_
     refine G.call (xs := [_, _]) rfl rfl (rbits_spec rb (Huff.read ds (r.bits (Infl.lengthBase (s - 257)).2).1).1 _ hy1 oM) bd_103_F5 rfl rfl rfl rfl tK (fun _ _ _ _ _ _ => trivial) ?_
     rintro _ _ ⟨rfl, rfl⟩
     try dsimp only [List.cons_append, List.nil_append]
     refine G.mv ?_
     refine G.q rfl rfl rfl rfl (q_extract rfl rfl rfl) (G.q rfl rfl rfl rfl (q_extract rfl rfl rfl) (G.as ?_))
     refine G.as ?_
     refine G.nil (EN.sub (sC 0 (sC 6 (sC 7 (sC 9 (sC 10 (sC 13 Sub.nil)))))) ?_)
     refine EN.ts (CG.sr (G.mv ?_))
     refine G.q rfl rfl rfl rfl (q_not rfl rfl) (G.nil (EN.then ?_))
     refine CG.condB rfl (fun h67 => ?_) (fun h67 => ?_)
     ·
      rw [if_pos (by simpa using h67)] at hE0
      refine CG.sr (G.as ?_)
      refine G.nil (EN.then (CG.ret (EN.then_ret (EN.closeS (StP b rb _ most) _ tK ?_))))
      rw [← hE0]
      try dsimp only
      exact fin_ret1 rfl rfl tK sF (⟨rfl, rfl⟩) _ (.inl rfl)
     ·
      rw [if_neg (by simpa using h67)] at hE0
      refine CG.skip (EN.tsr (G.mv ?_))
      refine G.mv ?_
      refine G.q rfl rfl rfl rfl (q_conv_in rfl rfl is_28_F2 ik_3_F6 (wrap64_in oM)) (G.q rfl rfl rfl rfl (q_add_i rfl rfl rfl oM) (G.as ?_))
      refine G.nil (EN.ts (CG.seq ?_))
      refine CG.ownShape v tK1 (fun ad c2 hu => ?_)
      subst hu
      have e13 : (((Infl.distBase (Huff.read ds (r.bits (Infl.lengthBase (s - 257)).2).1).2.1).1 : Int) + (((Huff.read ds (r.bits (Infl.lengthBase (s - 257)).2).1).1.bits (Infl.distBase (Huff.read ds (r.bits (Infl.lengthBase (s - 257)).2).1).2.1).2).2.1 : Nat)) = (((Infl.distBase (Huff.read ds (r.bits (Infl.lengthBase (s - 257)).2).1).2.1).1 + ((Huff.read ds (r.bits (Infl.lengthBase (s - 257)).2).1).1.bits (Infl.distBase (Huff.read ds (r.bits (Infl.lengthBase (s - 257)).2).1).2.1).2).2.1 : Nat) : Int) := by omega
      rw [e13]
      have e7 : (((Infl.lengthBase (s - 257)).1 : Int) + ((r.bits (Infl.lengthBase (s - 257)).2).2.1 : Nat)) = (((Infl.lengthBase (s - 257)).1 + (r.bits (Infl.lengthBase (s - 257)).2).2.1 : Nat) : Int) := by omega
      rw [e7]
      refine CG.reg (G.mv ?_)
      refine G.mv ?_
      refine G.np ?_
      refine G.q rfl rfl rfl rfl (q_field0 rfl rfl fo_119_1_F6) (G.ld ag_80_F2 ?_)
      refine G.q rfl rfl rfl rfl (q_len_sl rfl rfl se_80_F2) (G.q rfl rfl rfl rfl (q_gtr rfl rfl rfl) (G.nil (EN.sub (sC 0 (sC 6 (sC 7 (sC 13 (sC 78 Sub.nil))))) ?_)))
      refine EN.then ?_
      refine CG.cond rfl (fun h78 => ?_) (fun h78 => ?_)
      ·
       rw [if_pos oM] at hE0
       refine CG.sr (G.as ?_)
       refine G.nil (EN.then (CG.ret (EN.then_ret (EN.closeS (StP b rb _ most) _ tK ?_))))
       rw [← hE0]
       try dsimp only
       exact fin_ret1 rfl rfl tK sF (⟨rfl, rfl⟩) _ (.inl rfl)
      ·
       rw [if_neg oM] at hE0
       refine CG.closeS (StP b rb out most) _ tK ?_
       refine CG.skip (EN.ts (CG.sr (G.mv ?_)))
       refine G.mv ?_
       refine G.nil (EN.then (CG.block (CG.loopI (fun m L H => ∃ k : Nat, ∃ (o : List UInt8), k ≤ (Infl.lengthBase (s - 257)).1 + (r.bits (Infl.lengthBase (s - 257)).2).2.1 ∧ (o.length ≤ most ∧ (Infl.distBase (Huff.read ds (r.bits (Infl.lengthBase (s - 257)).2).1).2.1).1 + ((Huff.read ds (r.bits (Infl.lengthBase (s - 257)).2).1).1.bits (Infl.distBase (Huff.read ds (r.bits (Infl.lengthBase (s - 257)).2).1).2.1).2).2.1 ≤ o.length ∧ Infl.copyGo most ((Infl.distBase (Huff.read ds (r.bits (Infl.lengthBase (s - 257)).2).1).2.1).1 + ((Huff.read ds (r.bits (Infl.lengthBase (s - 257)).2).1).1.bits (Infl.distBase (Huff.read ds (r.bits (Infl.lengthBase (s - 257)).2).1).2.1).2).2.1) ((Infl.lengthBase (s - 257)).1 + (r.bits (Infl.lengthBase (s - 257)).2).2.1 - k) o = Infl.copyGo most ((Infl.distBase (Huff.read ds (r.bits (Infl.lengthBase (s - 257)).2).1).2.1).1 + ((Huff.read ds (r.bits (Infl.lengthBase (s - 257)).2).1).1.bits (Infl.distBase (Huff.read ds (r.bits (Infl.lengthBase (s - 257)).2).1).2.1).2).2.1) ((Infl.lengthBase (s - 257)).1 + (r.bits (Infl.lengthBase (s - 257)).2).2.1) out) ∧ m = ((Infl.lengthBase (s - 257)).1 + (r.bits (Infl.lengthBase (s - 257)).2).2.1) - k ∧ L = [(0, .pointer (some ⟨b, 0, none⟩)), (13, .int .i64 ((Infl.distBase (Huff.read ds (r.bits (Infl.lengthBase (s - 257)).2).1).2.1).1 + ((Huff.read ds (r.bits (Infl.lengthBase (s - 257)).2).1).1.bits (Infl.distBase (Huff.read ds (r.bits (Infl.lengthBase (s - 257)).2).1).2.1).2).2.1 : Nat)), (79, .int .i64 ((Infl.lengthBase (s - 257)).1 + (r.bits (Infl.lengthBase (s - 257)).2).2.1 : Nat)), (80, .int .i64 k)] ∧ H = [StAt b rb o most, TabAt bd ds, RdAt rb ((Huff.read ds (r.bits (Infl.lengthBase (s - 257)).2).1).1.bits (Infl.distBase (Huff.read ds (r.bits (Infl.lengthBase (s - 257)).2).1).2.1).2).1] ++ F) (((Infl.lengthBase (s - 257)).1 + (r.bits (Infl.lengthBase (s - 257)).2).2.1) - 0) (hl := [_, _, _]) (⟨0, out, Nat.zero_le _, ⟨ho, by omega, rfl⟩, rfl, rfl, rfl⟩) sB rfl tK sF ?_)))
       rintro m L H ⟨k, o, hk, ⟨hol, hob, hcp⟩, rfl, rfl, rfl⟩
       try dsimp only [List.cons_append, List.nil_append]
       refine CG.sr (G.q rfl rfl rfl rfl (q_lss rfl rfl rfl) (G.nil (EN.ts ?_)))
       refine CG.cond rfl (fun h81 => ?_) (fun h81 => ?_)
       ·
        rw [show (Infl.lengthBase (s - 257)).1 + (r.bits (Infl.lengthBase (s - 257)).2).2.1 - k = ((Infl.lengthBase (s - 257)).1 + (r.bits (Infl.lengthBase (s - 257)).2).2.1 - (k + 1)) + 1 by omega, Infl.copyGo] at hcp
        refine CG.skip (EN.ts (CG.block (CG.seq ?_)))
        refine CG.openS (StP b rb o most) tK1 (fun v => ?_)
        unfold StP
        dsimp only [List.cons_append, List.nil_append]
        refine CG.openOwn (v := v) tK1 oM (fun gv cv xv hv hcv hmv hlv htv => ?_)
        cases hv
        have e93 : (o.length : Int) - ((Infl.distBase (Huff.read ds (r.bits (Infl.lengthBase (s - 257)).2).1).2.1).1 + ((Huff.read ds (r.bits (Infl.lengthBase (s - 257)).2).1).1.bits (Infl.distBase (Huff.read ds (r.bits (Infl.lengthBase (s - 257)).2).1).2.1).2).2.1 : Nat) = ((o.length - ((Infl.distBase (Huff.read ds (r.bits (Infl.lengthBase (s - 257)).2).1).2.1).1 + ((Huff.read ds (r.bits (Infl.lengthBase (s - 257)).2).1).1.bits (Infl.distBase (Huff.read ds (r.bits (Infl.lengthBase (s - 257)).2).1).2.1).2).2.1) : Nat) : Int) := by omega
        refine CG.regT [] mixed (by kernel_rfl) ?_
        refine G.mv ?_
        refine G.mv ?_
        refine G.np ?_
        refine G.q rfl rfl rfl rfl (q_field0 rfl rfl fo_119_1_F6) (G.ld ag_80_F2 ?_)
        refine G.mv ?_
        refine G.np ?_
        refine G.q rfl rfl rfl rfl (q_field0 rfl rfl fo_119_1_F6) (G.ld ag_80_F2 ?_)
        refine G.q rfl rfl rfl rfl (q_len_sl rfl rfl se_80_F2) (G.mv ?_)
        refine G.q rfl rfl rfl rfl (q_sub_i rfl rfl rfl oM) ?_
        rw [e93]
        refine G.q rfl rfl rfl rfl (q_ixaddr1 rfl rfl rfl se_80_F2 sz_5_F6 oM) (G.r rfl rfl rfl rfl (r_load rfl rfl ag_5_F6 .here (nth_take htv (get_u8 (getD_u8 oM)))) ?_)
        refine G.closeOwn (g := gv) tK1 hcv hmv hlv htv ?_
        refine G.closeS (StP b rb o most) _ tK ?_
        refine G.call (xs := [_, _]) rfl rfl (put_spec b rb o most (o.getD (o.length - ((Infl.distBase (Huff.read ds (r.bits (Infl.lengthBase (s - 257)).2).1).2.1).1 + ((Huff.read ds (r.bits (Infl.lengthBase (s - 257)).2).1).1.bits (Infl.distBase (Huff.read ds (r.bits (Infl.lengthBase (s - 257)).2).1).2.1).2).2.1)) 0) oM oM) bd_107_F6 rfl rfl rfl rfl tK (fun _ _ _ _ _ _ => trivial) ?_
        rintro _ _ ⟨rfl, rfl⟩
        try dsimp only [List.cons_append, List.nil_append]
        refine G.as ?_
        refine G.nil (EN.sub (sC 0 (sC 13 (sC 14 (sC 79 (sC 80 Sub.nil))))) ?_)
        refine EN.tsr (G.mv ?_)
        refine G.q rfl rfl rfl rfl (q_neq rfl rfl rfl) (G.nil (EN.then ?_))
        refine CG.cond rfl (fun h98 => ?_) (fun h98 => ?_)
        ·
         have hom : o.length = most := by
           rcases Nat.lt_or_ge o.length most with h1 | h1
           · rw [if_neg oM] at h98; exact absurd rfl h98
           · omega
         rw [if_pos hom] at hcp
         rw [← hcp] at hE0
         rw [if_pos hom, if_pos hom]
         refine CG.sr (G.mv ?_)
         refine G.as ?_
         refine G.nil (EN.then (CG.ret (EN.in_ret ?_)))
         refine EN.then_ret (EN.then_ret (EN.in_ret ?_))
         refine EN.then_ret ?_
         skip
         rw [← hE0]
         try dsimp only
         exact fin_ret1 rfl rfl tK sF (⟨rfl, rfl⟩) _ (.inl rfl)
        ·
         have hom : ¬ o.length = most := by
           intro h1; rw [if_pos h1] at h98; exact h98 (by decide)
         rw [if_neg hom] at hcp
         rw [if_neg hom, if_neg hom]
         refine CG.skip (EN.in_normal (EN.tr ?_))
         refine G.q rfl rfl rfl rfl (q_add_i rfl rfl rfl oM) (G.mv ?_)
         refine G.nil ?_
         exact EN.round (hl := [_, _, _]) (((Infl.lengthBase (s - 257)).1 + (r.bits (Infl.lengthBase (s - 257)).2).2.1) - (k + 1)) oM (⟨k + 1, _, by omega, ⟨by simp; omega, by simp; omega, hcp⟩, rfl, rfl, rfl⟩) sB rfl tK sF
       ·
        rw [show (Infl.lengthBase (s - 257)).1 + (r.bits (Infl.lengthBase (s - 257)).2).2.1 - k = 0 by omega, Infl.copyGo] at hcp
        rw [← hcp] at hE0
        refine CG.exit ?_
        refine EN.then_exit (EN.then_exit (EN.in_here ?_))
        refine EN.tsr (G.as ?_)
        refine G.nil (EN.then (CG.ret ?_))
        skip
        rw [← hE0]
        try dsimp only
        exact fin_ret1 rfl rfl tK sF (⟨rfl, rfl⟩) _ (.inl rfl)

end Go.Eng
/-
  RFC 1951 read (inflate): tables of a block.
-/
set_option linter.unusedVariables false
set_option linter.unusedSimpArgs false
namespace Go.Eng
open Go.Proofs
theorem ae_175_F7 : arrE Tryz.prog 175 = some (19, 3) := by kernel_rfl
theorem bd_124_F7 : bodied Tryz.prog 124 = true := by kernel_rfl
theorem ik_3_F7 : intK Tryz.prog 3 = some .i64 := by kernel_rfl

theorem hnew_ok {n g off c U : Nat} {cs : List Value} {ls : List Nat} (hn : ls.length = n) (hls : ∀ x ∈ ls, x ≤ 15) (hlen : 0 < n ∧ n ≤ 320) (hsl : sliceL cs off n = ls.map iv) (hb : Huff.bad ls = false) :
    Spec Tryz.prog 115 #[.slice (some ⟨g, off, none⟩) n c] [cel g U cs] (Ret fun v hl => ∃ b, v = .tuple #[.pointer (some ⟨b, 0, none⟩), .int .i64 0] ∧ hl = [TabAt b ls, cel g U cs]) := by
  subst hn
  refine Spec.mono (hnew_spec g off c U cs ls hls hlen hsl) ?_
  rintro v hl (⟨h, _⟩ | ⟨_, h⟩)
  · rw [hb] at h; cases h
  · exact h
theorem hnew_bad {n g off c U : Nat} {cs : List Value} {ls : List Nat} (hn : ls.length = n) (hls : ∀ x ∈ ls, x ≤ 15) (hlen : 0 < n ∧ n ≤ 320) (hsl : sliceL cs off n = ls.map iv) (hb : Huff.bad ls = true) :
    Spec Tryz.prog 115 #[.slice (some ⟨g, off, none⟩) n c] [cel g U cs] (Ret fun v hl => v = .tuple #[.pointer none, .int .i64 4] ∧ hl = [cel g U cs]) := by
  subst hn
  refine Spec.mono (hnew_spec g off c U cs ls hls hlen hsl) ?_
  rintro v hl (⟨_, h⟩ | ⟨h, _⟩)
  · exact h
  · rw [hb] at h; cases h
theorem sliceL_all (xs : List Value) {n : Nat} (h : xs.length = n) : sliceL xs 0 n = xs := by subst h; simp [sliceL]
theorem sliceL_take {cur : List Value} {l : List Nat} {n : Nat} (h : cur.take (l.length * 1) = l.map iv) (hn : n ≤ l.length) : sliceL cur 0 n = (l.take n).map iv := by
  rw [List.map_take, ← h]; simp [sliceL, List.take_take, Nat.min_eq_left hn]
theorem sliceL_drop {cur : List Value} {l : List Nat} {n : Nat} (h : cur.take (l.length * 1) = l.map iv) : sliceL cur (0 + n * 1) (l.length - n) = (l.drop n).map iv := by
  rw [List.map_drop, ← h]; simp [sliceL, List.drop_take]
theorem own_rep {e : Nat} {u : Value} {l : List Nat} {j x : Nat} : own e 1 u ((l ++ List.replicate j x).length + 1) ((l ++ List.replicate j x).map iv ++ [.int .i64 (x : Int)]) = own e 1 u (l ++ List.replicate (j + 1) x).length ((l ++ List.replicate (j + 1) x).map iv) := by
  rw [own_snocI, List.append_assoc, ← List.replicate_succ']
attribute [local irreducible] cel own exS Huff.sorted Huff.cntC Huff.read RD.bits Infl.lensGo Infl.clGo Infl.repK

set_option maxRecDepth 100000 in
set_option maxHeartbeats 1000000 in
theorem tables_spec (b rb : Nat) (r : RD) (out : List UInt8) (most : Nat) (hr : r.Ok) : Spec Tryz.prog 105 #[.pointer (some ⟨b, 0, none⟩)] [StAt b rb out most, RdAt rb r] (Ret fun v hl => ((Infl.tables r).err ≠ 0 ∧ v = .tuple #[.pointer none, .pointer none, .int .i64 (Infl.tables r).err] ∧ hl = [StAt b rb out most, RdAt rb (Infl.tables r).r]) ∨ ((Infl.tables r).err = 0 ∧ ∃ bl bd, v = .tuple #[.pointer (some ⟨bl, 0, none⟩), .pointer (some ⟨bd, 0, none⟩), .int .i64 0] ∧ hl = [TabAt bl (Infl.tables r).lit, TabAt bd (Infl.tables r).dist, StAt b rb out most, RdAt rb (Infl.tables r).r])) := by
 obtain ⟨T, hT⟩ : ∃ T, Infl.tables r = T := ⟨_, rfl⟩
 have hE := hT
 unfold Infl.tables at hE
 dsimp only at hE
 rw [hT]
 have hx1 := RD.bits_ok hr (n := 14) oM
 have hx2 := RD.bits_lt r 14
 refine Spec.enter Tryz.func105 rfl rfl rfl (fun F w0 => ?_)
 dsimp only [argL, List.cons_append, List.nil_append]
 refine CG.seq ?_
 refine CG.openS (StP b rb out most) tK1 (fun v => ?_)
 unfold StP
 dsimp only [List.cons_append, List.nil_append]
 refine CG.reg (G.as ?_)
 refine G.as ?_
 refine G.as ?_
 refine G.nil (EN.tsr (G.mv ?_))
 refine G.np ?_
 refine G.q rfl rfl rfl rfl (q_field0 rfl rfl fo_119_0_F6) (G.ld ag_116_F6 ?_)
 refine G.call (xs := [_, _]) rfl rfl (rbits_spec rb r 14 hr oM) bd_103_F5 rfl rfl rfl rfl tK (fun _ _ _ _ _ _ => trivial) ?_
 rintro _ _ ⟨rfl, rfl⟩
 try dsimp only [List.cons_append, List.nil_append]
 refine G.mv ?_
 refine G.q rfl rfl rfl rfl (q_extract rfl rfl rfl) (G.q rfl rfl rfl rfl (q_extract rfl rfl rfl) (G.as ?_))
 refine G.as ?_
 refine G.nil (EN.ts (CG.sr (G.mv ?_)))
 refine G.q rfl rfl rfl rfl (q_not rfl rfl) (G.nil (EN.sub (sC 0 (sC 2 (sC 3 (sC 4 (sC 5 (sC 37 Sub.nil)))))) ?_))
 refine EN.then ?_
 refine CG.condB rfl (fun h37 => ?_) (fun h37 => ?_)
 ·
  rw [if_pos (by simpa using h37)] at hE
  refine CG.sr (G.as ?_)
  refine G.as ?_
  refine G.as ?_
  refine G.nil (EN.then (CG.ret (EN.then_ret (EN.closeS (StP b rb out most) _ tK ?_))))
  rw [← hE]
  try dsimp only
  exact fin_ret3 rfl rfl rfl rfl tK sF (.inl ⟨by decide, rfl, rfl⟩) _ (.inl rfl)
 ·
  rw [if_neg (by simpa using h37)] at hE
  obtain ⟨nl, hnl⟩ : ∃ n, (r.bits 14).2.1 % 32 + 257 = n := ⟨_, rfl⟩
  obtain ⟨nd, hnd⟩ : ∃ n, (r.bits 14).2.1 / 32 % 32 + 1 = n := ⟨_, rfl⟩
  obtain ⟨nc, hnc⟩ : ∃ n, (r.bits 14).2.1 / 1024 + 4 = n := ⟨_, rfl⟩
  rw [hnl, hnd, hnc] at hE
  have e7 : (((r.bits 14).2.1 : Nat) : Int) % 32 + 257 = nl := by omega
  have e8 : (((r.bits 14).2.1 : Nat) : Int) / 32 % 32 + 1 = nd := by omega
  have e9 : (((r.bits 14).2.1 : Nat) : Int) / 1024 + 4 = nc := by omega
  refine CG.skip (EN.tsr (G.mv ?_))
  refine G.q rfl rfl rfl rfl (q_andm (j := 5) (d := 32) rfl rfl rfl lOm lOm (by decide) (by decide) (by decide)) (G.q rfl rfl rfl rfl (q_conv_in rfl rfl is_28_F2 ik_3_F7 (wrap64_in oM)) (G.q rfl rfl rfl rfl (q_add_i rfl rfl rfl oM) (G.mv ?_)))
  refine G.q rfl rfl rfl rfl (q_shrc (d := 32) rfl rfl rfl (by decide) (by decide)) (G.q rfl rfl rfl rfl (q_andm (j := 5) (d := 32) rfl rfl rfl lOm lOm (by decide) (by decide) (by decide)) (G.q rfl rfl rfl rfl (q_conv_in rfl rfl is_28_F2 ik_3_F7 (wrap64_in oM)) (G.q rfl rfl rfl rfl (q_add_i rfl rfl rfl oM) (G.mv ?_))))
  refine G.q rfl rfl rfl rfl (q_shrc (d := 1024) rfl rfl rfl (by decide) (by decide)) (G.q rfl rfl rfl rfl (q_conv_in rfl rfl is_28_F2 ik_3_F7 (wrap64_in oM)) (G.q rfl rfl rfl rfl (q_add_i rfl rfl rfl oM) (G.as ?_)))
  refine G.as ?_
  refine G.as ?_
  refine G.nil (EN.sub (sC 0 (sC 2 (sC 3 (sC 4 (sC 7 (sC 8 (sC 9 Sub.nil))))))) ?_)
  refine EN.ts (CG.seq ?_)
  rw [e7, e8, e9]
  refine CG.reg (G.mv ?_)
  refine G.q rfl rfl rfl rfl (q_gtr rfl rfl rfl) (G.mv ?_)
  refine G.split (t := 53) rfl (fun g53 => ?_) (fun g53 => ?_)
  ·
   rw [if_pos oM] at hE
   refine G.skip rfl rfl rfl (G.skip rfl rfl rfl (G.q rfl rfl rfl rfl (q_pick_t rfl rfl rfl) (G.nil (EN.then (CG.cond_t rfl ?_)))))
   refine CG.sr (G.as ?_)
   refine G.as ?_
   refine G.as ?_
   refine G.nil (EN.then (CG.ret (EN.then_ret (EN.closeS (StP b rb out most) _ tK ?_))))
   rw [← hE]
   try dsimp only
   exact fin_ret3 rfl rfl rfl rfl tK sF (.inl ⟨by decide, rfl, rfl⟩) _ (.inl rfl)
  ·
   refine G.mv ?_
   refine G.q rfl rfl rfl rfl (q_gtr rfl rfl rfl) (G.q rfl rfl rfl rfl (q_pick_f rfl rfl rfl) (G.nil (EN.then ?_)))
   refine CG.cond rfl (fun h56 => ?_) (fun h56 => ?_)
   ·
    rw [if_pos oM] at hE
    refine CG.sr (G.as ?_)
    refine G.as ?_
    refine G.as ?_
    refine G.nil (EN.then (CG.ret (EN.then_ret (EN.closeS (StP b rb out most) _ tK ?_))))
    rw [← hE]
    try dsimp only
    exact fin_ret3 rfl rfl rfl rfl tK sF (.inl ⟨by decide, rfl, rfl⟩) _ (.inl rfl)
   ·
    rw [if_neg oM] at hE
    refine CG.skip (EN.tsr (G.e rfl rfl rfl rfl (e_makeSlice (n := 19) rfl rfl rfl se_78_F5 nf_3_F5 oM) (fun _ _ _ _ _ _ => trivial) ?_))
    rintro _ _ ⟨b57, rfl, rfl⟩
    refine G.as ?_
    refine G.nil (EN.ts (CG.sr (G.mv ?_)))
    refine G.mv ?_
    refine G.nil (EN.then (CG.block (CG.loopI (fun m L H => ∃ k : Nat, ∃ (f : List Nat), ∃ (q : RD), k ≤ nc ∧ (q.Ok ∧ f.length = 19 ∧ (∀ x ∈ f, x ≤ 15) ∧ Infl.clGo ((Infl.order.take nc).drop k) q f = Infl.clGo (Infl.order.take nc) (r.bits 14).1 (List.replicate 19 0)) ∧ m = (nc) - k ∧ L = [(0, .pointer (some ⟨b, 0, none⟩)), (7, .int .i64 nl), (8, .int .i64 nd), (10, .slice (some ⟨b57, 0, none⟩) f.length 19), (58, .int .i64 nc), (59, .int .i64 k)] ∧ H = [cel b57 3 (f.map iv), cel b 119 [.pointer (some ⟨rb, 0, none⟩), v, .int .i64 most], own 5 1 v out.length (out.map u8v), RdAt rb q] ++ F) ((nc) - 0) (hl := [_, _, _, _]) (⟨0, List.replicate 19 0, (r.bits 14).1, Nat.zero_le _, ⟨hx1, rfl, by intro x hx; have := List.eq_of_mem_replicate hx; omega, rfl⟩, rfl, rfl, rfl⟩) sB rfl tK sF ?_)))
    rintro m L H ⟨k, f, q, hk, ⟨hq, hfl, hf15, hgo⟩, rfl, rfl, rfl⟩
    try dsimp only [List.cons_append, List.nil_append]
    refine CG.sr (G.q rfl rfl rfl rfl (q_lss rfl rfl rfl) (G.nil (EN.ts ?_)))
    refine CG.cond rfl (fun h60 => ?_) (fun h60 => ?_)
    ·
     obtain ⟨o, ho⟩ := get_some (l := Infl.order) (k := k) (by have : Infl.order.length = 19 := rfl; omega)
     have ho18 : o ≤ 18 := (by decide : ∀ x ∈ Infl.order, x ≤ 18) o (List.mem_of_getElem? ho)
     rw [drop_cons (o := o) (by rw [List.getElem?_take, if_pos oM]; exact ho), Infl.clGo] at hgo
     have hb3 := RD.bits_lt q 3
     have hq2 := RD.bits_ok hq (n := 3) oM
     have hfs : f.length = (f.set o (q.bits 3).2.1).length := by simp
     have hfl2 : (f.set o (q.bits 3).2.1).length = 19 := by simpa using hfl
     have hf2 : ∀ x ∈ f.set o (q.bits 3).2.1, x ≤ 15 := by
       intro x hx
       rcases List.mem_or_eq_of_mem_set hx with h1 | h1
       · exact hf15 x h1
       · omega
     refine CG.skip (EN.ts (CG.block (CG.sr (G.mv ?_))))
     refine G.as ?_
     refine G.nil (EN.tsr (G.mv ?_))
     refine G.np ?_
     refine G.q rfl rfl rfl rfl (q_field0 rfl rfl fo_119_0_F6) (G.ld ag_116_F6 ?_)
     refine G.call (xs := [_, _]) rfl rfl (rbits_spec rb q 3 hq oM) bd_103_F5 rfl rfl rfl rfl tK (fun _ _ _ _ _ _ => trivial) ?_
     rintro _ _ ⟨rfl, rfl⟩
     try dsimp only [List.cons_append, List.nil_append]
     refine G.mv ?_
     refine G.q rfl rfl rfl rfl (q_extract rfl rfl rfl) (G.q rfl rfl rfl rfl (q_extract rfl rfl rfl) (G.as ?_))
     refine G.as ?_
     refine G.nil (EN.sub (sC 0 (sC 7 (sC 8 (sC 10 (sC 11 (sC 12 (sC 13 (sC 58 (sC 59 Sub.nil))))))))) ?_)
     refine EN.ts (CG.sr (G.mv ?_))
     refine G.q rfl rfl rfl rfl (q_not rfl rfl) (G.nil (EN.then ?_))
     refine CG.condB rfl (fun h71 => ?_) (fun h71 => ?_)
     ·
      rw [if_pos (by simpa using h71)] at hgo
      rw [← hgo] at hE
      dsimp only at hE
      rw [if_pos rfl] at hE
      refine CG.sr (G.as ?_)
      refine G.as ?_
      refine G.as ?_
      refine G.nil (EN.then (CG.ret (EN.then_ret (EN.in_ret ?_))))
      refine EN.then_ret (EN.then_ret (EN.in_ret ?_))
      refine EN.then_ret (EN.closeS (StP b rb out most) _ tK ?_)
      rw [← hE]
      try dsimp only
      exact fin_ret3 rfl rfl rfl rfl tK sF (.inl ⟨by decide, rfl, rfl⟩) _ (.inl rfl)
     ·
      rw [if_neg (by simpa using h71)] at hgo
      refine CG.skip (EN.tr ?_)
      refine G.mv ?_
      refine G.call (xs := []) rfl rfl (order_spec) bd_124_F7 rfl rfl rfl rfl tK (fun _ _ _ _ _ _ => trivial) ?_
      rintro _ _ ⟨rfl, rfl⟩
      try dsimp only [List.cons_append, List.nil_append]
      refine G.mv ?_
      refine G.q rfl rfl rfl rfl (q_ixagg rfl rfl rfl ae_175_F7 sz_3_F1 ag_3_F1 oM (get_iv ho)) (G.mv ?_)
      refine G.q rfl rfl rfl rfl (q_conv_in rfl rfl is_28_F2 ik_3_F7 (wrap64_in oM)) (G.q rfl rfl rfl rfl (q_ixaddr1 rfl rfl rfl se_78_F5 sz_3_F1 oM) ?_)
      refine G.e0 rfl rfl rfl (e_store rfl rfl rfl sz_3_F1 rfl (set_iv oM) (.there .here)) (fun _ _ _ _ _ _ => trivial) ?_
      rintro _ _ ⟨rfl, rfl⟩
      refine G.nil (EN.sub (sC 0 (sC 7 (sC 8 (sC 10 (sC 58 (sC 59 Sub.nil)))))) ?_)
      refine EN.in_normal (EN.tr ?_)
      refine G.q rfl rfl rfl rfl (q_add_i rfl rfl rfl oM) (G.mv ?_)
      refine G.nil ?_
      rw [hfs]
      exact EN.round (hl := [_, _, _, _]) ((nc) - (k + 1)) oM (⟨k + 1, _, _, by omega, ⟨hq2, hfl2, hf2, hgo⟩, rfl, rfl, rfl⟩) sB rfl tK sF
    ·
     obtain rfl : k = nc := by omega
     rw [List.drop_eq_nil_of_le (by simp; omega), Infl.clGo] at hgo
     rw [← hgo] at hE
     dsimp only at hE
     rw [if_neg (by simp)] at hE
     rw [hfl]
     refine CG.exit ?_
     refine EN.then_exit (EN.then_exit (EN.in_here ?_))
     refine EN.ts ?_
     cases hb1 : Huff.bad f
     ·
      rw [if_neg (by rw [hb1]; simp)] at hE
      refine CG.reg (G.mv ?_)
      refine G.call (xs := [_]) rfl rfl (hnew_ok hfl hf15 oM (sliceL_all _ (by simpa using hfl)) hb1) bd_115_F6 rfl rfl rfl rfl tK (fun _ _ _ _ _ _ => trivial) ?_
      rintro _ _ ⟨bnhb1, rfl, rfl⟩
      try dsimp only [List.cons_append, List.nil_append]
      refine G.mv ?_
      refine G.q rfl rfl rfl rfl (q_extract rfl rfl rfl) (G.q rfl rfl rfl rfl (q_extract rfl rfl rfl) (G.as ?_))
      refine G.as ?_
      refine G.nil (EN.sub (sC 0 (sC 7 (sC 8 (sC 14 (sC 15 Sub.nil))))) ?_)
      refine EN.ts (CG.sr (G.mv ?_))
      refine G.q rfl rfl rfl rfl (q_neq rfl rfl rfl) (G.nil (EN.then ?_))
      refine CG.cond rfl (fun h86 => absurd h86 (by decide)) (fun h86 => ?_)
      refine CG.skip (EN.ts ?_)
      obtain ⟨Z, hZ⟩ : ∃ Z, Infl.lensGo f (nl + nd) (nl + nd + 1) q [] = Z := ⟨_, rfl⟩
      rw [hZ] at hE
      refine CG.reg (G.as ?_)
      refine G.nil (EN.ts (CG.block ?_))
      have hqq := hq
      refine CG.ownNil 3 1 ?_
      refine CG.loopI (fun m L H => ∃ (q : RD) (l : List Nat) (u : Value), q.Ok ∧ (∀ x ∈ l, x ≤ 15) ∧ l.length ≤ nl + nd ∧ nl + nd < m + l.length ∧ Infl.lensGo f (nl + nd) m q l = Z ∧ L = [(0, .pointer (some ⟨b, 0, none⟩)), (7, .int .i64 nl), (8, .int .i64 nd), (14, .pointer (some ⟨bnhb1, 0, none⟩)), (16, u)] ∧ H = [TabAt bnhb1 f, own 3 1 u l.length (l.map iv), cel b 119 [.pointer (some ⟨rb, 0, none⟩), v, .int .i64 most], own 5 1 v out.length (out.map u8v), RdAt rb q] ++ F) (nl + nd + 1) (hl := [_, _, _, _, _]) (⟨_, [], .slice none 0 0, hqq, by simp, by simp, by simp, hZ, rfl, rfl⟩) sB rfl tK sF ?_
      rintro m L H ⟨q, l, u, hq, hl15, hll, hml, hgo, rfl, rfl⟩
      try dsimp only [List.cons_append, List.nil_append]
      refine CG.ownShape u tK1 (fun ad2 c4 h2 => ?_)
      subst h2
      obtain ⟨g, rfl⟩ : ∃ g, m = g + 1 := ⟨m - 1, by omega⟩
      rw [Infl.lensGo] at hgo
      refine CG.seq (CG.sr (G.mv ?_))
      refine G.q rfl rfl rfl rfl (q_len_sl rfl rfl se_78_F5) (G.mv ?_)
      refine G.mv ?_
      refine G.q rfl rfl rfl rfl (q_add_i rfl rfl rfl oM) (G.q rfl rfl rfl rfl (q_lss rfl rfl rfl) (G.nil (EN.then ?_)))
      refine CG.cond rfl (fun h92 => ?_) (fun h92 => ?_)
      ·
       rw [if_neg oM] at hgo
       have hs1 := (Huff.read_ok f hq).1
       obtain ⟨y, hy⟩ : ∃ y, Huff.read f q = y := ⟨_, rfl⟩
       rw [hy] at hgo hs1
       refine CG.skip (EN.then (CG.block (CG.sr (G.mv ?_))))
       refine G.mv ?_
       refine G.np ?_
       refine G.q rfl rfl rfl rfl (q_field0 rfl rfl fo_119_0_F6) (G.ld ag_116_F6 ?_)
       refine G.call (xs := [_, _]) rfl rfl (hread_spec bnhb1 rb f q hq oM) bd_106_F6 rfl rfl rfl rfl tK (fun _ _ _ _ _ _ => trivial) ?_
       rintro _ _ ⟨rfl, rfl⟩
       try dsimp only [List.cons_append, List.nil_append]
       refine G.mv ?_
       refine G.q rfl rfl rfl rfl (q_extract rfl rfl rfl) (G.q rfl rfl rfl rfl (q_extract rfl rfl rfl) (G.as ?_))
       refine G.as ?_
       refine G.nil (EN.sub (sC 0 (sC 7 (sC 8 (sC 14 (sC 16 (sC 17 (sC 18 Sub.nil))))))) ?_)
       refine EN.ts (CG.seq ?_)
       rw [hy]
       refine CG.reg (G.mv ?_)
       refine G.q rfl rfl rfl rfl (q_neq rfl rfl rfl) (G.nil (EN.then ?_))
       refine CG.cond rfl (fun h103 => ?_) (fun h103 => ?_)
       ·
        rw [if_pos oM] at hgo
        rw [← hgo] at hE
        dsimp only at hE
        rw [if_pos oM] at hE
        refine CG.sr (G.mv ?_)
        refine G.as ?_
        refine G.as ?_
        refine G.as ?_
        refine G.nil (EN.then (CG.ret (EN.then_ret (EN.in_ret ?_))))
        refine EN.then_ret (EN.in_ret ?_)
        refine EN.then_ret (EN.closeS (StP b rb out most) _ tK ?_)
        rw [← hE]
        try dsimp only
        exact fin_ret3 rfl rfl rfl rfl tK sF (.inl ⟨by omega, rfl, rfl⟩) _ (.inl rfl)
       ·
        rw [if_neg oM] at hgo
        refine CG.skip (EN.ts (CG.sr (G.mv ?_)))
        refine G.q rfl rfl rfl rfl (q_lss rfl rfl rfl) (G.nil (EN.then ?_))
        refine CG.cond rfl (fun h106 => ?_) (fun h106 => ?_)
        ·
         rw [if_pos oM] at hgo
         have hq2 := hs1
         have hl2 : ∀ x ∈ l ++ [y.2.1], x ≤ 15 := by
           intro x hx
           rcases List.mem_append.1 hx with h1 | h1
           · exact hl15 x h1
           · have := List.mem_singleton.1 h1; omega
         have hll2 : (l ++ [y.2.1]).length ≤ nl + nd := by simp; omega
         have hml2 : nl + nd < g + (l ++ [y.2.1]).length := by simp; omega
         refine CG.sr (G.mv ?_)
         refine G.mv ?_
         refine G.e rfl rfl rfl rfl (e_bslice rfl rfl (bs_78_1_all_F5 _)) (fun _ _ _ _ _ _ => trivial) ?_
         rintro _ _ ⟨b109, rfl, rfl⟩
         refine G.e rfl rfl rfl rfl (e_append rfl rfl rfl se_78_F5 nf_3_F5 rfl tK1 mB (by rfl) (by simp [Value.oneCell', str]) oM) (fun _ _ _ _ _ _ => trivial) ?_
         rintro _ _ rfl
         rw [own_snocI]
         refine G.ownShape tK1 ?_
         rintro ad3 c5 rfl
         refine G.as ?_
         refine G.nil (EN.sub (sC 0 (sC 7 (sC 8 (sC 14 (sC 16 (sC 17 Sub.nil)))))) ?_)
         refine EN.then (CG.exit ?_)
         refine EN.then_exit (EN.in_here ?_)
         exact EN.round (hl := [_, _, _, _, _]) (g) oM (⟨_, _, _, hq2, hl2, hll2, hml2, hgo, rfl, rfl⟩) sB rfl tK sF
        ·
         rw [if_neg oM] at hgo
         refine CG.skip (EN.tsr (G.as ?_))
         refine G.as ?_
         refine G.as ?_
         refine G.nil (EN.then ?_)
         refine CG.cut (fun L H => ∃ (u : Value) (bts least what : Nat), bts ≤ 32 ∧ bts ≤ 7 ∧ 3 ≤ least ∧ least ≤ 11 ∧ what ≤ 15 ∧ Infl.repK (nl + nd) (Infl.lensGo f (nl + nd) g) y.1 l bts least what = Z ∧ L = [(0, .pointer (some ⟨b, 0, none⟩)), (7, .int .i64 nl), (8, .int .i64 nd), (14, .pointer (some ⟨bnhb1, 0, none⟩)), (16, u), (19, .int .i64 bts), (20, .int .i64 least), (21, .int .i64 what)] ∧ H = [TabAt bnhb1 f, own 3 1 u l.length (l.map iv), cel b 119 [.pointer (some ⟨rb, 0, none⟩), v, .int .i64 most], own 5 1 v out.length (out.map u8v), RdAt rb y.1] ++ F) ?_ ?_
         ·
          refine CG.sr (G.mv ?_)
          refine G.nil (EN.then (CG.block (CG.sr (G.q rfl rfl rfl rfl (q_eql rfl rfl rfl) (G.as ?_)))))
          refine G.nil (EN.then ?_)
          refine CG.cond rfl (fun h112 => ?_) (fun h112 => ?_)
          ·
           rw [if_pos oM] at hgo
           refine CG.seq (CG.sr (G.mv ?_))
           refine G.q rfl rfl rfl rfl (q_len_sl rfl rfl se_78_F5) (G.q rfl rfl rfl rfl (q_eql rfl rfl rfl) (G.nil (EN.sub (sC 0 (sC 7 (sC 8 (sC 14 (sC 16 (sC 19 (sC 20 (sC 21 (sC 116 Sub.nil))))))))) ?_)))
           refine EN.then ?_
           refine CG.cond rfl (fun h116 => ?_) (fun h116 => ?_)
           ·
            rw [if_pos oM] at hgo
            rw [← hgo] at hE
            dsimp only at hE
            rw [if_pos (by decide)] at hE
            refine CG.sr (G.as ?_)
            refine G.as ?_
            refine G.as ?_
            refine G.nil (EN.then (CG.ret (EN.then_ret (EN.in_ret ?_))))
            refine EN.then_ret (EN.in_ret ?_)
            refine EN.then_ret (EN.in_ret ?_)
            refine EN.then_ret (EN.closeS (StP b rb out most) _ tK ?_)
            rw [← hE]
            try dsimp only
            exact fin_ret3 rfl rfl rfl rfl tK sF (.inl ⟨by decide, rfl, rfl⟩) _ (.inl rfl)
           ·
            rw [if_neg oM] at hgo
            have hwl : l.getD (l.length - 1) 0 ≤ 15 := hl15 _ (List.mem_of_getElem? (getD_iv oM))
            have e120 : (l.length : Int) - 1 = (l.length - 1 : Nat) := by omega
            refine CG.openOwn (v := .slice ad2 l.length c4) tK1 oM (fun gv cv xv hv hcv hmv hlv htv => ?_)
            cases hv
            have hp1 : 2 ≤ 32 := by omega
            have hp2 : 2 ≤ 7 := by omega
            have hp3 : 3 ≤ 3 := by omega
            have hp4 : 3 ≤ 11 := by omega
            have hp5 : l.getD (l.length - 1) 0 ≤ 15 := by first | omega | exact hwl
            refine CG.skip (EN.tr ?_)
            refine G.mv ?_
            refine G.mv ?_
            refine G.q rfl rfl rfl rfl (q_len_sl rfl rfl se_78_F5) (G.q rfl rfl rfl rfl (q_sub_i rfl rfl rfl oM) ?_)
            rw [e120]
            refine G.q rfl rfl rfl rfl (q_ixaddr1 rfl rfl rfl se_78_F5 sz_3_F1 oM) (G.r rfl rfl rfl rfl (r_load rfl rfl ag_3_F1 .here (nth_take htv (get_iv (getD_iv oM)))) ?_)
            refine G.as ?_
            refine G.nil (EN.in_normal (EN.closeOwn (g := gv) tK1 hcv hmv hlv htv ?_))
            exact EN.cut (hl := [_, _, _, _, _]) (⟨_, _, _, _, hp1, hp2, hp3, hp4, hp5, hgo, rfl, rfl⟩) sB rfl tK sF
          ·
           rw [if_neg oM] at hgo
           refine CG.sr (G.q rfl rfl rfl rfl (q_eql rfl rfl rfl) (G.as ?_))
           refine G.nil (EN.sub (sC 0 (sC 7 (sC 8 (sC 14 (sC 16 (sC 19 (sC 20 (sC 21 (sC 123 Sub.nil))))))))) ?_)
           refine EN.then ?_
           refine CG.cond rfl (fun h123 => ?_) (fun h123 => ?_)
           ·
            rw [if_pos oM] at hgo
            have hp1 : 3 ≤ 32 := by omega
            have hp2 : 3 ≤ 7 := by omega
            have hp3 : 3 ≤ 3 := by omega
            have hp4 : 3 ≤ 11 := by omega
            have hp5 : 0 ≤ 15 := by first | omega | exact hwl
            refine CG.reg (G.as ?_)
            refine G.nil (EN.in_normal ?_)
            skip
            exact EN.cut (hl := [_, _, _, _, _]) (⟨_, _, _, _, hp1, hp2, hp3, hp4, hp5, hgo, rfl, rfl⟩) sB rfl tK sF
           ·
            rw [if_neg oM] at hgo
            have hp1 : 7 ≤ 32 := by omega
            have hp2 : 7 ≤ 7 := by omega
            have hp3 : 3 ≤ 11 := by omega
            have hp4 : 11 ≤ 11 := by omega
            have hp5 : 0 ≤ 15 := by first | omega | exact hwl
            refine CG.reg (G.as ?_)
            refine G.as ?_
            refine G.nil (EN.in_normal ?_)
            skip
            exact EN.cut (hl := [_, _, _, _, _]) (⟨_, _, _, _, hp1, hp2, hp3, hp4, hp5, hgo, rfl, rfl⟩) sB rfl tK sF
         ·
          rintro L H ⟨u, bts, least, what, hbts, hbts7, hle3, hle11, hw15, hgo, rfl, rfl⟩
          try dsimp only [List.cons_append, List.nil_append]
          refine CG.ownShape u tK1 (fun ad3 c5 h2 => ?_)
          subst h2
          unfold Infl.repK at hgo
          have hz1 := RD.bits_lt y.1 bts
          have hz2 := Infl.two_pow_le hbts7
          have hz3 := RD.bits_ok hs1 hbts
          refine CG.sr (G.mv ?_)
          refine G.np ?_
          refine G.q rfl rfl rfl rfl (q_field0 rfl rfl fo_119_0_F6) (G.ld ag_116_F6 ?_)
          refine G.mv ?_
          refine G.call (xs := [_, _]) rfl rfl (rbits_spec rb y.1 bts hs1 hbts) bd_103_F5 rfl rfl rfl rfl tK (fun _ _ _ _ _ _ => trivial) ?_
          rintro _ _ ⟨rfl, rfl⟩
          try dsimp only [List.cons_append, List.nil_append]
          refine G.mv ?_
          refine G.q rfl rfl rfl rfl (q_extract rfl rfl rfl) (G.q rfl rfl rfl rfl (q_extract rfl rfl rfl) (G.as ?_))
          refine G.as ?_
          refine G.nil (EN.sub (sC 0 (sC 7 (sC 8 (sC 14 (sC 16 (sC 20 (sC 21 (sC 22 (sC 23 Sub.nil))))))))) ?_)
          refine EN.ts (CG.sr (G.mv ?_))
          refine G.q rfl rfl rfl rfl (q_not rfl rfl) (G.nil (EN.then ?_))
          refine CG.condB rfl (fun h135 => ?_) (fun h135 => ?_)
          ·
           rw [if_pos (by simpa using h135)] at hgo
           rw [← hgo] at hE
           dsimp only at hE
           rw [if_pos (by decide)] at hE
           refine CG.sr (G.as ?_)
           refine G.as ?_
           refine G.as ?_
           refine G.nil (EN.then (CG.ret (EN.then_ret (EN.in_ret ?_))))
           refine EN.then_ret (EN.in_ret ?_)
           refine EN.then_ret (EN.closeS (StP b rb out most) _ tK ?_)
           rw [← hE]
           try dsimp only
           exact fin_ret3 rfl rfl rfl rfl tK sF (.inl ⟨by decide, rfl, rfl⟩) _ (.inl rfl)
          ·
           rw [if_neg (by simpa using h135)] at hgo
           refine CG.skip (EN.ts (CG.sr (G.mv ?_)))
           refine G.q rfl rfl rfl rfl (q_len_sl rfl rfl se_78_F5) (G.mv ?_)
           refine G.q rfl rfl rfl rfl (q_add_i rfl rfl rfl oM) (G.mv ?_)
           refine G.q rfl rfl rfl rfl (q_conv_in rfl rfl is_28_F2 ik_3_F7 (wrap64_in oM)) (G.q rfl rfl rfl rfl (q_add_i rfl rfl rfl oM) (G.mv ?_))
           refine G.mv ?_
           refine G.q rfl rfl rfl rfl (q_add_i rfl rfl rfl oM) (G.q rfl rfl rfl rfl (q_gtr rfl rfl rfl) (G.nil (EN.sub (sC 0 (sC 7 (sC 8 (sC 14 (sC 16 (sC 20 (sC 21 (sC 22 (sC 146 Sub.nil))))))))) ?_)))
           refine EN.then ?_
           refine CG.cond rfl (fun h146 => ?_) (fun h146 => ?_)
           ·
            rw [if_pos oM] at hgo
            rw [← hgo] at hE
            dsimp only at hE
            rw [if_pos (by decide)] at hE
            refine CG.sr (G.as ?_)
            refine G.as ?_
            refine G.as ?_
            refine G.nil (EN.then (CG.ret (EN.then_ret (EN.in_ret ?_))))
            refine EN.then_ret (EN.in_ret ?_)
            refine EN.then_ret (EN.closeS (StP b rb out most) _ tK ?_)
            rw [← hE]
            try dsimp only
            exact fin_ret3 rfl rfl rfl rfl tK sF (.inl ⟨by decide, rfl, rfl⟩) _ (.inl rfl)
           ·
            rw [if_neg oM] at hgo
            have e150 : (least : Int) + ((y.1.bits bts).2.1 : Nat) = (least + (y.1.bits bts).2.1 : Nat) := by omega
            refine CG.skip (EN.tsr (G.mv ?_))
            refine G.mv ?_
            refine G.q rfl rfl rfl rfl (q_conv_in rfl rfl is_28_F2 ik_3_F7 (wrap64_in oM)) (G.q rfl rfl rfl rfl (q_add_i rfl rfl rfl oM) (G.mv ?_))
            refine G.nil (EN.then (CG.block ?_))
            rw [e150, ← List.append_nil l]
            refine CG.loopI (fun m L H => ∃ (j : Nat) (u : Value), j ≤ least + (y.1.bits bts).2.1 ∧ m = least + (y.1.bits bts).2.1 - j ∧ L = [(0, .pointer (some ⟨b, 0, none⟩)), (7, .int .i64 nl), (8, .int .i64 nd), (14, .pointer (some ⟨bnhb1, 0, none⟩)), (16, u), (21, .int .i64 what), (150, .int .i64 (least + (y.1.bits bts).2.1 : Nat)), (151, .int .i64 j)] ∧ H = [TabAt bnhb1 f, own 3 1 u (l ++ List.replicate j what).length ((l ++ List.replicate j what).map iv), cel b 119 [.pointer (some ⟨rb, 0, none⟩), v, .int .i64 most], own 5 1 v out.length (out.map u8v), RdAt rb (y.1.bits bts).1] ++ F) (least + (y.1.bits bts).2.1) (hl := [_, _, _, _, _]) (⟨0, _, Nat.zero_le _, rfl, rfl, rfl⟩) sB rfl tK sF ?_
            rintro m L H ⟨j, u, hj, rfl, rfl, rfl⟩
            try dsimp only [List.cons_append, List.nil_append]
            refine CG.sr (G.q rfl rfl rfl rfl (q_lss rfl rfl rfl) (G.nil (EN.ts ?_)))
            refine CG.cond rfl (fun h152 => ?_) (fun h152 => ?_)
            ·
             have hj2 : j < least + (y.1.bits bts).2.1 := by omega
             refine CG.skip (EN.ts (CG.block (CG.reg (G.mv ?_))))
             refine G.mv ?_
             refine G.e rfl rfl rfl rfl (e_bslice rfl rfl (bs_78_1_all_F5 _)) (fun _ _ _ _ _ _ => trivial) ?_
             rintro _ _ ⟨b155, rfl, rfl⟩
             refine G.e rfl rfl rfl rfl (e_append rfl rfl rfl se_78_F5 nf_3_F5 rfl tK1 mB (by rfl) (by simp [Value.oneCell', str]) (by simp; omega)) (fun _ _ _ _ _ _ => trivial) ?_
             rintro _ _ rfl
             rw [own_rep]
             refine G.ownShape tK1 ?_
             rintro ad6 c6 rfl
             refine G.as ?_
             refine G.nil (EN.in_normal (EN.tr ?_))
             refine G.q rfl rfl rfl rfl (q_add_i rfl rfl rfl oM) (G.mv ?_)
             refine G.nil ?_
             exact EN.round (hl := [_, _, _, _, _]) (least + (y.1.bits bts).2.1 - (j + 1)) oM (⟨j + 1, _, by omega, rfl, rfl, rfl⟩) sB rfl tK sF
            ·
             obtain rfl : j = least + (y.1.bits bts).2.1 := by omega
             have hq2 := hz3
             have hl2 : ∀ x ∈ l ++ List.replicate (least + (y.1.bits bts).2.1) what, x ≤ 15 := by
               intro x hx
               rcases List.mem_append.1 hx with h1 | h1
               · exact hl15 x h1
               · have := List.eq_of_mem_replicate h1; omega
             have hll2 : (l ++ List.replicate (least + (y.1.bits bts).2.1) what).length ≤ nl + nd := by simp; omega
             have hml2 : nl + nd < g + (l ++ List.replicate (least + (y.1.bits bts).2.1) what).length := by simp; omega
             refine CG.exit ?_
             refine EN.then_exit (EN.then_exit (EN.in_here ?_))
             refine EN.in_normal ?_
             exact EN.round (hl := [_, _, _, _, _]) (g) oM (⟨_, _, _, hq2, hl2, hll2, hml2, hgo, rfl, rfl⟩) sB rfl tK sF
      ·
       rw [if_pos oM] at hgo
       have hlt : l.length = nl + nd := by omega
       rw [← hgo] at hE
       dsimp only at hE
       rw [if_neg (by simp)] at hE
       refine CG.openOwn (v := .slice ad2 l.length c4) tK1 oM (fun gv cv xv hv hcv hmv hlv htv => ?_)
       cases hv
       have h256 : 256 < l.length := by omega
       obtain ⟨x256, hv256⟩ : ∃ x, l.getD 256 0 = x := ⟨_, rfl⟩
       rw [hv256] at hE
       have hx256 : l[256]? = some x256 := by rw [← hv256]; exact getD_iv h256
       have hla : ∀ x ∈ l.take nl, x ≤ 15 := fun x hx => hl15 x (List.mem_of_mem_take hx)
       have hlb : ∀ x ∈ l.drop nl, x ≤ 15 := fun x hx => hl15 x (List.mem_of_mem_drop hx)
       have hna : (l.take nl).length = nl := by simp; omega
       have hnb : (l.drop nl).length = l.length - nl := by simp
       refine CG.exit ?_
       refine EN.then_exit (EN.then_exit (EN.in_here ?_))
       refine EN.ts ?_
       cases hb2 : Huff.bad (l.take nl)
       ·
        refine CG.reg (G.mv ?_)
        refine G.mv ?_
        refine G.q rfl rfl rfl rfl (q_slsl_hi rfl rfl rfl se_78_F5 sz_3_F1 oM) (G.call (xs := [_]) rfl rfl (hnew_ok hna hla oM (sliceL_take htv oM) hb2) bd_115_F6 rfl rfl rfl rfl tK (fun _ _ _ _ _ _ => trivial) ?_)
        rintro _ _ ⟨bnhb2, rfl, rfl⟩
        try dsimp only [List.cons_append, List.nil_append]
        refine G.mv ?_
        refine G.q rfl rfl rfl rfl (q_extract rfl rfl rfl) (G.q rfl rfl rfl rfl (q_extract rfl rfl rfl) (G.as ?_))
        refine G.as ?_
        refine G.nil (EN.sub (sC 7 (sC 16 (sC 24 (sC 25 Sub.nil)))) ?_)
        refine EN.ts ?_
        cases hb3 : Huff.bad (l.drop nl)
        ·
         refine CG.reg (G.mv ?_)
         refine G.mv ?_
         refine G.q rfl rfl rfl rfl (q_slsl_lo rfl rfl rfl se_78_F5 sz_3_F1 oM) (G.call (xs := [_]) rfl rfl (hnew_ok hnb hlb oM (sliceL_drop htv) hb3) bd_115_F6 rfl rfl rfl rfl tK (fun _ _ _ _ _ _ => trivial) ?_)
         rintro _ _ ⟨bnhb3, rfl, rfl⟩
         try dsimp only [List.cons_append, List.nil_append]
         refine G.mv ?_
         refine G.q rfl rfl rfl rfl (q_extract rfl rfl rfl) (G.q rfl rfl rfl rfl (q_extract rfl rfl rfl) (G.as ?_))
         refine G.as ?_
         refine G.nil (EN.ts (CG.sr (G.mv ?_)))
         refine G.q rfl rfl rfl rfl (q_ixaddr1 rfl rfl rfl se_78_F5 sz_3_F1 (h256)) (G.r rfl rfl rfl rfl (r_load rfl rfl ag_3_F1 (.there .here) (nth_take htv (get_iv hx256))) ?_)
         refine G.q rfl rfl rfl rfl (q_eql rfl rfl rfl) (G.mv ?_)
         refine G.split (t := 176) rfl (fun g176 => ?_) (fun g176 => ?_)
         ·
          refine G.skip rfl rfl rfl (G.skip rfl rfl rfl (G.q rfl rfl rfl rfl (q_pick_t rfl rfl rfl) (G.mv ?_)))
          refine G.skip rfl rfl rfl (G.skip rfl rfl rfl (G.q rfl rfl rfl rfl (q_pick_t rfl rfl rfl) (G.nil (EN.sub (sC 24 (sC 26 (sC 183 Sub.nil))) ?_))))
          refine EN.then (CG.cond_t rfl ?_)
          refine CG.seq ?_
          rw [if_pos (.inl oM)] at hE
          refine CG.reg (G.as ?_)
          refine G.as ?_
          refine G.as ?_
          refine G.nil (EN.then (CG.ret (EN.then_ret (EN.closeS (StP b rb out most) _ tK ?_))))
          rw [← hE]
          try dsimp only
          exact fin_ret3 rfl rfl rfl rfl tK sF (.inl ⟨by decide, rfl, rfl⟩) _ (.inl rfl)
         ·
          refine G.mv ?_
          refine G.q rfl rfl rfl rfl (q_neq rfl rfl rfl) (G.q rfl rfl rfl rfl (q_pick_f rfl rfl rfl) (G.mv ?_))
          refine G.split (t := 180) rfl (fun g180 => absurd g180 (by decide)) (fun g180 => ?_)
          refine G.mv ?_
          refine G.q rfl rfl rfl rfl (q_neq rfl rfl rfl) (G.q rfl rfl rfl rfl (q_pick_f rfl rfl rfl) (G.nil (EN.sub (sC 24 (sC 26 (sC 183 Sub.nil))) ?_)))
          refine EN.then ?_
          refine CG.cond rfl (fun h183 => absurd h183 (by decide)) (fun h183 => ?_)
          refine CG.skip (EN.ts ?_)
          rw [if_neg (by rintro (h | h | h) <;> first | omega | (rw [hb2] at h; cases h) | (rw [hb3] at h; cases h))] at hE
          refine CG.reg (G.mv ?_)
          refine G.mv ?_
          refine G.as ?_
          refine G.as ?_
          refine G.as ?_
          refine G.nil (EN.then (CG.ret (EN.closeS (StP b rb out most) _ tK ?_)))
          rw [← hE]
          try dsimp only
          exact fin_ret3 rfl rfl rfl rfl tK sF (.inr ⟨rfl, bnhb2, bnhb3, rfl, rfl⟩) _ (.inl rfl)
        ·
         refine CG.reg (G.mv ?_)
         refine G.mv ?_
         refine G.q rfl rfl rfl rfl (q_slsl_lo rfl rfl rfl se_78_F5 sz_3_F1 oM) (G.call (xs := [_]) rfl rfl (hnew_bad hnb hlb oM (sliceL_drop htv) hb3) bd_115_F6 rfl rfl rfl rfl tK (fun _ _ _ _ _ _ => trivial) ?_)
         rintro _ _ ⟨rfl, rfl⟩
         try dsimp only [List.cons_append, List.nil_append]
         refine G.mv ?_
         refine G.q rfl rfl rfl rfl (q_extract rfl rfl rfl) (G.q rfl rfl rfl rfl (q_extract rfl rfl rfl) (G.as ?_))
         refine G.as ?_
         refine G.nil (EN.ts (CG.sr (G.mv ?_)))
         refine G.q rfl rfl rfl rfl (q_ixaddr1 rfl rfl rfl se_78_F5 sz_3_F1 (h256)) (G.r rfl rfl rfl rfl (r_load rfl rfl ag_3_F1 .here (nth_take htv (get_iv hx256))) ?_)
         refine G.q rfl rfl rfl rfl (q_eql rfl rfl rfl) (G.mv ?_)
         refine G.split (t := 176) rfl (fun g176 => ?_) (fun g176 => ?_)
         ·
          refine G.skip rfl rfl rfl (G.skip rfl rfl rfl (G.q rfl rfl rfl rfl (q_pick_t rfl rfl rfl) (G.mv ?_)))
          refine G.skip rfl rfl rfl (G.skip rfl rfl rfl (G.q rfl rfl rfl rfl (q_pick_t rfl rfl rfl) (G.nil (EN.sub (sC 24 (sC 26 (sC 183 Sub.nil))) ?_))))
          refine EN.then (CG.cond_t rfl ?_)
          refine CG.seq ?_
          rw [if_pos (.inl oM)] at hE
          refine CG.reg (G.as ?_)
          refine G.as ?_
          refine G.as ?_
          refine G.nil (EN.then (CG.ret (EN.then_ret (EN.closeS (StP b rb out most) _ tK ?_))))
          rw [← hE]
          try dsimp only
          exact fin_ret3 rfl rfl rfl rfl tK sF (.inl ⟨by decide, rfl, rfl⟩) _ (.inl rfl)
         ·
          refine G.mv ?_
          refine G.q rfl rfl rfl rfl (q_neq rfl rfl rfl) (G.q rfl rfl rfl rfl (q_pick_f rfl rfl rfl) (G.mv ?_))
          refine G.split (t := 180) rfl (fun g180 => absurd g180 (by decide)) (fun g180 => ?_)
          refine G.mv ?_
          refine G.q rfl rfl rfl rfl (q_neq rfl rfl rfl) (G.q rfl rfl rfl rfl (q_pick_f rfl rfl rfl) (G.nil (EN.sub (sC 24 (sC 26 (sC 183 Sub.nil))) ?_)))
          refine EN.then ?_
          refine CG.cond rfl (fun h183 => ?_) (fun h183 => absurd (by decide) h183)
          refine CG.seq ?_
          rw [if_pos (.inr (.inr hb3))] at hE
          refine CG.reg (G.as ?_)
          refine G.as ?_
          refine G.as ?_
          refine G.nil (EN.then (CG.ret (EN.then_ret (EN.closeS (StP b rb out most) _ tK ?_))))
          rw [← hE]
          try dsimp only
          exact fin_ret3 rfl rfl rfl rfl tK sF (.inl ⟨by decide, rfl, rfl⟩) _ (.inl rfl)
       ·
        rw [if_pos (.inr (.inl hb2))] at hE
        refine CG.reg (G.mv ?_)
        refine G.mv ?_
        refine G.q rfl rfl rfl rfl (q_slsl_hi rfl rfl rfl se_78_F5 sz_3_F1 oM) (G.call (xs := [_]) rfl rfl (hnew_bad hna hla oM (sliceL_take htv oM) hb2) bd_115_F6 rfl rfl rfl rfl tK (fun _ _ _ _ _ _ => trivial) ?_)
        rintro _ _ ⟨rfl, rfl⟩
        try dsimp only [List.cons_append, List.nil_append]
        refine G.mv ?_
        refine G.q rfl rfl rfl rfl (q_extract rfl rfl rfl) (G.q rfl rfl rfl rfl (q_extract rfl rfl rfl) (G.as ?_))
        refine G.as ?_
        refine G.nil (EN.sub (sC 7 (sC 16 (sC 24 (sC 25 Sub.nil)))) ?_)
        refine EN.ts ?_
        cases hb3 : Huff.bad (l.drop nl)
        ·
         refine CG.reg (G.mv ?_)
         refine G.mv ?_
         refine G.q rfl rfl rfl rfl (q_slsl_lo rfl rfl rfl se_78_F5 sz_3_F1 oM) (G.call (xs := [_]) rfl rfl (hnew_ok hnb hlb oM (sliceL_drop htv) hb3) bd_115_F6 rfl rfl rfl rfl tK (fun _ _ _ _ _ _ => trivial) ?_)
         rintro _ _ ⟨bnhb3, rfl, rfl⟩
         try dsimp only [List.cons_append, List.nil_append]
         refine G.mv ?_
         refine G.q rfl rfl rfl rfl (q_extract rfl rfl rfl) (G.q rfl rfl rfl rfl (q_extract rfl rfl rfl) (G.as ?_))
         refine G.as ?_
         refine G.nil (EN.ts (CG.sr (G.mv ?_)))
         refine G.q rfl rfl rfl rfl (q_ixaddr1 rfl rfl rfl se_78_F5 sz_3_F1 (h256)) (G.r rfl rfl rfl rfl (r_load rfl rfl ag_3_F1 (.there .here) (nth_take htv (get_iv hx256))) ?_)
         refine G.q rfl rfl rfl rfl (q_eql rfl rfl rfl) (G.mv ?_)
         refine G.split (t := 176) rfl (fun g176 => ?_) (fun g176 => ?_)
         ·
          refine G.skip rfl rfl rfl (G.skip rfl rfl rfl (G.q rfl rfl rfl rfl (q_pick_t rfl rfl rfl) (G.mv ?_)))
          refine G.skip rfl rfl rfl (G.skip rfl rfl rfl (G.q rfl rfl rfl rfl (q_pick_t rfl rfl rfl) (G.nil (EN.sub (sC 24 (sC 26 (sC 183 Sub.nil))) ?_))))
          refine EN.then (CG.cond_t rfl ?_)
          refine CG.seq ?_
          skip
          refine CG.reg (G.as ?_)
          refine G.as ?_
          refine G.as ?_
          refine G.nil (EN.then (CG.ret (EN.then_ret (EN.closeS (StP b rb out most) _ tK ?_))))
          rw [← hE]
          try dsimp only
          exact fin_ret3 rfl rfl rfl rfl tK sF (.inl ⟨by decide, rfl, rfl⟩) _ (.inl rfl)
         ·
          refine G.mv ?_
          refine G.q rfl rfl rfl rfl (q_neq rfl rfl rfl) (G.q rfl rfl rfl rfl (q_pick_f rfl rfl rfl) (G.mv ?_))
          refine G.split (t := 180) rfl (fun g180 => ?_) (fun g180 => absurd (by decide) g180)
          refine G.skip rfl rfl rfl (G.skip rfl rfl rfl (G.q rfl rfl rfl rfl (q_pick_t rfl rfl rfl) (G.nil (EN.sub (sC 24 (sC 26 (sC 183 Sub.nil))) ?_))))
          refine EN.then (CG.cond_t rfl ?_)
          refine CG.seq ?_
          skip
          refine CG.reg (G.as ?_)
          refine G.as ?_
          refine G.as ?_
          refine G.nil (EN.then (CG.ret (EN.then_ret (EN.closeS (StP b rb out most) _ tK ?_))))
          rw [← hE]
          try dsimp only
          exact fin_ret3 rfl rfl rfl rfl tK sF (.inl ⟨by decide, rfl, rfl⟩) _ (.inl rfl)
        ·
         refine CG.reg (G.mv ?_)
         refine G.mv ?_
         refine G.q rfl rfl rfl rfl (q_slsl_lo rfl rfl rfl se_78_F5 sz_3_F1 oM) (G.call (xs := [_]) rfl rfl (hnew_bad hnb hlb oM (sliceL_drop htv) hb3) bd_115_F6 rfl rfl rfl rfl tK (fun _ _ _ _ _ _ => trivial) ?_)
         rintro _ _ ⟨rfl, rfl⟩
         try dsimp only [List.cons_append, List.nil_append]
         refine G.mv ?_
         refine G.q rfl rfl rfl rfl (q_extract rfl rfl rfl) (G.q rfl rfl rfl rfl (q_extract rfl rfl rfl) (G.as ?_))
         refine G.as ?_
         refine G.nil (EN.ts (CG.sr (G.mv ?_)))
         refine G.q rfl rfl rfl rfl (q_ixaddr1 rfl rfl rfl se_78_F5 sz_3_F1 (h256)) (G.r rfl rfl rfl rfl (r_load rfl rfl ag_3_F1 .here (nth_take htv (get_iv hx256))) ?_)
         refine G.q rfl rfl rfl rfl (q_eql rfl rfl rfl) (G.mv ?_)
         refine G.split (t := 176) rfl (fun g176 => ?_) (fun g176 => ?_)
         ·
          refine G.skip rfl rfl rfl (G.skip rfl rfl rfl (G.q rfl rfl rfl rfl (q_pick_t rfl rfl rfl) (G.mv ?_)))
          refine G.skip rfl rfl rfl (G.skip rfl rfl rfl (G.q rfl rfl rfl rfl (q_pick_t rfl rfl rfl) (G.nil (EN.sub (sC 24 (sC 26 (sC 183 Sub.nil))) ?_))))
          refine EN.then (CG.cond_t rfl ?_)
          refine CG.seq ?_
          skip
          refine CG.reg (G.as ?_)
          refine G.as ?_
          refine G.as ?_
          refine G.nil (EN.then (CG.ret (EN.then_ret (EN.closeS (StP b rb out most) _ tK ?_))))
          rw [← hE]
          try dsimp only
          exact fin_ret3 rfl rfl rfl rfl tK sF (.inl ⟨by decide, rfl, rfl⟩) _ (.inl rfl)
         ·
          refine G.mv ?_
          refine G.q rfl rfl rfl rfl (q_neq rfl rfl rfl) (G.q rfl rfl rfl rfl (q_pick_f rfl rfl rfl) (G.mv ?_))
          refine G.split (t := 180) rfl (fun g180 => ?_) (fun g180 => absurd (by decide) g180)
          refine G.skip rfl rfl rfl (G.skip rfl rfl rfl (G.q rfl rfl rfl rfl (q_pick_t rfl rfl rfl) (G.nil (EN.sub (sC 24 (sC 26 (sC 183 Sub.nil))) ?_))))
          refine EN.then (CG.cond_t rfl ?_)
          refine CG.seq ?_
          skip
          refine CG.reg (G.as ?_)
          refine G.as ?_
          refine G.as ?_
          refine G.nil (EN.then (CG.ret (EN.then_ret (EN.closeS (StP b rb out most) _ tK ?_))))
          rw [← hE]
          try dsimp only
          exact fin_ret3 rfl rfl rfl rfl tK sF (.inl ⟨by decide, rfl, rfl⟩) _ (.inl rfl)
     ·
      rw [if_pos hb1] at hE
      refine CG.reg (G.mv ?_)
      refine G.call (xs := [_]) rfl rfl (hnew_bad hfl hf15 oM (sliceL_all _ (by simpa using hfl)) hb1) bd_115_F6 rfl rfl rfl rfl tK (fun _ _ _ _ _ _ => trivial) ?_
      rintro _ _ ⟨rfl, rfl⟩
      try dsimp only [List.cons_append, List.nil_append]
      refine G.mv ?_
      refine G.q rfl rfl rfl rfl (q_extract rfl rfl rfl) (G.q rfl rfl rfl rfl (q_extract rfl rfl rfl) (G.as ?_))
      refine G.as ?_
      refine G.nil (EN.sub (sC 0 (sC 7 (sC 8 (sC 14 (sC 15 Sub.nil))))) ?_)
      refine EN.ts (CG.sr (G.mv ?_))
      refine G.q rfl rfl rfl rfl (q_neq rfl rfl rfl) (G.nil (EN.then ?_))
      refine CG.cond rfl (fun h86 => ?_) (fun h86 => absurd (by decide) h86)
      refine CG.sr (G.as ?_)
      refine G.as ?_
      refine G.as ?_
      refine G.nil (EN.then (CG.ret (EN.then_ret (EN.closeS (StP b rb out most) _ tK ?_))))
      rw [← hE]
      try dsimp only
      exact fin_ret3 rfl rfl rfl rfl tK sF (.inl ⟨by decide, rfl, rfl⟩) _ (.inl rfl)

end Go.Eng
