import Derived.Test.YthnknchacjmmeaaDoorHandE
namespace Go.Proofs.YthnknchacjmmeaaDoor
open Go.RowKit Go.Proofs.YthnknchacjmmeaaDoorW.PrintWords Go.Proofs.YthnknchacjmmeaaDoorW.PrintLast Go.Proofs.YthnknchacjmmeaaDoorW.PrintMore
open PFnExactDskSight
set_option linter.unusedVariables false
set_option linter.unusedSimpArgs false
def kinds11 : Array Value := #[.string ⟨#[]⟩, .string ⟨#[115, 101, 110, 116]⟩, .string ⟨#[102, 117, 108, 108]⟩, .string ⟨#[103, 111, 116]⟩, .string ⟨#[110, 111, 110, 101]⟩, .string ⟨#[98, 121, 116, 101]⟩, .string ⟨#[113, 117, 105, 101, 116]⟩, .string ⟨#[116, 111, 108, 100]⟩, .string ⟨#[102, 101, 108, 108]⟩, .string ⟨#[115, 116, 111, 112, 112, 101, 100]⟩, .string ⟨#[98, 101, 103, 97, 110]⟩]
theorem kinds_at (k : Int) (h1 : 1 ≤ k) (h2 : k ≤ 10) : kinds11[k.toNat]? = some (.string (kindText k)) := by
  rcases (by omega : k = 1 ∨ k = 2 ∨ k = 3 ∨ k = 4 ∨ k = 5 ∨ k = 6 ∨ k = 7 ∨ k = 8 ∨ k = 9 ∨ k = 10) with rfl | rfl | rfl | rfl | rfl | rfl | rfl | rfl | rfl | rfl <;> rfl
theorem names_at (k : Int) (h1 : 1 ≤ k) (h2 : k ≤ 10) (W : World) : (W.alloc (.cells kinds11 9)).cell? ⟨W.heap.size, k.toNat, none⟩ = some (.string (kindText k)) :=
  (cellAt W kinds11 9 _).trans (kinds_at k h1 h2)
theorem cell_alloc {w : World} {o : Obj} {a : Addr} {v : Value} (h : w.cell? a = some v) : (w.alloc o).cell? a = some v := by
  rw [World.cell?_alloc_lt w o _ (World.block_lt_of_cell? w _ h)]; exact h
set_option maxHeartbeats 1000000 in
set_option maxRecDepth 100000 in
theorem specSight_any (k wy : Int) (A : Option Addr) (c : Nat) (xs : List Int) (w : World) (hr : ReadsInt w .u8 A xs.length xs) (hx : ∀ j, j < xs.length → 0 ≤ xs.getD j 0 ∧ xs.getD j 0 < 256) (hc : xs.length ≤ c) :
    Calls Tryd.prog 7 #[.agg #[.int .i64 k, .int .i64 wy, .slice A xs.length c]] w fun e w' => e = .returned (.string (sightSays k wy xs)) ∧ Below w.heap.size w w' := by
  have hC : Kd.C (Kd.int .u8) w A xs.length xs := Kd.C_of_reads (d := (0 : Int)) (h1 := fun _ => rfl) hr
  have hb0 : Below w.heap.size w (w.alloc (.cells #[.int .i64 k, .int .i64 wy, .slice A xs.length c] 27)) := (Below.refl _ _).alloc (Nat.le_refl _) _
  unfold sightSays
  have hf := specOk k wy xs
  by_cases hok : okv k wy xs.length = true
  · rw [if_pos hok]
    rw [hok] at hf
    have hn8 : xs.length ≤ 8 := by
      rcases Nat.lt_or_ge 8 xs.length with h | h
      · rw [okv_false (by omega) (by omega)] at hok; cases hok
      · exact h
    have hk : 1 ≤ k ∧ k ≤ 10 := by
      rcases (by omega : (1 ≤ k ∧ k ≤ 10) ∨ ¬ (1 ≤ k ∧ k ≤ 10)) with h | h
      · exact h
      · rw [okv_false (by omega) (by omega)] at hok; cases hok
    have hway : k ≤ 4 → 0 ≤ wy ∧ wy ≤ 9 := by
      intro h4
      rcases (by omega : (0 ≤ wy ∧ wy ≤ 9) ∨ ¬ (0 ≤ wy ∧ wy ≤ 9)) with h | h
      · exact h
      · rw [okv_false (by omega) (by omega)] at hok; cases hok
    have hs1 := kindText_size k
    have hs2 := hexAll_size xs
    have nm := names_at k hk.1 hk.2
    obtain ⟨hk1, hk2⟩ := hk
    have hBy := l20Bytes_ok xs (by omega) hx
    have HB := Lib.hid hBy
    unfold kinds11 at nm
    unfold sightText wayText
    by_cases h4 : k ≤ 4
    · obtain ⟨hw0, hw9⟩ := hway h4
      obtain ⟨n, rfl⟩ := Int.eq_ofNat_of_zero_le hw0
      have hdz := dec_size n (by omega)
      have hi := digits_ok ⟨n, by omega⟩
      simp only [] at hi
      rw [Int.toNat_natCast]
      generalize (⟨(Lib.decDigits n).toArray⟩ : ByteArray) = D at hi hdz ⊢
      have HI := Lib.hid hi
      have sp1 : (⟨#[32]⟩ : ByteArray).size = 1 := rfl
      by_cases hl : 0 < xs.length
      · rw [if_pos hl, if_pos h4]
        clear hi hok hway hx hBy
        unfold sp
        rw [← ByteArray.append_assoc, ← ByteArray.append_assoc]
        go_enter Tryd.func7, Tryd.ntmps7
        go_wp2_with (first | (go_at_call 19; refine (spec_CelSightOk.calls _ _ _ _ _ _ _ (Kd.C_below hC hb0) hc hf).mono ?_; rintro e w1 ⟨rfl, hb1⟩; have c0 := below_cells hb1 0 _ rfl; have c1 := below_cells hb1 1 _ rfl; have c2 := below_cells hb1 2 _ rfl; have hw1 := hb0.trans (hb1.mono hb0.size); have hz1 : w.heap.size < w1.heap.size := by have := hb1.size; simp at this; omega) | (go_at_call 20; refine (spec_l5Digits.calls 3 _ _ _ HI.out).mono ?_; rintro e w3 ⟨rfl, hb3⟩; have d2 := pw_cell_below hb3 (cell_alloc c2); have hw3 := (hw1.alloc hw1.size _).trans (hb3.mono (hw1.alloc hw1.size _).size)) | (go_at_call 21; refine (spec_l20Bytes.calls (xs.length + 1) _ _ _ _ _ (Kd.C_below hC hw3) hc HB.out).mono ?_; rintro e w4 ⟨rfl, hb4⟩))
        go_ret
        exact ⟨rfl, hw3.trans (hb4.mono hw3.size)⟩
      · rw [if_neg hl, if_pos h4]
        clear hi hok hway hx hBy
        unfold sp
        rw [← ByteArray.append_assoc]
        go_enter Tryd.func7, Tryd.ntmps7
        go_wp2_with (first | (go_at_call 19; refine (spec_CelSightOk.calls _ _ _ _ _ _ _ (Kd.C_below hC hb0) hc hf).mono ?_; rintro e w1 ⟨rfl, hb1⟩; have c0 := below_cells hb1 0 _ rfl; have c1 := below_cells hb1 1 _ rfl; have c2 := below_cells hb1 2 _ rfl; have hw1 := hb0.trans (hb1.mono hb0.size); have hz1 : w.heap.size < w1.heap.size := by have := hb1.size; simp at this; omega) | (go_at_call 20; refine (spec_l5Digits.calls 3 _ _ _ HI.out).mono ?_; rintro e w3 ⟨rfl, hb3⟩; have d2 := pw_cell_below hb3 (cell_alloc c2); have hw3 := (hw1.alloc hw1.size _).trans (hb3.mono (hw1.alloc hw1.size _).size)) | (go_at_call 21; refine (spec_l20Bytes.calls (xs.length + 1) _ _ _ _ _ (Kd.C_below hC hw3) hc HB.out).mono ?_; rintro e w4 ⟨rfl, hb4⟩))
        go_ret
        exact ⟨rfl, hw3⟩
    · by_cases hl : 0 < xs.length
      · rw [if_pos hl, if_neg h4]
        clear hok hway hx hBy
        unfold sp
        rw [← ByteArray.append_assoc]
        go_enter Tryd.func7, Tryd.ntmps7
        go_wp2_with (first | (go_at_call 19; refine (spec_CelSightOk.calls _ _ _ _ _ _ _ (Kd.C_below hC hb0) hc hf).mono ?_; rintro e w1 ⟨rfl, hb1⟩; have c0 := below_cells hb1 0 _ rfl; have c1 := below_cells hb1 1 _ rfl; have c2 := below_cells hb1 2 _ rfl; have hw1 := hb0.trans (hb1.mono hb0.size); have hz1 : w.heap.size < w1.heap.size := by have := hb1.size; simp at this; omega) | (go_at_call 20; refine (spec_l5Digits.calls 3 _ _ _ HI.out).mono ?_; rintro e w3 ⟨rfl, hb3⟩; have d2 := pw_cell_below hb3 (cell_alloc c2); have hw3 := (hw1.alloc hw1.size _).trans (hb3.mono (hw1.alloc hw1.size _).size)) | (go_at_call 21; refine (spec_l20Bytes.calls (xs.length + 1) _ _ _ _ _ (Kd.C_below hC (hw1.alloc hw1.size _)) hc HB.out).mono ?_; rintro e w4 ⟨rfl, hb4⟩))
        go_ret
        exact ⟨rfl, (hw1.alloc hw1.size _).trans (hb4.mono (hw1.alloc hw1.size _).size)⟩
      · rw [if_neg hl, if_neg h4]
        clear hok hway hx hBy
        go_enter Tryd.func7, Tryd.ntmps7
        go_wp2_with (first | (go_at_call 19; refine (spec_CelSightOk.calls _ _ _ _ _ _ _ (Kd.C_below hC hb0) hc hf).mono ?_; rintro e w1 ⟨rfl, hb1⟩; have c0 := below_cells hb1 0 _ rfl; have c1 := below_cells hb1 1 _ rfl; have c2 := below_cells hb1 2 _ rfl; have hw1 := hb0.trans (hb1.mono hb0.size); have hz1 : w.heap.size < w1.heap.size := by have := hb1.size; simp at this; omega) | (go_at_call 20; refine (spec_l5Digits.calls 3 _ _ _ HI.out).mono ?_; rintro e w3 ⟨rfl, hb3⟩; have d2 := pw_cell_below hb3 (cell_alloc c2); have hw3 := (hw1.alloc hw1.size _).trans (hb3.mono (hw1.alloc hw1.size _).size)) | (go_at_call 21; refine (spec_l20Bytes.calls (xs.length + 1) _ _ _ _ _ (Kd.C_below hC (hw1.alloc hw1.size _)) hc HB.out).mono ?_; rintro e w4 ⟨rfl, hb4⟩))
        go_ret
        exact ⟨rfl, hw1.alloc hw1.size _⟩
  · rw [if_neg hok]
    rw [Bool.not_eq_true] at hok
    rw [hok] at hf
    clear hok hx
    go_enter Tryd.func7, Tryd.ntmps7
    go_wp2_with (go_at_call 19; refine (spec_CelSightOk.calls _ _ _ _ _ _ _ (Kd.C_below hC hb0) hc hf).mono ?_; rintro e w1 ⟨rfl, hb1⟩)
    go_ret
    exact ⟨rfl, hb0.trans (hb1.mono hb0.size)⟩
end Go.Proofs.YthnknchacjmmeaaDoor
