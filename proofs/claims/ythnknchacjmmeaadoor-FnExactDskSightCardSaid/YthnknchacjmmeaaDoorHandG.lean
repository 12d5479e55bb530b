import Derived.Test.YthnknchacjmmeaaDoorHandF
import Derived.Deep.RegionHeld3
import Derived.Deep.RegionWith
namespace Go.Proofs.YthnknchacjmmeaaDoor
open Go.RowKit Go.Proofs.YthnknchacjmmeaaDoorW.PrintWords Go.Proofs.YthnknchacjmmeaaDoorW.PrintLast Go.Proofs.YthnknchacjmmeaaDoorW.PrintMore
open PFnExactDskSight
set_option linter.unusedVariables false
set_option linter.unusedSimpArgs false
theorem sz_no (k wy : Int) (l : List Int) (h : 1048576 < l.length) (h2 : (l.length : Int) ≤ 140737488351232) : laws_szCelSight.f k wy l 1048576 = some (-1) := by
  have e : wrap64 (1048576 - (l.length : Int)) = 1048576 - (l.length : Int) := by unfold wrap64; omega
  unfold laws_szCelSight.f laws_szByteS.f
  rw [e, if_pos (by omega)]
  simp only [Option.bind_some]
  rw [if_pos (by omega)]
set_option maxHeartbeats 1000000 in
set_option maxRecDepth 100000 in
theorem sight_law_long (k wy : Int) (A : Option Addr) (c : Nat) (xs : List Int) (w : World) (hr : ReadsInt w .u8 A xs.length xs) (hc : xs.length ≤ c) (hl : 1048576 < xs.length) (h2 : (xs.length : Int) ≤ 140737488351232) :
    Calls Tryd.prog 3 #[.agg #[.int .i64 k, .int .i64 wy, .slice A xs.length c]] w fun e w' => e = .returned (.bool true) ∧ Below w.heap.size w w' := by
  have hC : Kd.C (Kd.int .u8) w A xs.length xs := Kd.C_of_reads (d := (0 : Int)) (h1 := fun _ => rfl) hr
  have hb0 : Below w.heap.size w (w.alloc (.cells #[.int .i64 k, .int .i64 wy, .slice A xs.length c] 24)) := (Below.refl _ _).alloc (Nat.le_refl _) _
  have hf := sz_no k wy xs hl h2
  clear hl
  go_enter Tryd.func3, Tryd.ntmps3
  go_wp2_with (go_at_call 6; refine (laws_szCelSight.calls _ _ _ _ _ _ _ _ (Kd.C_below hC hb0) hc hf).mono ?_; rintro e w1 ⟨rfl, hb1⟩)
  go_ret
  exact ⟨rfl, hb0.trans (hb1.mono hb0.size)⟩
set_option maxHeartbeats 1000000 in
set_option maxRecDepth 100000 in
theorem sight_law_short (k wy : Int) (A : Option Addr) (c : Nat) (xs : List Int) (w : World) (htab : w.cell? ⟨5, 15, none⟩ = some (.int .u8 4)) (hr : ReadsInt w .u8 A xs.length xs) (hx : ∀ j, j < xs.length → 0 ≤ xs.getD j 0 ∧ xs.getD j 0 < 256) (hc : xs.length ≤ c) (hl : xs.length ≤ 1048576) :
    Calls Tryd.prog 3 #[.agg #[.int .i64 k, .int .i64 wy, .slice A xs.length c]] w fun e w' => e = .returned (.bool true) ∧ Below w.heap.size w w' := by
  have hC : Kd.C (Kd.int .u8) w A xs.length xs := Kd.C_of_reads (d := (0 : Int)) (h1 := fun _ => rfl) hr
  have hb0 : Below w.heap.size w (w.alloc (.cells #[.int .i64 k, .int .i64 wy, .slice A xs.length c] 24)) := (Below.refl _ _).alloc (Nat.le_refl _) _
  have hf := sz_ok k wy xs hl
  have HT := Lib.hid (to_ok k wy xs hl)
  have HE := Lib.hid (eq_ok k wy xs hl)
  have HX := Lib.hid hx
  clear hx
  have hge : ¬ (1048576 - (xs.length : Int) < 0) := by omega
  go_enter Tryd.func3, Tryd.ntmps3
  go_wp2_with (first | (go_at_call 6; refine (laws_szCelSight.calls _ _ _ _ _ _ _ _ (Kd.C_below hC hb0) hc hf).mono ?_; rintro e w1 ⟨rfl, hb1⟩; have c0 := below_cells hb1 0 _ rfl; have c1 := below_cells hb1 1 _ rfl; have c2 := below_cells hb1 2 _ rfl; have hw1 := hb0.trans (hb1.mono hb0.size); have hz1 : w.heap.size < w1.heap.size := by have := hb1.size; simp at this; omega))
  refine (laws_toCelSight.calls (xs.length + 1) _ _ _ _ _ _ _ _ _ (Kd.C_below hC hw1) hc HT.out).mono ?_
  rintro e w2 ⟨v2, rfl, hR2, hb2⟩
  obtain ⟨A2, k2, rfl, hc2, hC2⟩ := Kd.R_reads hR2
  have hw2 := hw1.trans (hb2.mono hw1.size)
  have d0 := pw_cell_below hb2 c0
  have d1 := pw_cell_below hb2 c1
  have d2 := pw_cell_below hb2 c2
  have hz2 : w.heap.size < w2.heap.size := Nat.lt_of_lt_of_le hz1 hb2.size
  go_wp2_with fail
  refine (specSight_any _ _ _ _ _ _ (Kd.reads_of_C (enc := Value.int .u8) (d := (0 : Int)) (h1 := fun _ => rfl) hC2) HX.out hc2).mono ?_
  rintro e w3 ⟨rfl, hb3⟩
  have hw3 := hw2.trans (hb3.mono hw2.size)
  have e0 := pw_cell_below hb3 d0
  have e1 := pw_cell_below hb3 d1
  have e2 := pw_cell_below hb3 d2
  have hz3 : w.heap.size < w3.heap.size := Nat.lt_of_lt_of_le hz2 hb3.size
  clear c0 c1 c2 d0 d1 d2
  go_wp2_with fail
  refine (laws_toCelSight.calls (xs.length + 1) _ _ _ _ _ _ _ _ _ (Kd.C_below hC hw3) hc HT.out).mono ?_
  rintro e w4 ⟨v4, rfl, hR4, hb4⟩
  obtain ⟨A4, k4, rfl, hc4, hC4⟩ := Kd.R_reads hR4
  have hw4 := hw3.trans (hb4.mono hw3.size)
  have c0 := pw_cell_below hb4 e0
  have c1 := pw_cell_below hb4 e1
  have c2 := pw_cell_below hb4 e2
  have hz4 : w.heap.size < w4.heap.size := Nat.lt_of_lt_of_le hz3 hb4.size
  clear e0 e1 e2
  go_wp2_with fail
  have hn4 : Below w4.heap.size w4 (w4.alloc (.cells #[.int .i64 k, .int .i64 wy, .slice A4 xs.length k4] 27)) := (Below.refl _ _).alloc (Nat.le_refl _) _
  have hw4' : Below w.heap.size w (w4.alloc (.cells #[.int .i64 k, .int .i64 wy, .slice A4 xs.length k4] 27)) := hw4.alloc hw4.size _
  refine (dskSight_any _ _ _ _ _ _ (pw_cell_below hw4' htab) ((Kd.reads_of_C (enc := Value.int .u8) (d := (0 : Int)) (h1 := fun _ => rfl) hC4).below hn4) HX.out hc4).mono ?_
  rintro e w5 ⟨rfl, hb5⟩
  have hw5 := hw4'.trans (hb5.mono hw4'.size)
  have e0 := pw_cell_below hb5 (cell_alloc c0)
  have e1 := pw_cell_below hb5 (cell_alloc c1)
  have e2 := pw_cell_below hb5 (cell_alloc c2)
  have f0 := below_cells hb5 0 _ rfl
  have f1 := below_cells hb5 1 _ rfl
  have f2 := below_cells hb5 2 _ rfl
  have hz5 : w4.heap.size < w5.heap.size := by have := hb5.size; simp at this; omega
  have hC5 := Kd.C_below (Kd.C_below hC4 hn4) hb5
  have hCw5 := Kd.C_below hC hw5
  clear c0 c1 c2
  go_wp2_with fail
  have hdr : Below w5.heap.size w5 w5.drew := below_drew (Below.refl _ _)
  have hw5' := hw5.trans (hdr.mono hw5.size)
  have hCd := Kd.C_below hCw5 hdr
  have hC5d := Kd.C_below hC5 hdr
  have f0 := pw_cell_below hdr f0
  have f1 := pw_cell_below hdr f1
  have f2 := pw_cell_below hdr f2
  go_region_with (first
    | (go_at_call 8
       refine (laws_toCelSight.calls (xs.length + 1) _ _ _ _ _ _ _ _ _ hCd hc HT.out).mono ?_
       rintro e w6 ⟨v6, rfl, hR6, hb6⟩
       obtain ⟨A6, k6, rfl, hc6, hC6⟩ := Kd.R_reads hR6
       have g0 := pw_cell_below hb6 f0
       have g1 := pw_cell_below hb6 f1
       have g2 := pw_cell_below hb6 f2
       have hw6 := hw5'.trans (hb6.mono hw5'.size))
    | (go_at_call 10
       refine (laws_eqCelSight.calls (xs.length + 1) _ _ _ _ _ _ _ _ _ _ _ _ (Kd.C_below hC5d hb6) hc4 hC6 hc6 HE.out).mono ?_
       rintro e w7 ⟨rfl, hb7⟩
       have hw7 := hw6.trans (hb7.mono hw6.size)))
  all_goals
    go_wp2_with fail
    go_ret
    exact ⟨rfl, hw7⟩
end Go.Proofs.YthnknchacjmmeaaDoor
