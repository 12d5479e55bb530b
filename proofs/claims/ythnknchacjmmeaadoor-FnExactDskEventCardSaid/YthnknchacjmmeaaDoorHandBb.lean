/- The walk of laws.FnExactDskEvent. -/
import Derived.Test.YthnknchacjmmeaaDoorHandZ
import Derived.Test.YthnknchacjmmeaaDoorHandBa
namespace Go.Proofs.YthnknchacjmmeaaDoor
open Go.RowKit Go.Proofs.YthnknchacjmmeaaDoorW.PrintWords Go.Proofs.YthnknchacjmmeaaDoorW.PrintLast Go.Proofs.YthnknchacjmmeaaDoorW.PrintMore
open PFnExactDskEvent
set_option linter.unusedVariables false
set_option linter.unusedSimpArgs false
theorem eventLaw_long (s : ByteArray) (w : World) (hs : 1048576 < s.size) :
    Calls Tryd.prog 4 #[.string s] w fun e w' => e = .returned (.bool true) ∧ Below w.heap.size w w' := by
  have hd1 : decide (1048576 < s.size) = true := decide_eq_true hs
  have hd2 : decide (1048576 < (s.size : Int)) = true := decide_eq_true (by omega)
  clear hs
  go_enter Tryd.func4, Tryd.ntmps4
  go_wp2
  go_ret
  exact ⟨rfl, Below.refl _ _⟩
theorem specEvent_any (s : ByteArray) (w : World) : Calls Tryd.prog 11 #[.string s] w fun e w' => EvPost (evSays s) w e w' :=
  spec_DskEvent.calls 400 s _ _ _ _ _ _ w (specEvent_ok s)
theorem six_cells {w : World} {b : Nat} {k a n v : Int} {u : Value} {t : TypeId} (h : w.heap[b]? = some (.cells #[.int .i64 k, .int .i64 a, .int .i64 n, .int .i64 v, u] t (0, 0))) :
    w.cell? ⟨b, 0, none⟩ = some (.int .i64 k) ∧ w.cell? ⟨b, 1, none⟩ = some (.int .i64 a) ∧ w.cell? ⟨b, 2, none⟩ = some (.int .i64 n) ∧ w.cell? ⟨b, 3, none⟩ = some (.int .i64 v) ∧ w.cell? ⟨b, 4, none⟩ = some u :=
  ⟨cell_of_heap h rfl, cell_of_heap h rfl, cell_of_heap h rfl, cell_of_heap h rfl, cell_of_heap h rfl⟩
set_option maxHeartbeats 2000000 in
set_option maxRecDepth 100000 in
theorem eventLaw_short (s : ByteArray) (m : Int) (w : World) (hm : w.cell? ⟨1, 0, none⟩ = some (.int .i64 m)) (hs : s.size ≤ 1048576) :
    Calls Tryd.prog 4 #[.string s] w fun e w' => e = .returned (.bool true) ∧ Below w.heap.size w w' := by
  have hd1 : decide (1048576 < s.size) = false := decide_eq_false (by omega)
  have hd2 : decide (1048576 < (s.size : Int)) = false := decide_eq_false (by omega)
  have hlen := evSays_len s
  have hspec := specEvent_any s w
  have himpl : ∀ W : World, Below w.heap.size w W → Calls Tryd.prog 12 #[.string s] W fun e w' => EvPost (evSays s) W e w' := fun W hb => dskEvent_any s m W (pw_cell_below hb hm)
  clear hs
  generalize evSays s = x at hlen hspec himpl
  obtain ⟨k, a, n, v, bs, ok⟩ := x
  have HE := Lib.hid (evEq_ok k a n v bs hlen)
  have HM := Lib.hid (evMark_ok k a n v bs hlen)
  have HH := Lib.hid (evHeld_ok k a n v bs hlen)
  go_enter Tryd.func4, Tryd.ntmps4
  go_upto_region 4 with (go_at_call 11; refine hspec.mono ?_; rintro e w1 ⟨V1, rfl, hR1, hb1⟩; obtain ⟨A1, c1, rfl, hc1, hC1⟩ := Kd.R_reads hR1; dsimp only at hC1 hc1 ⊢)
  dsimp only at hR1
  have N1 := blk_new w1 (.cells #[.int .i64 k, .int .i64 a, .int .i64 n, .int .i64 v, .slice A1 bs.length c1] 32)
  have hW1 : Below w1.heap.size w1 (w1.alloc (.cells #[.int .i64 k, .int .i64 a, .int .i64 n, .int .i64 v, .slice A1 bs.length c1] 32)) := (Below.refl _ _).alloc (Nat.le_refl _) _
  have hwW1 := hb1.trans (hW1.mono hb1.size)
  replace hC1 := Kd.C_below hC1 hW1
  generalize w1.alloc (.cells #[.int .i64 k, .int .i64 a, .int .i64 n, .int .i64 v, .slice A1 bs.length c1] 32) = W1 at *
  have hC1W := hC1
  have N1W := N1
  go_upto_region 5 with (go_at_call 12; refine (himpl _ hwW1).mono ?_; rintro e w2 ⟨V2, rfl, hR2, hb2⟩; obtain ⟨A2, c2, rfl, hc2, hC2⟩ := Kd.R_reads hR2; dsimp only at hC2 hc2 ⊢)
  dsimp only at hR2
  replace hR2 : Kd.R (Kd.int .u8) 5 w2 W1.heap.size (fun q => q < w2.heap.size) (.slice A2 bs.length c2) bs := Kd.R_mono (Kd.R_bound hR2) (fun _ hq => hq.2.2.1)
  have N2 := blk_new w2 (.cells #[.int .i64 k, .int .i64 a, .int .i64 n, .int .i64 v, .slice A2 bs.length c2] 32)
  have hW2 : Below w2.heap.size w2 (w2.alloc (.cells #[.int .i64 k, .int .i64 a, .int .i64 n, .int .i64 v, .slice A2 bs.length c2] 32)) := (Below.refl _ _).alloc (Nat.le_refl _) _
  replace hC1 := Kd.C_below (Kd.C_below hC1 hb2) hW2
  replace hC2 := Kd.C_below hC2 hW2
  replace N1 := blk_below (blk_below N1 hb2) hW2
  have hR2W := Kd.R_below hR2 hW2
  have hbW2 := hb2.trans (hW2.mono hb2.size)
  have hwW2 := hwW1.trans (hbW2.mono hwW1.size)
  generalize w2.alloc (.cells #[.int .i64 k, .int .i64 a, .int .i64 n, .int .i64 v, .slice A2 bs.length c2] 32) = W2 at *
  obtain ⟨p0, p1, p2, p3, p4⟩ := six_cells N1
  obtain ⟨q0, q1, q2, q3, q4⟩ := six_cells N2
  go_upto_region 8 with (go_at_call 13; refine (laws_eqWldEvent.calls (bs.length + 1) k a n v A2 c2 bs k a n v A1 c1 bs true _ hC2 hc2 hC1 hc1 HE.out).mono ?_; rintro e w3 ⟨rfl, hb3⟩)
  have hd0 : decide (1 + (bs.length : Int) < 0) = false := decide_eq_false (by omega)
  have hR3 : Kd.R (Kd.int .u8) 5 w3 W1.heap.size (fun q => q < w2.heap.size) (.slice A2 bs.length c2) bs := Kd.R_below hR2W hb3
  replace N2 := blk_below N2 hb3
  have hbW3 := hbW2.trans (hb3.mono hbW2.size)
  clear p0 p1 p2 p3 p4 q0 q1 q2 q3 q4 hC1 hC2 N1
  obtain ⟨q0, q1, q2, q3, q4⟩ := six_cells N2
  go_upto_region 10 with (go_at_call 14; refine (laws_markWldEvent.calls (bs.length + 1) k a n v (fun q => q < w2.heap.size) (.slice A2 bs.length c2) bs 1 _ _ W1 w3 hbW3 hR3 HM.out).mono ?_; rintro e w4 ⟨rfl, hR4, hbW4, hk4⟩)
  replace N2 := blk_kept N2 hk4 (Nat.lt_irrefl _)
  have hC4 : Kd.C (Kd.int .u8) w4 A2 bs.length (marks bs) := by
    have := (Kd.R_reads' hR4).2.2
    rwa [marks_len] at this
  have hheld : ∀ W : World, Kd.C (Kd.int .u8) W A2 bs.length (marks bs) → Calls Tryd.prog 15 #[.agg #[.int .i64 k, .int .i64 a, .int .i64 n, .int .i64 v, .slice A2 bs.length c2], .int .i64 1] W fun e w' => e = .returned (.int .i64 (1 + (bs.length : Int))) ∧ Below W.heap.size W w' := by
    intro W hC
    have := laws_heldWldEvent.calls (bs.length + 1) k a n v A2 c2 (marks bs) 1 _ W (by rw [marks_len]; exact hC) (by rw [marks_len]; exact hc2) HH.out
    rwa [marks_len] at this
  have hwW4 := hwW1.trans (hbW4.mono hwW1.size)
  replace N1W := blk_below N1W hbW4
  replace hC1W := Kd.C_below hC1W hbW4
  clear q0 q1 q2 q3 q4
  obtain ⟨q0, q1, q2, q3, q4⟩ := six_cells N2
  go_upto_region 15 with (go_at_call 15; refine (hheld _ hC4).mono ?_; rintro e w5 ⟨rfl, hb5⟩)
  have hwW5 := hwW4.trans (hb5.mono hwW4.size)
  replace N2 := blk_below N2 hb5
  replace N1W := blk_below N1W hb5
  replace hC1W := Kd.C_below hC1W hb5
  replace hC4 := Kd.C_below hC4 hb5
  go_upto_region 16 with (go_at_call 12; refine (himpl _ hwW5).mono ?_; rintro e w6 ⟨V3, rfl, hR6, hb6⟩; obtain ⟨A3, c3, rfl, hc3, hC3⟩ := Kd.R_reads hR6; dsimp only at hC3 hc3 ⊢)
  have N3 := blk_new w6 (.cells #[.int .i64 k, .int .i64 a, .int .i64 n, .int .i64 v, .slice A3 bs.length c3] 32)
  have hW6 : Below w6.heap.size w6 (w6.alloc (.cells #[.int .i64 k, .int .i64 a, .int .i64 n, .int .i64 v, .slice A3 bs.length c3] 32)) := (Below.refl _ _).alloc (Nat.le_refl _) _
  have hb56 := hb6.trans (hW6.mono hb6.size)
  have hwW6 := hwW5.trans (hb56.mono hwW5.size)
  replace N2 := blk_below N2 hb56
  replace N1W := blk_below N1W hb56
  replace hC1W := Kd.C_below hC1W hb56
  replace hC4 := Kd.C_below hC4 hb56
  replace hC3 := Kd.C_below hC3 hW6
  generalize w6.alloc (.cells #[.int .i64 k, .int .i64 a, .int .i64 n, .int .i64 v, .slice A3 bs.length c3] 32) = W6 at *
  clear q0 q1 q2 q3 q4
  obtain ⟨p0, p1, p2, p3, p4⟩ := six_cells N1W
  obtain ⟨q0, q1, q2, q3, q4⟩ := six_cells N3
  go_upto_region 19 with (go_at_call 13; refine (laws_eqWldEvent.calls (bs.length + 1) k a n v A3 c3 bs k a n v A1 c1 bs true _ hC3 hc3 hC1W hc1 HE.out).mono ?_; rintro e w7 ⟨rfl, hb7⟩)
  have hwW7 := hwW6.trans (hb7.mono hwW6.size)
  replace N2 := blk_below N2 hb7
  replace hC4 := Kd.C_below hC4 hb7
  clear q0 q1 q2 q3 q4 p0 p1 p2 p3 p4
  obtain ⟨q0, q1, q2, q3, q4⟩ := six_cells N2
  go_wp2_with (go_at_call 15; refine (hheld _ hC4).mono ?_; rintro e w8 ⟨rfl, hb8⟩)
  go_ret
  exact ⟨rfl, hwW7.trans (hb8.mono hwW7.size)⟩
end Go.Proofs.YthnknchacjmmeaaDoor
