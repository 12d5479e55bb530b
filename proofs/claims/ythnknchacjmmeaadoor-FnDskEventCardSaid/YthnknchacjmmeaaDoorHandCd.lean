/- The walk of laws.FnDskEvent. -/
import Derived.Test.YthnknchacjmmeaaDoorHandZ
import Derived.Test.YthnknchacjmmeaaDoorHandCb
import Derived.Test.YthnknchacjmmeaaDoorHandCc
namespace Go.Proofs.YthnknchacjmmeaaDoor
open Go.RowKit Go.Proofs.YthnknchacjmmeaaDoorW.PrintWords Go.Proofs.YthnknchacjmmeaaDoorW.PrintLast Go.Proofs.YthnknchacjmmeaaDoorW.PrintMore
set_option linter.unusedVariables false
set_option linter.unusedSimpArgs false
theorem dskLaw_long (A : Option Addr) (c : Nat) (xs : List Int) (w : World) (hl : 1048576 < xs.length) :
    Calls Tryd.prog 5 #[.slice A xs.length c] w fun e w' => e = .returned (.bool true) ∧ Below w.heap.size w w' := by
  have hd1 : decide (1048576 < xs.length) = true := decide_eq_true hl
  have hd2 : decide (1048576 < (xs.length : Int)) = true := decide_eq_true (by omega)
  clear hl
  go_enter Tryd.func5, Tryd.ntmps5
  go_wp2
  go_ret
  exact ⟨rfl, Below.refl _ _⟩
theorem specEvent_at (s : ByteArray) (w : World) : Calls Tryd.prog 11 #[.string s] w fun e w' => EvPost (evSays s) w e w' :=
  PFnExactDskEvent.spec_DskEvent.calls 400 s _ _ _ _ _ _ w (specEvent_ok s)
theorem cells_six {w : World} {b : Nat} {k a n v : Int} {u : Value} {t : TypeId} (h : w.heap[b]? = some (.cells #[.int .i64 k, .int .i64 a, .int .i64 n, .int .i64 v, u] t (0, 0))) :
    w.cell? ⟨b, 0, none⟩ = some (.int .i64 k) ∧ w.cell? ⟨b, 1, none⟩ = some (.int .i64 a) ∧ w.cell? ⟨b, 2, none⟩ = some (.int .i64 n) ∧ w.cell? ⟨b, 3, none⟩ = some (.int .i64 v) ∧ w.cell? ⟨b, 4, none⟩ = some u :=
  ⟨cell_of_heap h rfl, cell_of_heap h rfl, cell_of_heap h rfl, cell_of_heap h rfl, cell_of_heap h rfl⟩
set_option maxHeartbeats 2000000 in
set_option maxRecDepth 100000 in
theorem dskLaw_short (A : Option Addr) (c : Nat) (xs : List Int) (m : Int) (w : World) (hm : w.cell? ⟨1, 0, none⟩ = some (.int .i64 m)) (hr : ReadsInt w .u8 A xs.length xs) (hx : Byt xs) (hc : xs.length ≤ c) (hl : xs.length ≤ 1048576) :
    Calls Tryd.prog 5 #[.slice A xs.length c] w fun e w' => e = .returned (.bool true) ∧ Below w.heap.size w w' := by
  have hd1 : decide (1048576 < xs.length) = false := decide_eq_false (by omega)
  have hd2 : decide (1048576 < (xs.length : Int)) = false := decide_eq_false (by omega)
  have hC : Kd.C (Kd.int .u8) w A xs.length xs := Kd.C_of_reads (d := (0 : Int)) (h1 := fun _ => rfl) hr
  obtain ⟨s, hs, hsz⟩ := draw_ok xs hx
  have hdraw := PFnDskEvent.spec_DrawDskEvent.calls 1000 A c xs s w hC hc hs
  have himpl : ∀ (u : ByteArray) (W : World), Below w.heap.size w W → Calls Tryd.prog 12 #[.string u] W fun e w' => EvPost (evSays u) W e w' := fun u W hb => dskEvent_any u m W (pw_cell_below hb hm)
  have hspec := specEvent_at s
  have hfall := himpl ⟨#[102, 97, 108, 108, 32, 50]⟩
  rw [fall2] at hfall
  have hmore := himpl (s ++ more3)
  have hno := more_false s
  have h1 := himpl s
  have hadd : s.size + 6 ≤ 9223372036854775807 := by omega
  have hadd2 : ¬ (9223372036854775807 < s.size + 6) := by omega
  clear hl hsz hs hr hC himpl
  unfold more3 at hmore hno
  generalize evSays (s ++ (⟨#[32, 49, 32, 49, 32, 49]⟩ : ByteArray)) = y at hmore hno
  obtain ⟨yk, ya, yn, yv, ybs, yok⟩ := y
  obtain rfl : yok = false := hno
  generalize evSays s = x at hspec h1
  obtain ⟨k, a, n, v, bs, ok⟩ := x
  have hca : PFnDskEvent.laws_caBytes.f bs bs = some true := by simp [PFnDskEvent.laws_caBytes.f]
  have HCA := Lib.hid hca
  clear hca
  go_enter Tryd.func5, Tryd.ntmps5
  go_upto_region 5 with (first
    | (go_at_call 16; refine hdraw.mono ?_; rintro e w1 ⟨rfl, hb1⟩)
    | (go_at_call 12; refine (h1 _ hb1).mono ?_; rintro e w2 ⟨V2, rfl, hR2, hb2⟩; obtain ⟨A2, c2, rfl, hc2, hC2⟩ := Kd.R_reads hR2; dsimp only at hC2 hc2 ⊢))
  have N2 := blk_new w2 (.cells #[.int .i64 k, .int .i64 a, .int .i64 n, .int .i64 v, .slice A2 bs.length c2] 32)
  have hW2 : Below w2.heap.size w2 (w2.alloc (.cells #[.int .i64 k, .int .i64 a, .int .i64 n, .int .i64 v, .slice A2 bs.length c2] 32)) := (Below.refl _ _).alloc (Nat.le_refl _) _
  replace hC2 := Kd.C_below hC2 hW2
  have hwW2 := (hb1.trans (hb2.mono hb1.size)).trans (hW2.mono (hb1.trans (hb2.mono hb1.size)).size)
  generalize w2.alloc (.cells #[.int .i64 k, .int .i64 a, .int .i64 n, .int .i64 v, .slice A2 bs.length c2] 32) = W2 at *
  go_upto_region 6 with (go_at_call 11; refine (hspec _).mono ?_; rintro e w3 ⟨V3, rfl, hR3, hb3⟩; obtain ⟨A3, c3, rfl, hc3, hC3⟩ := Kd.R_reads hR3; dsimp only at hC3 hc3 ⊢)
  have N3 := blk_new w3 (.cells #[.int .i64 k, .int .i64 a, .int .i64 n, .int .i64 v, .slice A3 bs.length c3] 32)
  have hW3 : Below w3.heap.size w3 (w3.alloc (.cells #[.int .i64 k, .int .i64 a, .int .i64 n, .int .i64 v, .slice A3 bs.length c3] 32)) := (Below.refl _ _).alloc (Nat.le_refl _) _
  replace hC3 := Kd.C_below hC3 hW3
  have hb33 := hb3.trans (hW3.mono hb3.size)
  replace hC2 := Kd.C_below hC2 hb33
  replace N2 := blk_below N2 hb33
  have hwW3 := hwW2.trans (hb33.mono hwW2.size)
  generalize w3.alloc (.cells #[.int .i64 k, .int .i64 a, .int .i64 n, .int .i64 v, .slice A3 bs.length c3] 32) = W3 at *
  obtain ⟨p0, p1, p2, p3, p4⟩ := cells_six N2
  obtain ⟨q0, q1, q2, q3, q4⟩ := cells_six N3
  go_upto_region 8 with (go_at_call 17; refine (PFnDskEvent.laws_caBytes.calls A2 c2 bs A3 c3 bs true _ hC2 hc2 hC3 hc3 HCA.out).mono ?_; rintro e w4 ⟨rfl, ⟨nd, rfl⟩⟩)
  have hwW4 : Below w.heap.size w (W3.drewN nd) := pw_below_drewN hwW3 nd
  clear p0 p1 p2 p3 p4 q0 q1 q2 q3 q4 N2 N3 hC2 hC3
  generalize W3.drewN nd = W4 at *
  have hadd3 : decide (9223372036854775807 < s.size + 6) = false := decide_eq_false hadd2
  go_upto_region 9 with (go_at_call 12; refine (hmore _ hwW4).mono ?_; rintro e w5 ⟨V5, rfl, hR5, hb5⟩; obtain ⟨A5, c5, rfl, hc5, hC5⟩ := Kd.R_reads hR5; dsimp only at hC5 hc5 ⊢)
  have hwW5a := hwW4.trans (hb5.mono hwW4.size)
  have hwW5 : Below w.heap.size w (w5.alloc (.cells #[.int .i64 yk, .int .i64 ya, .int .i64 yn, .int .i64 yv, .slice A5 ybs.length c5] 32)) := hwW5a.alloc hwW5a.size _
  generalize w5.alloc (.cells #[.int .i64 yk, .int .i64 ya, .int .i64 yn, .int .i64 yv, .slice A5 ybs.length c5] 32) = W5 at *
  go_upto_region 10 with (go_at_call 12; refine (hfall _ hwW5).mono ?_; rintro e w6 ⟨V6, rfl, hR6, hb6⟩; obtain ⟨A6, c6, rfl, hc6, hC6⟩ := Kd.R_reads hR6; dsimp only at hC6 hc6 ⊢)
  have N6 := blk_new w6 (.cells #[.int .i64 2, .int .i64 2, .int .i64 0, .int .i64 0, .slice A6 ([] : List Int).length c6] 32)
  have hwW6a := hwW5.trans (hb6.mono hwW5.size)
  have hwW6 : Below w.heap.size w (w6.alloc (.cells #[.int .i64 2, .int .i64 2, .int .i64 0, .int .i64 0, .slice A6 ([] : List Int).length c6] 32)) := hwW6a.alloc hwW6a.size _
  change Code.wp _ _ _ _ (w6.alloc (.cells #[.int .i64 2, .int .i64 2, .int .i64 0, .int .i64 0, .slice A6 ([] : List Int).length c6] 32))
  generalize w6.alloc (.cells #[.int .i64 2, .int .i64 2, .int .i64 0, .int .i64 0, .slice A6 ([] : List Int).length c6] 32) = W6 at *
  obtain ⟨p0, p1, p2, p3, p4⟩ := cells_six N6
  go_wp2
  go_ret
  exact ⟨rfl, hwW6⟩
end Go.Proofs.YthnknchacjmmeaaDoor
