import Derived.Test.YthnknchacjmmeaaDoorPFnExactDskSightx0
import Derived.WalkLawsBesides
import Derived.WalkSpells
import Derived.Outline
namespace Go.Proofs.YthnknchacjmmeaaDoor
open Go.RowKit Go.Proofs.YthnknchacjmmeaaDoorW.PrintWords Go.Proofs.YthnknchacjmmeaaDoorW.PrintLast Go.Proofs.YthnknchacjmmeaaDoorW.PrintMore
set_option linter.unusedVariables false
set_option linter.unusedSimpArgs false
theorem idx16 : (IntKind.u64.wrap (bits BinOp.and IntKind.u64 16 (IntKind.u64.wrap (-16)) * 285870213051353865) / 288230376151711744).toNat = 15 := by decide +kernel
set_option maxHeartbeats 1000000 in
theorem tz64_16 (w : World) (h : w.cell? ⟨5, 15, none⟩ = some (.int .u8 4)) :
    Calls Tryd.prog 92 #[.int .u64 16] w fun e w' => e = .returned (.int .i64 4) ∧ w' = w := by
  have h' : w.cell? ⟨5, (IntKind.u64.wrap (bits BinOp.and IntKind.u64 16 (IntKind.u64.wrap (-16)) * 285870213051353865) / 288230376151711744).toNat, none⟩ = some (.int .u8 4) := by rw [idx16]; exact h
  clear h
  go_enter Tryd.func92, Tryd.ntmps92
  go_wp2
  go_ret
  exact ⟨rfl, rfl⟩
set_option maxHeartbeats 1000000 in
theorem tz_16 (w : World) (h : w.cell? ⟨5, 15, none⟩ = some (.int .u8 4)) :
    Calls Tryd.prog 84 #[.int .u64 16] w fun e w' => e = .returned (.int .i64 4) ∧ w' = w := by
  go_enter Tryd.func84, Tryd.ntmps84
  go_wp2_with (go_at_call 92; refine (tz64_16 _ h).mono ?_; rintro e w1 ⟨rfl, rfl⟩)
  go_ret
  exact ⟨rfl, rfl⟩
set_option maxHeartbeats 1000000 in
theorem pow2_16 (w : World) :
    Calls Tryd.prog 83 #[.int .i64 16] w fun e w' => e = .returned (.bool true) ∧ w' = w := by
  go_enter Tryd.func83, Tryd.ntmps83
  go_wp2
  go_ret
  exact ⟨rfl, rfl⟩
def hexD : ByteArray := ⟨#[48, 49, 50, 51, 52, 53, 54, 55, 56, 57, 97, 98, 99, 100, 101, 102, 103, 104, 105, 106, 107, 108, 109, 110, 111, 112, 113, 114, 115, 116, 117, 118, 119, 120, 121, 122]⟩
theorem zsize : Tryd.zeroCells104.size = 65 := by kernel_rfl
theorem cellAt (w : World) (cs : Array Value) (t : TypeId) (i : Nat) : (w.alloc (.cells cs t)).cell? ⟨w.heap.size, i, none⟩ = cs[i]? :=
  cell_of_row _ _ _ cs t (0, 0) (heap_alloc_new w _)
theorem reads1 (w : World) (v : Int) :
    ReadsInt (w.alloc (.cells (Tryd.zeroCells104.setIfInBounds 64 (.int .u8 v)) 104)) .u8 (some ⟨w.heap.size, 64, none⟩) 1 [v] := by
  refine ⟨rfl, by omega, fun _ => ⟨_, rfl, fun j hj => ?_⟩⟩
  obtain rfl : j = 0 := by omega
  rw [show (⟨w.heap.size, 64, none⟩ : Addr).add 0 = ⟨w.heap.size, 64, none⟩ from rfl, cellAt, Array.getElem?_setIfInBounds, if_pos rfl, if_pos (by rw [zsize]; omega)]
  rfl
theorem reads2 (w : World) (v u : Int) :
    ReadsInt (w.alloc (.cells ((Tryd.zeroCells104.setIfInBounds 64 (.int .u8 v)).setIfInBounds 63 (.int .u8 u)) 104)) .u8 (some ⟨w.heap.size, 63, none⟩) 2 [u, v] := by
  refine ⟨rfl, by omega, fun _ => ⟨_, rfl, fun j hj => ?_⟩⟩
  rcases (by omega : j = 0 ∨ j = 1) with rfl | rfl
  · rw [show (⟨w.heap.size, 63, none⟩ : Addr).add 0 = ⟨w.heap.size, 63, none⟩ from rfl, cellAt, Array.getElem?_setIfInBounds, if_pos rfl, if_pos (by rw [Array.size_setIfInBounds, zsize]; omega)]
    rfl
  · rw [show (⟨w.heap.size, 63, none⟩ : Addr).add 1 = ⟨w.heap.size, 64, none⟩ from rfl, cellAt, Array.getElem?_setIfInBounds, if_neg (by omega), Array.getElem?_setIfInBounds, if_pos rfl, if_pos (by rw [zsize]; omega)]
    rfl
set_option maxHeartbeats 1000000 in
set_option maxRecDepth 100000 in
theorem formatBits_one (u : Int) (w : World) (h : w.cell? ⟨5, 15, none⟩ = some (.int .u8 4)) (h0 : 0 ≤ u) (h1 : u < 16) :
    Calls Tryd.prog 74 #[.slice none 0 0, .int .u64 u, .int .i64 16, .bool false, .bool false] w fun e w' => e = .returned (.tuple #[.slice none 0 0, .string (strOfNums [bt hexD u])]) ∧ Below w.heap.size w w' := by
  have ht : ∀ o, (w.alloc o).cell? ⟨5, 15, none⟩ = some (.int .u8 4) := fun o => by rw [World.cell?_alloc_lt w o _ (World.block_lt_of_cell? w _ h)]; exact h
  have hb := bt_at hexD u
  have hcv := string_of_reads (P := Tryd.prog) (src := 22) (dst := 9) (c := 1) Tryd.underlying22 Tryd.underlying5 Tryd.underlying9 (reads1 w (bt hexD u))
  unfold hexD at hb hcv ⊢
  go_enter Tryd.func74, Tryd.ntmps74
  go_wp2_with (first | (go_at_call 83; refine (pow2_16 _).mono ?_; rintro e w1 ⟨rfl, rfl⟩) | (go_at_call 84; refine (tz_16 _ (ht _)).mono ?_; rintro e w1 ⟨rfl, rfl⟩))
  refine wp_loop_rounds 1 ?_
  rw [rounds_succ]
  go_wp2_with fail
  go_ret2
  exact ⟨rfl, (Below.refl _ _).alloc (Nat.le_refl _) _⟩
theorem and15 (u : Int) (h0 : 0 ≤ u) (h1 : u < 256) : bits BinOp.and IntKind.u64 u 15 = u % 16 := by
  have h : ∀ n : Fin 256, bits BinOp.and IntKind.u64 (n.val : Int) 15 = (n.val : Int) % 16 := by decide +kernel
  have h2 := h ⟨u.toNat, by omega⟩
  simpa [Int.toNat_of_nonneg h0] using h2
set_option maxHeartbeats 1000000 in
set_option maxRecDepth 100000 in
theorem formatBits_two (u : Int) (w : World) (h : w.cell? ⟨5, 15, none⟩ = some (.int .u8 4)) (h0 : 16 ≤ u) (h1 : u < 256) :
    Calls Tryd.prog 74 #[.slice none 0 0, .int .u64 u, .int .i64 16, .bool false, .bool false] w fun e w' => e = .returned (.tuple #[.slice none 0 0, .string (strOfNums [bt hexD (u / 16), bt hexD (u % 16)])]) ∧ Below w.heap.size w w' := by
  have ht : ∀ o, (w.alloc o).cell? ⟨5, 15, none⟩ = some (.int .u8 4) := fun o => by rw [World.cell?_alloc_lt w o _ (World.block_lt_of_cell? w _ h)]; exact h
  have hb := bt_at hexD (u / 16)
  have hb2 := bt_at hexD (u % 16)
  have hcv := string_of_reads (P := Tryd.prog) (src := 22) (dst := 9) (c := 2) Tryd.underlying22 Tryd.underlying5 Tryd.underlying9 (reads2 w (bt hexD (u % 16)) (bt hexD (u / 16)))
  have ha := and15 u (by omega) h1
  have hm0 : 0 ≤ u % 16 := by omega
  have hm1 : u % 16 < 16 := by omega
  have hq0 : 0 ≤ u / 16 := by omega
  have hq1 : u / 16 < 16 := by omega
  unfold hexD at hb hb2 hcv ⊢
  go_enter Tryd.func74, Tryd.ntmps74
  go_wp2_with (first | (go_at_call 83; refine (pow2_16 _).mono ?_; rintro e w1 ⟨rfl, rfl⟩) | (go_at_call 84; refine (tz_16 _ (ht _)).mono ?_; rintro e w1 ⟨rfl, rfl⟩))
  refine wp_loop_rounds 2 ?_
  rw [rounds_succ]
  go_wp2_with fail
  rw [rounds_succ]
  go_wp2_with fail
  go_ret2
  exact ⟨rfl, (Below.refl _ _).alloc (Nat.le_refl _) _⟩
/-- Two digits to the base 16, or one. -/
def hexText (u : Int) : ByteArray := if u < 16 then strOfNums [bt hexD u] else strOfNums [bt hexD (u / 16), bt hexD (u % 16)]
theorem formatBits_16 (u : Int) (w : World) (h : w.cell? ⟨5, 15, none⟩ = some (.int .u8 4)) (h0 : 0 ≤ u) (h1 : u < 256) :
    Calls Tryd.prog 74 #[.slice none 0 0, .int .u64 u, .int .i64 16, .bool false, .bool false] w fun e w' => e = .returned (.tuple #[.slice none 0 0, .string (hexText u)]) ∧ Below w.heap.size w w' := by
  unfold hexText
  by_cases hu : u < 16
  · rw [if_pos hu]; exact formatBits_one u w h h0 hu
  · rw [if_neg hu]; exact formatBits_two u w h (by omega) h1
set_option maxHeartbeats 1000000 in
theorem iFormatInt_16 (u : Int) (w : World) (h : w.cell? ⟨5, 15, none⟩ = some (.int .u8 4)) (h0 : 0 ≤ u) (h1 : u < 256) :
    Calls Tryd.prog 65 #[.int .i64 u, .int .i64 16] w fun e w' => e = .returned (.string (hexText u)) ∧ Below w.heap.size w w' := by
  have hlt : ¬ u < 0 := by omega
  go_enter Tryd.func65, Tryd.ntmps65
  go_wp2_with (go_at_call 74; refine (formatBits_16 _ _ h h0 h1).mono ?_; rintro e w1 ⟨rfl, hb⟩)
  go_ret
  exact ⟨rfl, hb⟩
set_option maxHeartbeats 1000000 in
theorem formatInt_16 (u : Int) (w : World) (h : w.cell? ⟨5, 15, none⟩ = some (.int .u8 4)) (h0 : 0 ≤ u) (h1 : u < 256) :
    Calls Tryd.prog 53 #[.int .i64 u, .int .i64 16] w fun e w' => e = .returned (.string (hexText u)) ∧ Below w.heap.size w w' := by
  go_enter Tryd.func53, Tryd.ntmps53
  go_wp2_with (go_at_call 65; refine (iFormatInt_16 _ _ h h0 h1).mono ?_; rintro e w1 ⟨rfl, hb⟩)
  go_ret
  exact ⟨rfl, hb⟩
end Go.Proofs.YthnknchacjmmeaaDoor
