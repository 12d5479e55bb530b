/- impl.dskNumbers' contract: so many words that are numbers. -/
import Derived.Test.YthnknchacjmmeaaDoorHandI
import Derived.Laws.CopyRow
import Derived.Laws.CopyOwn
namespace Go.Proofs.YthnknchacjmmeaaDoor
open Go.RowKit Go.Proofs.YthnknchacjmmeaaDoorW.PrintWords Go.Proofs.YthnknchacjmmeaaDoorW.PrintLast Go.Proofs.YthnknchacjmmeaaDoorW.PrintMore
set_option linter.unusedVariables false
set_option linter.unusedSimpArgs false
def isN (l : List ByteArray) (count : Nat) : Bool := numsOk l && decide (l.length = count)
def pairV (x y : Int) : Value := .agg #[.int .i64 x, .int .i64 y]
theorem heap_keep {w w1 : World} (hb : Below w.heap.size w w1) {k : Nat} (hk : k < w.heap.size) {o : Obj} (h : w.heap[k]? = some o) : w1.heap[k]? = some o := by rw [hb.block k hk]; exact h
/-- Two blocks of two numbers, made one behind the other, behind a call. -/
theorem two_blocks {w w1 : World} {t : TypeId} {x y : Value} (hx : x.oneCell' = true) (hb : Below ((w.alloc (.cells #[x, y] t)).alloc (.cells #[x, y] t)).heap.size ((w.alloc (.cells #[x, y] t)).alloc (.cells #[x, y] t)) w1) :
    w1.heap[w.heap.size]? = some (.cells #[x, y] t (0, 0)) ∧ w1.heap[w.heap.size + 1]? = some (.cells #[x, y] t (0, 0)) := by
  have e0 : ((w.alloc (.cells #[x, y] t)).alloc (.cells #[x, y] t)).heap[w.heap.size]? = some (.cells #[x, y] t (0, 0)) := by
    show ((w.heap.push _).push _)[w.heap.size]? = _
    rw [Array.getElem?_push, if_neg (by simp), Array.getElem?_push, if_pos rfl]
  have e1 : ((w.alloc (.cells #[x, y] t)).alloc (.cells #[x, y] t)).heap[w.heap.size + 1]? = some (.cells #[x, y] t (0, 0)) := by
    show ((w.heap.push _).push _)[w.heap.size + 1]? = _
    rw [Array.getElem?_push, if_pos (by simp)]
  have hs : ((w.alloc (.cells #[x, y] t)).alloc (.cells #[x, y] t)).heap.size = w.heap.size + 2 := by
    show ((w.heap.push _).push _).size = _
    simp
  exact ⟨heap_keep hb (by omega) e0, heap_keep hb (by omega) e1⟩
theorem cell_of_heap {w : World} {b j : Nat} {cs : Array Value} {t : TypeId} {f : Nat × Nat} {v : Value} (h : w.heap[b]? = some (.cells cs t f)) (hv : cs[j]? = some v) : w.cell? ⟨b, j, none⟩ = some v := by
  simp [World.cell?, h, hv]
theorem frozen_of_heap {w : World} {b j : Nat} {cs : Array Value} {t : TypeId} (h : w.heap[b]? = some (.cells cs t (0, 0))) : w.frozen? ⟨b, j, none⟩ = false := by
  simp [World.frozen?, h]
set_option maxHeartbeats 1000000 in
set_option maxRecDepth 100000 in
theorem dskNumbers_no (A : Option Addr) (c : Nat) (l : List ByteArray) (count : Nat) (w : World) (hr : Kd.C Kd.string w A l.length l) (hc : l.length ≤ c) (hl : l.length ≤ 1000) (hno : isN l count = false) :
    Calls Tryd.prog 66 #[.slice A l.length c, .int .i64 count] w fun e w' => e = .returned (.tuple #[pairV 0 0, .bool false]) ∧ Below w.heap.size w w' := by
  have hb0 : Below w.heap.size w (w.alloc (.cells #[.int .i64 0, .int .i64 0] 76)) := (Below.refl _ _).alloc (Nat.le_refl _) _
  have hb1 : Below w.heap.size w ((w.alloc (.cells #[.int .i64 0, .int .i64 0] 76)).alloc (.cells #[.int .i64 0, .int .i64 0] 76)) := hb0.alloc hb0.size _
  cases ho : numsOk l with
  | false =>
    go_enter Tryd.func66, Tryd.ntmps66
    go_wp2_with (go_at_call 75; refine (txtNumbers_any _ _ _ _ (Kd.C_below hr hb1) hc hl).mono ?_; rintro e w1 ⟨hb2, h | ⟨_, rfl⟩⟩; (exact absurd h.1 (by rw [ho]; decide)); obtain ⟨g0, g1⟩ := two_blocks rfl hb2; have c0 := cell_of_heap (j := 0) g0 rfl; have c1 := cell_of_heap (j := 1) g0 rfl; have c2 := cell_of_heap (j := 0) g1 rfl; have c3 := cell_of_heap (j := 1) g1 rfl; have f0 := frozen_of_heap (j := 0) g0; have f1 := frozen_of_heap (j := 1) g0)
    have hW := hb1.trans (hb2.mono hb1.size)
    refine bodyPost_ret (results_ct rfl _ _ w.heap.size 76 #[.int .i64 0, .int .i64 0] (0, 0) _ rfl (by exact blk_put (blk_put g0 0 _ rfl) 1 _ rfl) Tryd.underlying76 rfl (by kernel_rfl)) rfl ?_
    exact ⟨rfl, below_set (below_set hW (Nat.le_refl _)) (Nat.le_refl _)⟩
  | true =>
    have hne : ((l.length : Int) == (count : Int)) = false := by
      unfold isN at hno
      rw [ho] at hno
      simp at hno
      rw [beq_eq_false_iff_ne]
      omega
    go_enter Tryd.func66, Tryd.ntmps66
    go_wp2_with (go_at_call 75; refine (txtNumbers_any _ _ _ _ (Kd.C_below hr hb1) hc hl).mono ?_; rintro e w1 ⟨hb2, ⟨_, v, rfl, hR⟩ | h⟩; rotate_left; (exact absurd h.1 (by rw [ho]; decide)); obtain ⟨A2, k2, rfl, hc2, hC2⟩ := Kd.R_reads hR; rw [List.length_map] at *; obtain ⟨g0, g1⟩ := two_blocks rfl hb2; have c0 := cell_of_heap (j := 0) g0 rfl; have c1 := cell_of_heap (j := 1) g0 rfl; have c2 := cell_of_heap (j := 0) g1 rfl; have c3 := cell_of_heap (j := 1) g1 rfl; have f0 := frozen_of_heap (j := 0) g0; have f1 := frozen_of_heap (j := 1) g0)
    have hW := hb1.trans (hb2.mono hb1.size)
    refine bodyPost_ret (results_ct rfl _ _ w.heap.size 76 #[.int .i64 0, .int .i64 0] (0, 0) _ rfl (by exact blk_put (blk_put g0 0 _ rfl) 1 _ rfl) Tryd.underlying76 rfl (by kernel_rfl)) rfl ?_
    exact ⟨rfl, below_set (below_set hW (Nat.le_refl _)) (Nat.le_refl _)⟩
theorem txtNumbers_one (A : Option Addr) (c : Nat) (a : ByteArray) (w : World) (hr : Kd.C Kd.string w A 1 [a]) (hc : 1 ≤ c) (ha : 0 ≤ wordNum a) :
    Calls Tryd.prog 75 #[.slice A 1 c, .bool false] w fun e w' => ∃ ad k, e = .returned (.tuple #[.slice (some ad) 1 k, .bool true]) ∧ w'.cell? (ad.add 0) = some (.int .i64 (wordNum a)) ∧ Below w.heap.size w w' := by
  refine (txtNumbers_any A c [a] w hr hc (by simp)).mono ?_
  rintro e w1 ⟨hb2, ⟨_, v, rfl, hR⟩ | h⟩
  · obtain ⟨A2, k2, rfl, hc2, hC2⟩ := Kd.R_reads hR
    obtain ⟨ad, rfl, hcell⟩ := (Kd.reads_of_C (enc := Value.int .i64) (d := (0 : Int)) (h1 := fun _ => rfl) hC2).2.2 (by simp)
    exact ⟨ad, k2, rfl, by simpa using hcell 0 (by simp), hb2⟩
  · exact absurd h.1 (by simp [numsOk, ha])
theorem txtNumbers_two (A : Option Addr) (c : Nat) (a b : ByteArray) (w : World) (hr : Kd.C Kd.string w A 2 [a, b]) (hc : 2 ≤ c) (ha : 0 ≤ wordNum a) (hb : 0 ≤ wordNum b) :
    Calls Tryd.prog 75 #[.slice A 2 c, .bool false] w fun e w' => ∃ ad k, e = .returned (.tuple #[.slice (some ad) 2 k, .bool true]) ∧ w'.cell? (ad.add 0) = some (.int .i64 (wordNum a)) ∧ w'.cell? (ad.add 1) = some (.int .i64 (wordNum b)) ∧ Below w.heap.size w w' := by
  refine (txtNumbers_any A c [a, b] w hr hc (by simp)).mono ?_
  rintro e w1 ⟨hb2, ⟨_, v, rfl, hR⟩ | h⟩
  · obtain ⟨A2, k2, rfl, hc2, hC2⟩ := Kd.R_reads hR
    obtain ⟨ad, rfl, hcell⟩ := (Kd.reads_of_C (enc := Value.int .i64) (d := (0 : Int)) (h1 := fun _ => rfl) hC2).2.2 (by simp)
    exact ⟨ad, k2, rfl, by simpa using hcell 0 (by simp), by simpa using hcell 1 (by simp), hb2⟩
  · exact absurd h.1 (by simp [numsOk, ha, hb])
theorem copy_one {w1 : World} {g : Nat} {ad : Addr} {k2 : Nat} {x : Int} (g1 : w1.heap[g]? = some (.cells #[.int .i64 0, .int .i64 0] 76 (0, 0))) (hcell : w1.cell? (ad.add 0) = some (.int .i64 x)) (ty : TypeId) :
    (Builtin.copy_ #[81, 81] ty #[.slice (some ⟨g, 0, none⟩) 2 2, .slice (some ad) 1 k2]).run Tryd.prog w1 = .ok (goInt 1) (w1.setRow g #[.int .i64 x, .int .i64 0]) :=
  run_copy_row Tryd.prog w1 81 81 ty 3 g 0 2 2 ad 1 k2 #[.int .i64 0, .int .i64 0] 76 [.int .i64 x] Tryd.underlying81 (by kernel_rfl) g1 rfl
    (by intro j v hj; cases j with | zero => (cases hj; exact hcell) | succ j => simp at hj) (by simp) (by intro v hv; simp at hv; subst hv; rfl)
theorem copy_two {w1 : World} {g : Nat} {ad : Addr} {k2 : Nat} {x y : Int} (g1 : w1.heap[g]? = some (.cells #[.int .i64 0, .int .i64 0] 76 (0, 0))) (h0 : w1.cell? (ad.add 0) = some (.int .i64 x)) (h1 : w1.cell? (ad.add 1) = some (.int .i64 y)) (ty : TypeId) :
    (Builtin.copy_ #[81, 81] ty #[.slice (some ⟨g, 0, none⟩) 2 2, .slice (some ad) 2 k2]).run Tryd.prog w1 = .ok (goInt 2) (w1.setRow g #[.int .i64 x, .int .i64 y]) :=
  run_copy_row Tryd.prog w1 81 81 ty 3 g 0 2 2 ad 2 k2 #[.int .i64 0, .int .i64 0] 76 [.int .i64 x, .int .i64 y] Tryd.underlying81 (by kernel_rfl) g1 rfl
    (by intro j v hj; match j, hj with | 0, hj => (cases hj; exact h0) | 1, hj => (cases hj; exact h1) | j + 2, hj => simp at hj) (by simp) (by intro v hv; simp at hv; rcases hv with rfl | rfl <;> rfl)
/-- The two blocks behind the copy. -/
theorem behind_copy {w1 : World} {g : Nat} {x y u v : Value} (g0 : w1.heap[g]? = some (.cells #[x, y] 76 (0, 0))) (g1 : w1.heap[g + 1]? = some (.cells #[x, y] 76 (0, 0))) :
    (w1.setRow (g + 1) #[u, v]).heap[g]? = some (.cells #[x, y] 76 (0, 0)) ∧ (w1.setRow (g + 1) #[u, v]).heap[g + 1]? = some (.cells #[u, v] 76 (0, 0)) := by
  constructor
  · rw [setRow_other w1 (g + 1) g _ (by omega)]; exact g0
  · exact setRow_heap w1 (g + 1) _ _ 76 _ g1
set_option maxHeartbeats 1000000 in
set_option maxRecDepth 100000 in
theorem dskNumbers_one (A : Option Addr) (c : Nat) (a : ByteArray) (w : World) (hr : Kd.C Kd.string w A 1 [a]) (hc : 1 ≤ c) (ha : 0 ≤ wordNum a) :
    Calls Tryd.prog 66 #[.slice A 1 c, .int .i64 1] w fun e w' => e = .returned (.tuple #[pairV (wordNum a) 0, .bool true]) ∧ Below w.heap.size w w' := by
  have hb0 : Below w.heap.size w (w.alloc (.cells #[.int .i64 0, .int .i64 0] 76)) := (Below.refl _ _).alloc (Nat.le_refl _) _
  have hb1 : Below w.heap.size w ((w.alloc (.cells #[.int .i64 0, .int .i64 0] 76)).alloc (.cells #[.int .i64 0, .int .i64 0] 76)) := hb0.alloc hb0.size _
  go_enter Tryd.func66, Tryd.ntmps66
  go_wp2_with (go_at_call 75; refine (txtNumbers_one _ _ a _ (Kd.C_below hr hb1) hc ha).mono ?_; rintro e w1 ⟨ad, k2, rfl, hcell, hb2⟩; obtain ⟨g0, g1⟩ := two_blocks rfl hb2; have hcp := copy_one (k2 := k2) g1 hcell; obtain ⟨G0, G1⟩ := behind_copy (u := .int .i64 (wordNum a)) (v := .int .i64 0) g0 g1; have c0 := cell_of_heap (j := 0) G0 rfl; have c1 := cell_of_heap (j := 1) G0 rfl; have c2 := cell_of_heap (j := 0) G1 rfl; have c3 := cell_of_heap (j := 1) G1 rfl; have f0 := frozen_of_heap (j := 0) G0; have f1 := frozen_of_heap (j := 1) G0)
  have hW := below_setRow (g := w.heap.size + 1) (hb1.trans (hb2.mono hb1.size)) (by omega) #[.int .i64 (wordNum a), .int .i64 0]
  refine bodyPost_ret (results_ct rfl _ _ w.heap.size 76 #[.int .i64 (wordNum a), .int .i64 0] (0, 0) _ rfl (by exact blk_put (blk_put G0 0 _ rfl) 1 _ rfl) Tryd.underlying76 rfl (by kernel_rfl)) rfl ?_
  exact ⟨rfl, below_set (below_set hW (Nat.le_refl _)) (Nat.le_refl _)⟩
set_option maxHeartbeats 1000000 in
set_option maxRecDepth 100000 in
theorem dskNumbers_two (A : Option Addr) (c : Nat) (a b : ByteArray) (w : World) (hr : Kd.C Kd.string w A 2 [a, b]) (hc : 2 ≤ c) (ha : 0 ≤ wordNum a) (hb : 0 ≤ wordNum b) :
    Calls Tryd.prog 66 #[.slice A 2 c, .int .i64 2] w fun e w' => e = .returned (.tuple #[pairV (wordNum a) (wordNum b), .bool true]) ∧ Below w.heap.size w w' := by
  have hb0 : Below w.heap.size w (w.alloc (.cells #[.int .i64 0, .int .i64 0] 76)) := (Below.refl _ _).alloc (Nat.le_refl _) _
  have hb1 : Below w.heap.size w ((w.alloc (.cells #[.int .i64 0, .int .i64 0] 76)).alloc (.cells #[.int .i64 0, .int .i64 0] 76)) := hb0.alloc hb0.size _
  go_enter Tryd.func66, Tryd.ntmps66
  go_wp2_with (go_at_call 75; refine (txtNumbers_two _ _ a b _ (Kd.C_below hr hb1) hc ha hb).mono ?_; rintro e w1 ⟨ad, k2, rfl, hcell, hcell2, hb2⟩; obtain ⟨g0, g1⟩ := two_blocks rfl hb2; have hcp := copy_two (k2 := k2) g1 hcell hcell2; obtain ⟨G0, G1⟩ := behind_copy (u := .int .i64 (wordNum a)) (v := .int .i64 (wordNum b)) g0 g1; have c0 := cell_of_heap (j := 0) G0 rfl; have c1 := cell_of_heap (j := 1) G0 rfl; have c2 := cell_of_heap (j := 0) G1 rfl; have c3 := cell_of_heap (j := 1) G1 rfl; have f0 := frozen_of_heap (j := 0) G0; have f1 := frozen_of_heap (j := 1) G0)
  have hW := below_setRow (g := w.heap.size + 1) (hb1.trans (hb2.mono hb1.size)) (by omega) #[.int .i64 (wordNum a), .int .i64 (wordNum b)]
  refine bodyPost_ret (results_ct rfl _ _ w.heap.size 76 #[.int .i64 (wordNum a), .int .i64 (wordNum b)] (0, 0) _ rfl (by exact blk_put (blk_put G0 0 _ rfl) 1 _ rfl) Tryd.underlying76 rfl (by kernel_rfl)) rfl ?_
  exact ⟨rfl, below_set (below_set hW (Nat.le_refl _)) (Nat.le_refl _)⟩
end Go.Proofs.YthnknchacjmmeaaDoor
