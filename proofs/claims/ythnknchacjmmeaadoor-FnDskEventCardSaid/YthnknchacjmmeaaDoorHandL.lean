/- impl.dskPlain with each of its closures. -/
import Derived.Test.YthnknchacjmmeaaDoorHandK
namespace Go.Proofs.YthnknchacjmmeaaDoor
open Go.RowKit Go.Proofs.YthnknchacjmmeaaDoorW.PrintWords Go.Proofs.YthnknchacjmmeaaDoorW.PrintLast Go.Proofs.YthnknchacjmmeaaDoorW.PrintMore
set_option linter.unusedVariables false
set_option linter.unusedSimpArgs false
def evV (k a n v : Int) : Value := .agg (evC k a n v)
theorem two_made {w w1 : World} {cs cs' : Array Value} {t : TypeId} (hb : Below ((w.alloc (.cells cs t)).alloc (.cells cs' t)).heap.size ((w.alloc (.cells cs t)).alloc (.cells cs' t)) w1) :
    w1.heap[w.heap.size]? = some (.cells cs t (0, 0)) ∧ w1.heap[w.heap.size + 1]? = some (.cells cs' t (0, 0)) := by
  have e0 : ((w.alloc (.cells cs t)).alloc (.cells cs' t)).heap[w.heap.size]? = some (.cells cs t (0, 0)) := by
    show ((w.heap.push _).push _)[w.heap.size]? = _
    rw [Array.getElem?_push, if_neg (by simp), Array.getElem?_push, if_pos rfl]
  have e1 : ((w.alloc (.cells cs t)).alloc (.cells cs' t)).heap[w.heap.size + 1]? = some (.cells cs' t (0, 0)) := by
    show ((w.heap.push _).push _)[w.heap.size + 1]? = _
    rw [Array.getElem?_push, if_pos (by simp)]
  have hs : ((w.alloc (.cells cs t)).alloc (.cells cs' t)).heap.size = w.heap.size + 2 := by
    show ((w.heap.push _).push _).size = _
    simp
  exact ⟨heap_keep hb (by omega) e0, heap_keep hb (by omega) e1⟩
theorem ev_cells {w : World} {b : Nat} {k a n v : Int} {t : TypeId} (h : w.heap[b]? = some (.cells (evC k a n v) t (0, 0))) :
    w.cell? ⟨b, 0, none⟩ = some (.int .i64 k) ∧ w.cell? ⟨b, 1, none⟩ = some (.int .i64 a) ∧ w.cell? ⟨b, 2, none⟩ = some (.int .i64 n) ∧ w.cell? ⟨b, 3, none⟩ = some (.int .i64 v) ∧ w.cell? ⟨b, 4, none⟩ = some (.slice none 0 0) ∧
    w.frozen? ⟨b, 0, none⟩ = false ∧ w.frozen? ⟨b, 1, none⟩ = false ∧ w.frozen? ⟨b, 2, none⟩ = false ∧ w.frozen? ⟨b, 3, none⟩ = false ∧ w.frozen? ⟨b, 4, none⟩ = false :=
  ⟨cell_of_heap h rfl, cell_of_heap h rfl, cell_of_heap h rfl, cell_of_heap h rfl, cell_of_heap h rfl, frozen_of_heap h, frozen_of_heap h, frozen_of_heap h, frozen_of_heap h, frozen_of_heap h⟩
/-- All five cells of an event's block, stored anew. -/
def putEv (w : World) (b : Nat) (k a n v : Int) (u : Value) : World :=
  ((((w.setCell ⟨b, 0, none⟩ (.int .i64 k)).setCell ⟨b, 1, none⟩ (.int .i64 a)).setCell ⟨b, 2, none⟩ (.int .i64 n)).setCell ⟨b, 3, none⟩ (.int .i64 v)).setCell ⟨b, 4, none⟩ u
theorem putEv_heap {w : World} {b : Nat} {k a n v : Int} {u : Value} {k' a' n' v' : Int} {t : TypeId} (h : w.heap[b]? = some (.cells (evC k' a' n' v') t (0, 0))) :
    (putEv w b k a n v u).heap[b]? = some (.cells #[.int .i64 k, .int .i64 a, .int .i64 n, .int .i64 v, u] t (0, 0)) :=
  blk_put (blk_put (blk_put (blk_put (blk_put h 0 _ rfl) 1 _ rfl) 2 _ rfl) 3 _ rfl) 4 _ rfl
theorem putEv_below {w0 w : World} {b : Nat} {k a n v : Int} {u : Value} (h : Below w0.heap.size w0 w) (hb : w0.heap.size ≤ b) : Below w0.heap.size w0 (putEv w b k a n v u) :=
  below_set (below_set (below_set (below_set (below_set h hb) hb) hb) hb) hb
set_option maxHeartbeats 1000000 in
set_option maxRecDepth 100000 in
theorem dskPlain_58 (A : Option Addr) (c : Nat) (a : ByteArray) (k n v : Int) (w : World) (hr : Kd.C Kd.string w A 1 [a]) (hc : 1 ≤ c) (ha : 0 ≤ wordNum a) :
    Calls Tryd.prog 56 #[.slice A 1 c, .int .i64 1, evV k 0 n v, .func (.func 58) #[] #[]] w fun e w' => e = .returned (.tuple #[evV k (wordNum a) n v, .bool true]) ∧ Below w.heap.size w w' := by
  unfold evV evC
  have hb0 : Below w.heap.size w (w.alloc (.cells (evC k 0 n v) 32)) := (Below.refl _ _).alloc (Nat.le_refl _) _
  have hb1 : Below w.heap.size w ((w.alloc (.cells (evC k 0 n v) 32)).alloc (.cells (evC 0 0 0 0) 32)) := hb0.alloc hb0.size _
  go_enter Tryd.func56, Tryd.ntmps56
  go_upto_region 4 with (go_at_call 66; refine (dskNumbers_one _ _ a _ (Kd.C_below hr hb1) hc ha).mono ?_; rintro e w1 ⟨rfl, hb2⟩; obtain ⟨g0, g1⟩ := two_made hb2; unfold pairV)
  have hW1 := hb1.trans (hb2.mono hb1.size)
  have G0 := blk_alloc g0 (.cells #[.int .i64 (wordNum a), .int .i64 0] 76)
  have G1 := blk_alloc g1 (.cells #[.int .i64 (wordNum a), .int .i64 0] 76)
  have N := blk_new w1 (.cells #[.int .i64 (wordNum a), .int .i64 0] 76)
  have hWa : Below w.heap.size w (w1.alloc (.cells #[.int .i64 (wordNum a), .int .i64 0] 76)) := hW1.alloc hW1.size _
  generalize w1.alloc (.cells #[.int .i64 (wordNum a), .int .i64 0] 76) = W at *
  have d0 : W.cell? ⟨w1.heap.size, 0, none⟩ = some (.int .i64 (wordNum a)) := cell_of_heap (j := 0) N rfl
  have d1 : W.cell? ⟨w1.heap.size, 1, none⟩ = some (.int .i64 0) := cell_of_heap (j := 1) N rfl
  go_wp2_with (go_at_call 58; refine (clo58 _ k 0 n v (wordNum a) 0 _ G0).mono ?_; rintro e w2 ⟨rfl, K0, hk, hkk⟩; have hW2 := hk _ _ hWa (Nat.le_refl _); have K1 := hkk.blk G1 (by omega) (by simp); obtain ⟨c0, c1, c2, c3, c4, -⟩ := ev_cells K0; obtain ⟨e0, e1, e2, e3, e4, f0, f1, f2, f3, f4⟩ := ev_cells K1)
  refine bodyPost_ret (results_ct rfl _ _ (w.heap.size + 1) 32 (evC k (wordNum a) n v) (0, 0) _ rfl (by exact putEv_heap K1) Tryd.underlying32 rfl (by kernel_rfl)) rfl ?_
  exact ⟨rfl, putEv_below hW2 (Nat.le_succ _)⟩
set_option maxHeartbeats 1000000 in
set_option maxRecDepth 100000 in
theorem dskPlain_60 (A : Option Addr) (c : Nat) (a : ByteArray) (k n v : Int) (w : World) (hr : Kd.C Kd.string w A 1 [a]) (hc : 1 ≤ c) (ha : 0 ≤ wordNum a) :
    Calls Tryd.prog 56 #[.slice A 1 c, .int .i64 1, evV k 0 n v, .func (.func 60) #[] #[]] w fun e w' => e = .returned (.tuple #[evV k (wordNum a) n v, .bool true]) ∧ Below w.heap.size w w' := by
  unfold evV evC
  have hb0 : Below w.heap.size w (w.alloc (.cells (evC k 0 n v) 32)) := (Below.refl _ _).alloc (Nat.le_refl _) _
  have hb1 : Below w.heap.size w ((w.alloc (.cells (evC k 0 n v) 32)).alloc (.cells (evC 0 0 0 0) 32)) := hb0.alloc hb0.size _
  go_enter Tryd.func56, Tryd.ntmps56
  go_upto_region 4 with (go_at_call 66; refine (dskNumbers_one _ _ a _ (Kd.C_below hr hb1) hc ha).mono ?_; rintro e w1 ⟨rfl, hb2⟩; obtain ⟨g0, g1⟩ := two_made hb2; unfold pairV)
  have hW1 := hb1.trans (hb2.mono hb1.size)
  have G0 := blk_alloc g0 (.cells #[.int .i64 (wordNum a), .int .i64 0] 76)
  have G1 := blk_alloc g1 (.cells #[.int .i64 (wordNum a), .int .i64 0] 76)
  have N := blk_new w1 (.cells #[.int .i64 (wordNum a), .int .i64 0] 76)
  have hWa : Below w.heap.size w (w1.alloc (.cells #[.int .i64 (wordNum a), .int .i64 0] 76)) := hW1.alloc hW1.size _
  generalize w1.alloc (.cells #[.int .i64 (wordNum a), .int .i64 0] 76) = W at *
  have d0 : W.cell? ⟨w1.heap.size, 0, none⟩ = some (.int .i64 (wordNum a)) := cell_of_heap (j := 0) N rfl
  have d1 : W.cell? ⟨w1.heap.size, 1, none⟩ = some (.int .i64 0) := cell_of_heap (j := 1) N rfl
  go_wp2_with (go_at_call 60; refine (clo60 _ k 0 n v (wordNum a) 0 _ G0).mono ?_; rintro e w2 ⟨rfl, K0, hk, hkk⟩; have hW2 := hk _ _ hWa (Nat.le_refl _); have K1 := hkk.blk G1 (by omega) (by simp); obtain ⟨c0, c1, c2, c3, c4, -⟩ := ev_cells K0; obtain ⟨e0, e1, e2, e3, e4, f0, f1, f2, f3, f4⟩ := ev_cells K1)
  refine bodyPost_ret (results_ct rfl _ _ (w.heap.size + 1) 32 (evC k (wordNum a) n v) (0, 0) _ rfl (by exact putEv_heap K1) Tryd.underlying32 rfl (by kernel_rfl)) rfl ?_
  exact ⟨rfl, putEv_below hW2 (Nat.le_succ _)⟩
set_option maxHeartbeats 1000000 in
set_option maxRecDepth 100000 in
theorem dskPlain_61 (A : Option Addr) (c : Nat) (a : ByteArray) (k n v : Int) (w : World) (hr : Kd.C Kd.string w A 1 [a]) (hc : 1 ≤ c) (ha : 0 ≤ wordNum a) :
    Calls Tryd.prog 56 #[.slice A 1 c, .int .i64 1, evV k 0 n v, .func (.func 61) #[] #[]] w fun e w' => e = .returned (.tuple #[evV k (wordNum a) n v, .bool true]) ∧ Below w.heap.size w w' := by
  unfold evV evC
  have hb0 : Below w.heap.size w (w.alloc (.cells (evC k 0 n v) 32)) := (Below.refl _ _).alloc (Nat.le_refl _) _
  have hb1 : Below w.heap.size w ((w.alloc (.cells (evC k 0 n v) 32)).alloc (.cells (evC 0 0 0 0) 32)) := hb0.alloc hb0.size _
  go_enter Tryd.func56, Tryd.ntmps56
  go_upto_region 4 with (go_at_call 66; refine (dskNumbers_one _ _ a _ (Kd.C_below hr hb1) hc ha).mono ?_; rintro e w1 ⟨rfl, hb2⟩; obtain ⟨g0, g1⟩ := two_made hb2; unfold pairV)
  have hW1 := hb1.trans (hb2.mono hb1.size)
  have G0 := blk_alloc g0 (.cells #[.int .i64 (wordNum a), .int .i64 0] 76)
  have G1 := blk_alloc g1 (.cells #[.int .i64 (wordNum a), .int .i64 0] 76)
  have N := blk_new w1 (.cells #[.int .i64 (wordNum a), .int .i64 0] 76)
  have hWa : Below w.heap.size w (w1.alloc (.cells #[.int .i64 (wordNum a), .int .i64 0] 76)) := hW1.alloc hW1.size _
  generalize w1.alloc (.cells #[.int .i64 (wordNum a), .int .i64 0] 76) = W at *
  have d0 : W.cell? ⟨w1.heap.size, 0, none⟩ = some (.int .i64 (wordNum a)) := cell_of_heap (j := 0) N rfl
  have d1 : W.cell? ⟨w1.heap.size, 1, none⟩ = some (.int .i64 0) := cell_of_heap (j := 1) N rfl
  go_wp2_with (go_at_call 61; refine (clo61 _ k 0 n v (wordNum a) 0 _ G0).mono ?_; rintro e w2 ⟨rfl, K0, hk, hkk⟩; have hW2 := hk _ _ hWa (Nat.le_refl _); have K1 := hkk.blk G1 (by omega) (by simp); obtain ⟨c0, c1, c2, c3, c4, -⟩ := ev_cells K0; obtain ⟨e0, e1, e2, e3, e4, f0, f1, f2, f3, f4⟩ := ev_cells K1)
  refine bodyPost_ret (results_ct rfl _ _ (w.heap.size + 1) 32 (evC k (wordNum a) n v) (0, 0) _ rfl (by exact putEv_heap K1) Tryd.underlying32 rfl (by kernel_rfl)) rfl ?_
  exact ⟨rfl, putEv_below hW2 (Nat.le_succ _)⟩
set_option maxHeartbeats 1000000 in
set_option maxRecDepth 100000 in
theorem dskPlain_57 (A : Option Addr) (c : Nat) (a b : ByteArray) (k n v : Int) (w : World) (hr : Kd.C Kd.string w A 2 [a, b]) (hc : 2 ≤ c) (ha : 0 ≤ wordNum a) (hb : 0 ≤ wordNum b) :
    Calls Tryd.prog 56 #[.slice A 2 c, .int .i64 2, evV k 0 n v, .func (.func 57) #[] #[]] w fun e w' => e = .returned (.tuple #[evV k (wordNum a) n (wordNum b), .bool true]) ∧ Below w.heap.size w w' := by
  unfold evV evC
  have hb0 : Below w.heap.size w (w.alloc (.cells (evC k 0 n v) 32)) := (Below.refl _ _).alloc (Nat.le_refl _) _
  have hb1 : Below w.heap.size w ((w.alloc (.cells (evC k 0 n v) 32)).alloc (.cells (evC 0 0 0 0) 32)) := hb0.alloc hb0.size _
  go_enter Tryd.func56, Tryd.ntmps56
  go_upto_region 4 with (go_at_call 66; refine (dskNumbers_two _ _ a b _ (Kd.C_below hr hb1) hc ha hb).mono ?_; rintro e w1 ⟨rfl, hb2⟩; obtain ⟨g0, g1⟩ := two_made hb2; unfold pairV)
  have hW1 := hb1.trans (hb2.mono hb1.size)
  have G0 := blk_alloc g0 (.cells #[.int .i64 (wordNum a), .int .i64 (wordNum b)] 76)
  have G1 := blk_alloc g1 (.cells #[.int .i64 (wordNum a), .int .i64 (wordNum b)] 76)
  have N := blk_new w1 (.cells #[.int .i64 (wordNum a), .int .i64 (wordNum b)] 76)
  have hWa : Below w.heap.size w (w1.alloc (.cells #[.int .i64 (wordNum a), .int .i64 (wordNum b)] 76)) := hW1.alloc hW1.size _
  generalize w1.alloc (.cells #[.int .i64 (wordNum a), .int .i64 (wordNum b)] 76) = W at *
  have d0 : W.cell? ⟨w1.heap.size, 0, none⟩ = some (.int .i64 (wordNum a)) := cell_of_heap (j := 0) N rfl
  have d1 : W.cell? ⟨w1.heap.size, 1, none⟩ = some (.int .i64 (wordNum b)) := cell_of_heap (j := 1) N rfl
  go_wp2_with (go_at_call 57; refine (clo57 _ k 0 n v (wordNum a) (wordNum b) _ G0).mono ?_; rintro e w2 ⟨rfl, K0, hk, hkk⟩; have hW2 := hk _ _ hWa (Nat.le_refl _); have K1 := hkk.blk G1 (by omega) (by simp); obtain ⟨c0, c1, c2, c3, c4, -⟩ := ev_cells K0; obtain ⟨e0, e1, e2, e3, e4, f0, f1, f2, f3, f4⟩ := ev_cells K1)
  refine bodyPost_ret (results_ct rfl _ _ (w.heap.size + 1) 32 (evC k (wordNum a) n (wordNum b)) (0, 0) _ rfl (by exact putEv_heap K1) Tryd.underlying32 rfl (by kernel_rfl)) rfl ?_
  exact ⟨rfl, putEv_below hW2 (Nat.le_succ _)⟩
set_option maxHeartbeats 1000000 in
set_option maxRecDepth 100000 in
theorem dskPlain_62 (A : Option Addr) (c : Nat) (a b : ByteArray) (k n v : Int) (w : World) (hr : Kd.C Kd.string w A 2 [a, b]) (hc : 2 ≤ c) (ha : 0 ≤ wordNum a) (hb : 0 ≤ wordNum b) :
    Calls Tryd.prog 56 #[.slice A 2 c, .int .i64 2, evV k 0 n v, .func (.func 62) #[] #[]] w fun e w' => e = .returned (.tuple #[evV k (wordNum a) (wordNum b) v, .bool true]) ∧ Below w.heap.size w w' := by
  unfold evV evC
  have hb0 : Below w.heap.size w (w.alloc (.cells (evC k 0 n v) 32)) := (Below.refl _ _).alloc (Nat.le_refl _) _
  have hb1 : Below w.heap.size w ((w.alloc (.cells (evC k 0 n v) 32)).alloc (.cells (evC 0 0 0 0) 32)) := hb0.alloc hb0.size _
  go_enter Tryd.func56, Tryd.ntmps56
  go_upto_region 4 with (go_at_call 66; refine (dskNumbers_two _ _ a b _ (Kd.C_below hr hb1) hc ha hb).mono ?_; rintro e w1 ⟨rfl, hb2⟩; obtain ⟨g0, g1⟩ := two_made hb2; unfold pairV)
  have hW1 := hb1.trans (hb2.mono hb1.size)
  have G0 := blk_alloc g0 (.cells #[.int .i64 (wordNum a), .int .i64 (wordNum b)] 76)
  have G1 := blk_alloc g1 (.cells #[.int .i64 (wordNum a), .int .i64 (wordNum b)] 76)
  have N := blk_new w1 (.cells #[.int .i64 (wordNum a), .int .i64 (wordNum b)] 76)
  have hWa : Below w.heap.size w (w1.alloc (.cells #[.int .i64 (wordNum a), .int .i64 (wordNum b)] 76)) := hW1.alloc hW1.size _
  generalize w1.alloc (.cells #[.int .i64 (wordNum a), .int .i64 (wordNum b)] 76) = W at *
  have d0 : W.cell? ⟨w1.heap.size, 0, none⟩ = some (.int .i64 (wordNum a)) := cell_of_heap (j := 0) N rfl
  have d1 : W.cell? ⟨w1.heap.size, 1, none⟩ = some (.int .i64 (wordNum b)) := cell_of_heap (j := 1) N rfl
  go_wp2_with (go_at_call 62; refine (clo62 _ k 0 n v (wordNum a) (wordNum b) _ G0).mono ?_; rintro e w2 ⟨rfl, K0, hk, hkk⟩; have hW2 := hk _ _ hWa (Nat.le_refl _); have K1 := hkk.blk G1 (by omega) (by simp); obtain ⟨c0, c1, c2, c3, c4, -⟩ := ev_cells K0; obtain ⟨e0, e1, e2, e3, e4, f0, f1, f2, f3, f4⟩ := ev_cells K1)
  refine bodyPost_ret (results_ct rfl _ _ (w.heap.size + 1) 32 (evC k (wordNum a) (wordNum b) v) (0, 0) _ rfl (by exact putEv_heap K1) Tryd.underlying32 rfl (by kernel_rfl)) rfl ?_
  exact ⟨rfl, putEv_below hW2 (Nat.le_succ _)⟩
set_option maxHeartbeats 1000000 in
set_option maxRecDepth 100000 in
theorem dskPlain_no (A : Option Addr) (c : Nat) (l : List ByteArray) (count : Nat) (k n v : Int) (V : Value) (w : World) (hr : Kd.C Kd.string w A l.length l) (hc : l.length ≤ c) (hl : l.length ≤ 1000) (hno : isN l count = false) :
    Calls Tryd.prog 56 #[.slice A l.length c, .int .i64 count, evV k 0 n v, V] w fun e w' => e = .returned (.tuple #[evV 0 0 0 0, .bool false]) ∧ Below w.heap.size w w' := by
  unfold evV evC
  have hb0 : Below w.heap.size w (w.alloc (.cells (evC k 0 n v) 32)) := (Below.refl _ _).alloc (Nat.le_refl _) _
  have hb1 : Below w.heap.size w ((w.alloc (.cells (evC k 0 n v) 32)).alloc (.cells (evC 0 0 0 0) 32)) := hb0.alloc hb0.size _
  go_enter Tryd.func56, Tryd.ntmps56
  go_upto_region 3 with (go_at_call 66; refine (dskNumbers_no _ _ l count _ (Kd.C_below hr hb1) hc hl hno).mono ?_; rintro e w1 ⟨rfl, hb2⟩; obtain ⟨g0, g1⟩ := two_made hb2; unfold pairV)
  have hW1 := hb1.trans (hb2.mono hb1.size)
  have G1 := blk_alloc g1 (.cells #[.int .i64 0, .int .i64 0] 76)
  have hWa : Below w.heap.size w (w1.alloc (.cells #[.int .i64 0, .int .i64 0] 76)) := hW1.alloc hW1.size _
  generalize w1.alloc (.cells #[.int .i64 0, .int .i64 0] 76) = W at *
  obtain ⟨e0, e1, e2, e3, e4, f0, f1, f2, f3, f4⟩ := ev_cells G1
  go_wp2_with fail
  refine bodyPost_ret (results_ct rfl _ _ (w.heap.size + 1) 32 (evC 0 0 0 0) (0, 0) _ rfl (by exact putEv_heap G1) Tryd.underlying32 rfl (by kernel_rfl)) rfl ?_
  exact ⟨rfl, putEv_below hWa (Nat.le_succ _)⟩
end Go.Proofs.YthnknchacjmmeaaDoor
