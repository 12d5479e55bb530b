/- The closures of impl's readers of lines, and impl.dskPlain with each of them. -/
import Derived.Test.YthnknchacjmmeaaDoorHandJ
import Derived.Deep.RegionHeld3
import Derived.Deep.RegionWith
namespace Go.Proofs.YthnknchacjmmeaaDoor
open Go.RowKit Go.Proofs.YthnknchacjmmeaaDoorW.PrintWords Go.Proofs.YthnknchacjmmeaaDoorW.PrintLast Go.Proofs.YthnknchacjmmeaaDoorW.PrintMore
set_option linter.unusedVariables false
set_option linter.unusedSimpArgs false
def evC (k a n v : Int) : Array Value := #[.int .i64 k, .int .i64 a, .int .i64 n, .int .i64 v, .slice none 0 0]
theorem clo58 (g : Nat) (k a n v x y : Int) (w : World) (hg : w.heap[g]? = some (.cells (evC k a n v) 32 (0, 0))) :
    Calls Tryd.prog 58 #[.pointer (some ⟨g, 0, none⟩), pairV x y] w fun e w' => e = .returned (.tuple #[]) ∧ w'.heap[g]? = some (.cells (evC k x n v) 32 (0, 0)) ∧ (∀ (B : Nat) (w0 : World), Below B w0 w → B ≤ g → Below B w0 w') ∧ KeepBut w w' g none := by
  have G := blk_alloc hg (.cells #[.int .i64 x, .int .i64 y] 76)
  have hlt := blk_lt hg
  have N := blk_new w (.cells #[.int .i64 x, .int .i64 y] 76)
  unfold pairV
  go_enter Tryd.func58, Tryd.ntmps58
  go_upto_region 1 with (fail)
  have hbW : ∀ (B : Nat) (w0 : World), Below B w0 w → B ≤ g → Below B w0 (w.alloc (.cells #[.int .i64 x, .int .i64 y] 76)) := fun B w0 hb hB => hb.alloc (by have := hb.size; omega) _
  have hkW : KeepBut w (w.alloc (.cells #[.int .i64 x, .int .i64 y] 76)) g none := keep_alloc (KeepBut.refl w g none) _
  generalize (w.alloc (.cells #[.int .i64 x, .int .i64 y] 76)) = W at *
  have d0 : W.cell? ⟨w.heap.size, 0, none⟩ = some (.int .i64 x) := cell_of_heap (j := 0) N rfl
  have c1 : W.cell? ⟨g, 1, none⟩ = some (.int .i64 a) := cell_of_heap (j := 1) G rfl
  have f1 := frozen_of_heap (j := 1) G
  go_wp2
  go_end0
  exact ⟨rfl, blk_set G 1 (.int .i64 x), fun B w0 hb hB => (hbW B w0 hb hB).setCell (p := ⟨g, 1, none⟩) hB _, hkW.set_ 1 _⟩
theorem clo60 (g : Nat) (k a n v x y : Int) (w : World) (hg : w.heap[g]? = some (.cells (evC k a n v) 32 (0, 0))) :
    Calls Tryd.prog 60 #[.pointer (some ⟨g, 0, none⟩), pairV x y] w fun e w' => e = .returned (.tuple #[]) ∧ w'.heap[g]? = some (.cells (evC k x n v) 32 (0, 0)) ∧ (∀ (B : Nat) (w0 : World), Below B w0 w → B ≤ g → Below B w0 w') ∧ KeepBut w w' g none := by
  have G := blk_alloc hg (.cells #[.int .i64 x, .int .i64 y] 76)
  have hlt := blk_lt hg
  have N := blk_new w (.cells #[.int .i64 x, .int .i64 y] 76)
  unfold pairV
  go_enter Tryd.func60, Tryd.ntmps60
  go_upto_region 1 with (fail)
  have hbW : ∀ (B : Nat) (w0 : World), Below B w0 w → B ≤ g → Below B w0 (w.alloc (.cells #[.int .i64 x, .int .i64 y] 76)) := fun B w0 hb hB => hb.alloc (by have := hb.size; omega) _
  have hkW : KeepBut w (w.alloc (.cells #[.int .i64 x, .int .i64 y] 76)) g none := keep_alloc (KeepBut.refl w g none) _
  generalize (w.alloc (.cells #[.int .i64 x, .int .i64 y] 76)) = W at *
  have d0 : W.cell? ⟨w.heap.size, 0, none⟩ = some (.int .i64 x) := cell_of_heap (j := 0) N rfl
  have c1 : W.cell? ⟨g, 1, none⟩ = some (.int .i64 a) := cell_of_heap (j := 1) G rfl
  have f1 := frozen_of_heap (j := 1) G
  go_wp2
  go_end0
  exact ⟨rfl, blk_set G 1 (.int .i64 x), fun B w0 hb hB => (hbW B w0 hb hB).setCell (p := ⟨g, 1, none⟩) hB _, hkW.set_ 1 _⟩
theorem clo61 (g : Nat) (k a n v x y : Int) (w : World) (hg : w.heap[g]? = some (.cells (evC k a n v) 32 (0, 0))) :
    Calls Tryd.prog 61 #[.pointer (some ⟨g, 0, none⟩), pairV x y] w fun e w' => e = .returned (.tuple #[]) ∧ w'.heap[g]? = some (.cells (evC k x n v) 32 (0, 0)) ∧ (∀ (B : Nat) (w0 : World), Below B w0 w → B ≤ g → Below B w0 w') ∧ KeepBut w w' g none := by
  have G := blk_alloc hg (.cells #[.int .i64 x, .int .i64 y] 76)
  have hlt := blk_lt hg
  have N := blk_new w (.cells #[.int .i64 x, .int .i64 y] 76)
  unfold pairV
  go_enter Tryd.func61, Tryd.ntmps61
  go_upto_region 1 with (fail)
  have hbW : ∀ (B : Nat) (w0 : World), Below B w0 w → B ≤ g → Below B w0 (w.alloc (.cells #[.int .i64 x, .int .i64 y] 76)) := fun B w0 hb hB => hb.alloc (by have := hb.size; omega) _
  have hkW : KeepBut w (w.alloc (.cells #[.int .i64 x, .int .i64 y] 76)) g none := keep_alloc (KeepBut.refl w g none) _
  generalize (w.alloc (.cells #[.int .i64 x, .int .i64 y] 76)) = W at *
  have d0 : W.cell? ⟨w.heap.size, 0, none⟩ = some (.int .i64 x) := cell_of_heap (j := 0) N rfl
  have c1 : W.cell? ⟨g, 1, none⟩ = some (.int .i64 a) := cell_of_heap (j := 1) G rfl
  have f1 := frozen_of_heap (j := 1) G
  go_wp2
  go_end0
  exact ⟨rfl, blk_set G 1 (.int .i64 x), fun B w0 hb hB => (hbW B w0 hb hB).setCell (p := ⟨g, 1, none⟩) hB _, hkW.set_ 1 _⟩
theorem clo57 (g : Nat) (k a n v x y : Int) (w : World) (hg : w.heap[g]? = some (.cells (evC k a n v) 32 (0, 0))) :
    Calls Tryd.prog 57 #[.pointer (some ⟨g, 0, none⟩), pairV x y] w fun e w' => e = .returned (.tuple #[]) ∧ w'.heap[g]? = some (.cells (evC k x n y) 32 (0, 0)) ∧ (∀ (B : Nat) (w0 : World), Below B w0 w → B ≤ g → Below B w0 w') ∧ KeepBut w w' g none := by
  have G := blk_alloc hg (.cells #[.int .i64 x, .int .i64 y] 76)
  have N := blk_new w (.cells #[.int .i64 x, .int .i64 y] 76)
  have hlt := blk_lt hg
  unfold pairV
  go_enter Tryd.func57, Tryd.ntmps57
  go_wp2
  have hbW : ∀ (B : Nat) (w0 : World), Below B w0 w → B ≤ g → Below B w0 (w.alloc (.cells #[.int .i64 x, .int .i64 y] 76)) := fun B w0 hb hB => hb.alloc (by have := hb.size; omega) _
  have hkW : KeepBut w (w.alloc (.cells #[.int .i64 x, .int .i64 y] 76)) g none := keep_alloc (KeepBut.refl w g none) _
  generalize (w.alloc (.cells #[.int .i64 x, .int .i64 y] 76)) = W at *
  have d0 : W.drew.cell? ⟨w.heap.size, 0, none⟩ = some (.int .i64 x) := cell_of_heap (j := 0) (blk_drew N) rfl
  have d1 : W.drew.cell? ⟨w.heap.size, 1, none⟩ = some (.int .i64 y) := cell_of_heap (j := 1) (blk_drew N) rfl
  have c1 : W.drew.cell? ⟨g, 1, none⟩ = some (.int .i64 a) := cell_of_heap (j := 1) (blk_drew G) rfl
  have f1 := frozen_of_heap (j := 1) (blk_drew G)
  have G2 := blk_drew (blk_set G 1 (.int .i64 x))
  have c3 : (W.setCell ⟨g, 1, none⟩ (.int .i64 x)).drew.cell? ⟨g, 3, none⟩ = some (.int .i64 v) := cell_of_heap (j := 3) G2 rfl
  have f3 := frozen_of_heap (j := 3) G2
  have c1b : W.drew.cell? ⟨g, 3, none⟩ = some (.int .i64 v) := cell_of_heap (j := 3) (blk_drew G) rfl
  have f1b := frozen_of_heap (j := 3) (blk_drew G)
  have N2 := blk_drew (blk_far N (p := ⟨g, 1, none⟩) (Nat.ne_of_gt hlt) (.int .i64 x))
  have e0 : (W.setCell ⟨g, 1, none⟩ (.int .i64 x)).drew.cell? ⟨w.heap.size, 0, none⟩ = some (.int .i64 x) := cell_of_heap (j := 0) N2 rfl
  have e1 : (W.setCell ⟨g, 1, none⟩ (.int .i64 x)).drew.cell? ⟨w.heap.size, 1, none⟩ = some (.int .i64 y) := cell_of_heap (j := 1) N2 rfl
  go_region
  all_goals
    go_wp2
    go_end0
    exact ⟨rfl, blk_drew (blk_set (blk_set G 1 (.int .i64 x)) 3 (.int .i64 y)), fun B w0 hb hB => below_drew (((hbW B w0 hb hB).setCell (p := ⟨g, 1, none⟩) hB _).setCell (p := ⟨g, 3, none⟩) hB _), (hkW.set_ 1 _).set_ 3 _⟩
theorem clo62 (g : Nat) (k a n v x y : Int) (w : World) (hg : w.heap[g]? = some (.cells (evC k a n v) 32 (0, 0))) :
    Calls Tryd.prog 62 #[.pointer (some ⟨g, 0, none⟩), pairV x y] w fun e w' => e = .returned (.tuple #[]) ∧ w'.heap[g]? = some (.cells (evC k x y v) 32 (0, 0)) ∧ (∀ (B : Nat) (w0 : World), Below B w0 w → B ≤ g → Below B w0 w') ∧ KeepBut w w' g none := by
  have G := blk_alloc hg (.cells #[.int .i64 x, .int .i64 y] 76)
  have N := blk_new w (.cells #[.int .i64 x, .int .i64 y] 76)
  have hlt := blk_lt hg
  unfold pairV
  go_enter Tryd.func62, Tryd.ntmps62
  go_wp2
  have hbW : ∀ (B : Nat) (w0 : World), Below B w0 w → B ≤ g → Below B w0 (w.alloc (.cells #[.int .i64 x, .int .i64 y] 76)) := fun B w0 hb hB => hb.alloc (by have := hb.size; omega) _
  have hkW : KeepBut w (w.alloc (.cells #[.int .i64 x, .int .i64 y] 76)) g none := keep_alloc (KeepBut.refl w g none) _
  generalize (w.alloc (.cells #[.int .i64 x, .int .i64 y] 76)) = W at *
  have d0 : W.drew.cell? ⟨w.heap.size, 0, none⟩ = some (.int .i64 x) := cell_of_heap (j := 0) (blk_drew N) rfl
  have d1 : W.drew.cell? ⟨w.heap.size, 1, none⟩ = some (.int .i64 y) := cell_of_heap (j := 1) (blk_drew N) rfl
  have c1 : W.drew.cell? ⟨g, 1, none⟩ = some (.int .i64 a) := cell_of_heap (j := 1) (blk_drew G) rfl
  have f1 := frozen_of_heap (j := 1) (blk_drew G)
  have G2 := blk_drew (blk_set G 1 (.int .i64 x))
  have c3 : (W.setCell ⟨g, 1, none⟩ (.int .i64 x)).drew.cell? ⟨g, 2, none⟩ = some (.int .i64 n) := cell_of_heap (j := 2) G2 rfl
  have f3 := frozen_of_heap (j := 2) G2
  have c1b : W.drew.cell? ⟨g, 2, none⟩ = some (.int .i64 n) := cell_of_heap (j := 2) (blk_drew G) rfl
  have f1b := frozen_of_heap (j := 2) (blk_drew G)
  have N2 := blk_drew (blk_far N (p := ⟨g, 1, none⟩) (Nat.ne_of_gt hlt) (.int .i64 x))
  have e0 : (W.setCell ⟨g, 1, none⟩ (.int .i64 x)).drew.cell? ⟨w.heap.size, 0, none⟩ = some (.int .i64 x) := cell_of_heap (j := 0) N2 rfl
  have e1 : (W.setCell ⟨g, 1, none⟩ (.int .i64 x)).drew.cell? ⟨w.heap.size, 1, none⟩ = some (.int .i64 y) := cell_of_heap (j := 1) N2 rfl
  go_region
  all_goals
    go_wp2
    go_end0
    exact ⟨rfl, blk_drew (blk_set (blk_set G 1 (.int .i64 x)) 2 (.int .i64 y)), fun B w0 hb hB => below_drew (((hbW B w0 hb hB).setCell (p := ⟨g, 1, none⟩) hB _).setCell (p := ⟨g, 2, none⟩) hB _), (hkW.set_ 1 _).set_ 2 _⟩
end Go.Proofs.YthnknchacjmmeaaDoor
