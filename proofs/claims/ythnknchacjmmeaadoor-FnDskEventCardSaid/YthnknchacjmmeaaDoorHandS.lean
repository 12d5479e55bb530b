/- impl.DskEvent, walked at each name. -/
import Derived.Test.YthnknchacjmmeaaDoorHandQ
namespace Go.Proofs.YthnknchacjmmeaaDoor
open Go.RowKit Go.Proofs.YthnknchacjmmeaaDoorW.PrintWords Go.Proofs.YthnknchacjmmeaaDoorW.PrintLast Go.Proofs.YthnknchacjmmeaaDoorW.PrintMore
set_option linter.unusedVariables false
set_option linter.unusedSimpArgs false
set_option maxHeartbeats 2000000 in
set_option maxRecDepth 100000 in
theorem dskEvent_37 (s : ByteArray) (m : Int) (h : ByteArray) (t : List ByteArray) (w : World) (hs : s.size ≤ 80) (hm : w.cell? ⟨1, 0, none⟩ = some (.int .i64 m)) (hw : words s = h :: t) (hh : h = wFall) (k a n v : Int) (bs : List Int) (ok : Bool) (hx : rdFall t = (k, a, n, v, bs, ok)) :
    Calls Tryd.prog 12 #[.string s] w fun e w' => EvPost (if ok then (k, a, n, v, bs, ok) else none6) w e w' := by
  have hd1 : decide (80 < s.size) = false := decide_eq_false (by omega)
  have hd2 : decide (80 < (s.size : Int)) = false := decide_eq_false (by omega)
  have hb0 : Below w.heap.size w (w.alloc (.cells (evC 0 0 0 0) 32)) := (Below.refl _ _).alloc (Nat.le_refl _) _
  go_enter Tryd.func12, Tryd.ntmps12
  go_upto_region 3 with (fail)
  have G := blk_new w (.cells (evC 0 0 0 0) 32)
  have hmW : (w.alloc (.cells (evC 0 0 0 0) 32)).cell? ⟨1, 0, none⟩ = some (.int .i64 m) := pw_cell_below hb0 hm
  have hle : w.heap.size ≤ (w.alloc (.cells (evC 0 0 0 0) 32)).heap.size := hb0.size
  change Code.wp _ _ _ _ (w.alloc (.cells (evC 0 0 0 0) 32))
  generalize w.alloc (.cells (evC 0 0 0 0) 32) = W at *
  have i0 := ins0 W
  have i1 := ins1 W
  have i2 := ins2 W
  have i3 := ins3 W
  have i4 := ins4 W
  have i5 := ins5 W
  have i6 := ins6 W
  have i7 := ins7 W
  have hm8 : (W.alloc (.map es8 8)).cell? ⟨1, 0, none⟩ = some (.int .i64 m) := pw_cell_below ((Below.refl _ _).alloc (Nat.le_refl _) _) hmW
  have hb8 : Below w.heap.size w (W.alloc (.map es8 8)) := hb0.alloc hle _
  have im := run_makeMap_plain (P := Tryd.prog) W 52
  have Gm : (W.alloc (.map es8 8)).heap[W.heap.size]? = some (.map es8 8) := blk_new W _
  have G8 := blk_alloc G (.map es8 8)
  subst hh
  go_upto_region 8 with (go_at_call 40; refine (split_words_any s m _ _ _ hs hm8 hw).mono ?_; rintro e w1 ⟨g, rfl, hc0, hCt, hb1⟩; have Gm1 := blk_below Gm hb1; have G1 := blk_below G8 hb1; have il := run_look w1 W.heap.size 8 es8 wFall Gm1 (some (5, .func (.func 37) #[] #[])) (by kernel_rfl) rfl; dsimp only [Option.map_some, Option.getD_some, Option.isSome_some] at il)
  have hb1' := hb8.trans (hb1.mono hb8.size)
  have htl : t.length ≤ 1000 := by
    have := words_le s
    rw [hw] at this
    simp at this
    omega
  have hcall := dskFall_any (if t = [] then some ⟨g, 0, none⟩ else some ⟨g, 0 + 1, none⟩) t.length t w1 hCt (Nat.le_refl _) htl
  rw [hx] at hcall
  clear i0 i1 i2 i3 i4 i5 i6 i7 il im
  go_upto_region 9 with (go_at_call 37; refine hcall.mono ?_; rintro e w2 ⟨V, rfl, hV, hb2⟩; obtain ⟨A2, k2, rfl⟩ := Kd.R_slice hV; dsimp only at hV ⊢)
  generalize (if t = [] then some (⟨g, 0, none⟩ : Addr) else some ⟨g, 1, none⟩) = A9
  have G2 := blk_alloc (blk_below G1 hb2) (.cells #[.int .i64 k, .int .i64 a, .int .i64 n, .int .i64 v, .slice A2 bs.length k2] 32)
  have N := blk_new w2 (.cells #[.int .i64 k, .int .i64 a, .int .i64 n, .int .i64 v, .slice A2 bs.length k2] 32)
  have hV2 := Kd.R_alloc hV (.cells #[.int .i64 k, .int .i64 a, .int .i64 n, .int .i64 v, .slice A2 bs.length k2] 32)
  have hw2 := hb1'.trans (hb2.mono hb1'.size)
  have hW2 : Below w.heap.size w (w2.alloc (.cells #[.int .i64 k, .int .i64 a, .int .i64 n, .int .i64 v, .slice A2 bs.length k2] 32)) := hw2.alloc hw2.size _
  generalize w2.alloc (.cells #[.int .i64 k, .int .i64 a, .int .i64 n, .int .i64 v, .slice A2 bs.length k2] 32) = Z at *
  obtain ⟨e0, e1, e2, e3, e4, f0, f1, f2, f3, f4⟩ := ev_cells G2
  have hV3 := Kd.R_lower hV2 hb1'.size
  cases ok with
  | false =>
    go_wp2_with fail
    refine bodyPost_ret (results_ct rfl _ _ w.heap.size 32 (evC 0 0 0 0) (0, 0) _ rfl (by exact putEv_heap G2) Tryd.underlying32 rfl (by kernel_rfl)) rfl ?_
    exact ⟨_, rfl, Kd.R_nil _ _ _ _ _, putEv_below hW2 (Nat.le_refl _)⟩
  | true =>
    have c0 : Z.cell? ⟨w2.heap.size, 0, none⟩ = some (.int .i64 k) := cell_of_heap N rfl
    have c1 : Z.cell? ⟨w2.heap.size, 1, none⟩ = some (.int .i64 a) := cell_of_heap N rfl
    have c2 : Z.cell? ⟨w2.heap.size, 2, none⟩ = some (.int .i64 n) := cell_of_heap N rfl
    have c3 : Z.cell? ⟨w2.heap.size, 3, none⟩ = some (.int .i64 v) := cell_of_heap N rfl
    have c4 : Z.cell? ⟨w2.heap.size, 4, none⟩ = some (.slice A2 bs.length k2) := cell_of_heap N rfl
    go_wp2_with fail
    refine bodyPost_ret (results_ct rfl _ _ w.heap.size 32 #[.int .i64 k, .int .i64 a, .int .i64 n, .int .i64 v, .slice A2 bs.length k2] (0, 0) _ rfl (by exact putEv_heap G2) Tryd.underlying32 rfl (by kernel_rfl)) rfl ?_
    exact ⟨_, rfl, putEv_row G2 hV3, putEv_below hW2 (Nat.le_refl _)⟩
set_option maxHeartbeats 2000000 in
set_option maxRecDepth 100000 in
theorem dskEvent_38 (s : ByteArray) (m : Int) (h : ByteArray) (t : List ByteArray) (w : World) (hs : s.size ≤ 80) (hm : w.cell? ⟨1, 0, none⟩ = some (.int .i64 m)) (hw : words s = h :: t) (hh : h = wRise) (k a n v : Int) (bs : List Int) (ok : Bool) (hx : rdRise t = (k, a, n, v, bs, ok)) :
    Calls Tryd.prog 12 #[.string s] w fun e w' => EvPost (if ok then (k, a, n, v, bs, ok) else none6) w e w' := by
  have hd1 : decide (80 < s.size) = false := decide_eq_false (by omega)
  have hd2 : decide (80 < (s.size : Int)) = false := decide_eq_false (by omega)
  have hb0 : Below w.heap.size w (w.alloc (.cells (evC 0 0 0 0) 32)) := (Below.refl _ _).alloc (Nat.le_refl _) _
  go_enter Tryd.func12, Tryd.ntmps12
  go_upto_region 3 with (fail)
  have G := blk_new w (.cells (evC 0 0 0 0) 32)
  have hmW : (w.alloc (.cells (evC 0 0 0 0) 32)).cell? ⟨1, 0, none⟩ = some (.int .i64 m) := pw_cell_below hb0 hm
  have hle : w.heap.size ≤ (w.alloc (.cells (evC 0 0 0 0) 32)).heap.size := hb0.size
  change Code.wp _ _ _ _ (w.alloc (.cells (evC 0 0 0 0) 32))
  generalize w.alloc (.cells (evC 0 0 0 0) 32) = W at *
  have i0 := ins0 W
  have i1 := ins1 W
  have i2 := ins2 W
  have i3 := ins3 W
  have i4 := ins4 W
  have i5 := ins5 W
  have i6 := ins6 W
  have i7 := ins7 W
  have hm8 : (W.alloc (.map es8 8)).cell? ⟨1, 0, none⟩ = some (.int .i64 m) := pw_cell_below ((Below.refl _ _).alloc (Nat.le_refl _) _) hmW
  have hb8 : Below w.heap.size w (W.alloc (.map es8 8)) := hb0.alloc hle _
  have im := run_makeMap_plain (P := Tryd.prog) W 52
  have Gm : (W.alloc (.map es8 8)).heap[W.heap.size]? = some (.map es8 8) := blk_new W _
  have G8 := blk_alloc G (.map es8 8)
  subst hh
  go_upto_region 8 with (go_at_call 40; refine (split_words_any s m _ _ _ hs hm8 hw).mono ?_; rintro e w1 ⟨g, rfl, hc0, hCt, hb1⟩; have Gm1 := blk_below Gm hb1; have G1 := blk_below G8 hb1; have il := run_look w1 W.heap.size 8 es8 wRise Gm1 (some (6, .func (.func 38) #[] #[])) (by kernel_rfl) rfl; dsimp only [Option.map_some, Option.getD_some, Option.isSome_some] at il)
  have hb1' := hb8.trans (hb1.mono hb8.size)
  have htl : t.length ≤ 1000 := by
    have := words_le s
    rw [hw] at this
    simp at this
    omega
  have hcall := dskRise_any (if t = [] then some ⟨g, 0, none⟩ else some ⟨g, 0 + 1, none⟩) t.length t w1 hCt (Nat.le_refl _) htl
  rw [hx] at hcall
  clear i0 i1 i2 i3 i4 i5 i6 i7 il im
  go_upto_region 9 with (go_at_call 38; refine hcall.mono ?_; rintro e w2 ⟨V, rfl, hV, hb2⟩; obtain ⟨A2, k2, rfl⟩ := Kd.R_slice hV; dsimp only at hV ⊢)
  generalize (if t = [] then some (⟨g, 0, none⟩ : Addr) else some ⟨g, 1, none⟩) = A9
  have G2 := blk_alloc (blk_below G1 hb2) (.cells #[.int .i64 k, .int .i64 a, .int .i64 n, .int .i64 v, .slice A2 bs.length k2] 32)
  have N := blk_new w2 (.cells #[.int .i64 k, .int .i64 a, .int .i64 n, .int .i64 v, .slice A2 bs.length k2] 32)
  have hV2 := Kd.R_alloc hV (.cells #[.int .i64 k, .int .i64 a, .int .i64 n, .int .i64 v, .slice A2 bs.length k2] 32)
  have hw2 := hb1'.trans (hb2.mono hb1'.size)
  have hW2 : Below w.heap.size w (w2.alloc (.cells #[.int .i64 k, .int .i64 a, .int .i64 n, .int .i64 v, .slice A2 bs.length k2] 32)) := hw2.alloc hw2.size _
  generalize w2.alloc (.cells #[.int .i64 k, .int .i64 a, .int .i64 n, .int .i64 v, .slice A2 bs.length k2] 32) = Z at *
  obtain ⟨e0, e1, e2, e3, e4, f0, f1, f2, f3, f4⟩ := ev_cells G2
  have hV3 := Kd.R_lower hV2 hb1'.size
  cases ok with
  | false =>
    go_wp2_with fail
    refine bodyPost_ret (results_ct rfl _ _ w.heap.size 32 (evC 0 0 0 0) (0, 0) _ rfl (by exact putEv_heap G2) Tryd.underlying32 rfl (by kernel_rfl)) rfl ?_
    exact ⟨_, rfl, Kd.R_nil _ _ _ _ _, putEv_below hW2 (Nat.le_refl _)⟩
  | true =>
    have c0 : Z.cell? ⟨w2.heap.size, 0, none⟩ = some (.int .i64 k) := cell_of_heap N rfl
    have c1 : Z.cell? ⟨w2.heap.size, 1, none⟩ = some (.int .i64 a) := cell_of_heap N rfl
    have c2 : Z.cell? ⟨w2.heap.size, 2, none⟩ = some (.int .i64 n) := cell_of_heap N rfl
    have c3 : Z.cell? ⟨w2.heap.size, 3, none⟩ = some (.int .i64 v) := cell_of_heap N rfl
    have c4 : Z.cell? ⟨w2.heap.size, 4, none⟩ = some (.slice A2 bs.length k2) := cell_of_heap N rfl
    go_wp2_with fail
    refine bodyPost_ret (results_ct rfl _ _ w.heap.size 32 #[.int .i64 k, .int .i64 a, .int .i64 n, .int .i64 v, .slice A2 bs.length k2] (0, 0) _ rfl (by exact putEv_heap G2) Tryd.underlying32 rfl (by kernel_rfl)) rfl ?_
    exact ⟨_, rfl, putEv_row G2 hV3, putEv_below hW2 (Nat.le_refl _)⟩
set_option maxHeartbeats 2000000 in
set_option maxRecDepth 100000 in
theorem dskEvent_39 (s : ByteArray) (m : Int) (h : ByteArray) (t : List ByteArray) (w : World) (hs : s.size ≤ 80) (hm : w.cell? ⟨1, 0, none⟩ = some (.int .i64 m)) (hw : words s = h :: t) (hh : h = wInput) (k a n v : Int) (bs : List Int) (ok : Bool) (hx : rdInput t = (k, a, n, v, bs, ok)) :
    Calls Tryd.prog 12 #[.string s] w fun e w' => EvPost (if ok then (k, a, n, v, bs, ok) else none6) w e w' := by
  have hd1 : decide (80 < s.size) = false := decide_eq_false (by omega)
  have hd2 : decide (80 < (s.size : Int)) = false := decide_eq_false (by omega)
  have hb0 : Below w.heap.size w (w.alloc (.cells (evC 0 0 0 0) 32)) := (Below.refl _ _).alloc (Nat.le_refl _) _
  go_enter Tryd.func12, Tryd.ntmps12
  go_upto_region 3 with (fail)
  have G := blk_new w (.cells (evC 0 0 0 0) 32)
  have hmW : (w.alloc (.cells (evC 0 0 0 0) 32)).cell? ⟨1, 0, none⟩ = some (.int .i64 m) := pw_cell_below hb0 hm
  have hle : w.heap.size ≤ (w.alloc (.cells (evC 0 0 0 0) 32)).heap.size := hb0.size
  change Code.wp _ _ _ _ (w.alloc (.cells (evC 0 0 0 0) 32))
  generalize w.alloc (.cells (evC 0 0 0 0) 32) = W at *
  have i0 := ins0 W
  have i1 := ins1 W
  have i2 := ins2 W
  have i3 := ins3 W
  have i4 := ins4 W
  have i5 := ins5 W
  have i6 := ins6 W
  have i7 := ins7 W
  have hm8 : (W.alloc (.map es8 8)).cell? ⟨1, 0, none⟩ = some (.int .i64 m) := pw_cell_below ((Below.refl _ _).alloc (Nat.le_refl _) _) hmW
  have hb8 : Below w.heap.size w (W.alloc (.map es8 8)) := hb0.alloc hle _
  have im := run_makeMap_plain (P := Tryd.prog) W 52
  have Gm : (W.alloc (.map es8 8)).heap[W.heap.size]? = some (.map es8 8) := blk_new W _
  have G8 := blk_alloc G (.map es8 8)
  subst hh
  go_upto_region 8 with (go_at_call 40; refine (split_words_any s m _ _ _ hs hm8 hw).mono ?_; rintro e w1 ⟨g, rfl, hc0, hCt, hb1⟩; have Gm1 := blk_below Gm hb1; have G1 := blk_below G8 hb1; have il := run_look w1 W.heap.size 8 es8 wInput Gm1 (some (7, .func (.func 39) #[] #[])) (by kernel_rfl) rfl; dsimp only [Option.map_some, Option.getD_some, Option.isSome_some] at il)
  have hb1' := hb8.trans (hb1.mono hb8.size)
  have htl : t.length ≤ 1000 := by
    have := words_le s
    rw [hw] at this
    simp at this
    omega
  have hcall := dskInput_any (if t = [] then some ⟨g, 0, none⟩ else some ⟨g, 0 + 1, none⟩) t.length t w1 hCt (Nat.le_refl _) htl
  rw [hx] at hcall
  clear i0 i1 i2 i3 i4 i5 i6 i7 il im
  go_upto_region 9 with (go_at_call 39; refine hcall.mono ?_; rintro e w2 ⟨V, rfl, hV, hb2⟩; obtain ⟨A2, k2, rfl⟩ := Kd.R_slice hV; dsimp only at hV ⊢)
  generalize (if t = [] then some (⟨g, 0, none⟩ : Addr) else some ⟨g, 1, none⟩) = A9
  have G2 := blk_alloc (blk_below G1 hb2) (.cells #[.int .i64 k, .int .i64 a, .int .i64 n, .int .i64 v, .slice A2 bs.length k2] 32)
  have N := blk_new w2 (.cells #[.int .i64 k, .int .i64 a, .int .i64 n, .int .i64 v, .slice A2 bs.length k2] 32)
  have hV2 := Kd.R_alloc hV (.cells #[.int .i64 k, .int .i64 a, .int .i64 n, .int .i64 v, .slice A2 bs.length k2] 32)
  have hw2 := hb1'.trans (hb2.mono hb1'.size)
  have hW2 : Below w.heap.size w (w2.alloc (.cells #[.int .i64 k, .int .i64 a, .int .i64 n, .int .i64 v, .slice A2 bs.length k2] 32)) := hw2.alloc hw2.size _
  generalize w2.alloc (.cells #[.int .i64 k, .int .i64 a, .int .i64 n, .int .i64 v, .slice A2 bs.length k2] 32) = Z at *
  obtain ⟨e0, e1, e2, e3, e4, f0, f1, f2, f3, f4⟩ := ev_cells G2
  have hV3 := Kd.R_lower hV2 hb1'.size
  cases ok with
  | false =>
    go_wp2_with fail
    refine bodyPost_ret (results_ct rfl _ _ w.heap.size 32 (evC 0 0 0 0) (0, 0) _ rfl (by exact putEv_heap G2) Tryd.underlying32 rfl (by kernel_rfl)) rfl ?_
    exact ⟨_, rfl, Kd.R_nil _ _ _ _ _, putEv_below hW2 (Nat.le_refl _)⟩
  | true =>
    have c0 : Z.cell? ⟨w2.heap.size, 0, none⟩ = some (.int .i64 k) := cell_of_heap N rfl
    have c1 : Z.cell? ⟨w2.heap.size, 1, none⟩ = some (.int .i64 a) := cell_of_heap N rfl
    have c2 : Z.cell? ⟨w2.heap.size, 2, none⟩ = some (.int .i64 n) := cell_of_heap N rfl
    have c3 : Z.cell? ⟨w2.heap.size, 3, none⟩ = some (.int .i64 v) := cell_of_heap N rfl
    have c4 : Z.cell? ⟨w2.heap.size, 4, none⟩ = some (.slice A2 bs.length k2) := cell_of_heap N rfl
    go_wp2_with fail
    refine bodyPost_ret (results_ct rfl _ _ w.heap.size 32 #[.int .i64 k, .int .i64 a, .int .i64 n, .int .i64 v, .slice A2 bs.length k2] (0, 0) _ rfl (by exact putEv_heap G2) Tryd.underlying32 rfl (by kernel_rfl)) rfl ?_
    exact ⟨_, rfl, putEv_row G2 hV3, putEv_below hW2 (Nat.le_refl _)⟩
end Go.Proofs.YthnknchacjmmeaaDoor
