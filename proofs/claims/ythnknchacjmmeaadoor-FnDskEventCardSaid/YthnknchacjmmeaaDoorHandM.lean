/- impl's readers of a line's words: dskBent, dskEarlier, dskFall, dskRise, dskInput. -/
import Derived.Test.YthnknchacjmmeaaDoorHandL
namespace Go.Proofs.YthnknchacjmmeaaDoor
open Go.RowKit Go.Proofs.YthnknchacjmmeaaDoorW.PrintWords Go.Proofs.YthnknchacjmmeaaDoorW.PrintLast Go.Proofs.YthnknchacjmmeaaDoorW.PrintMore
set_option linter.unusedVariables false
set_option linter.unusedSimpArgs false
/-- What a reader answers: kind, at, n, v, bytes, and whether it is one. -/
abbrev Six := Int × Int × Int × Int × List Int × Bool
def EvPost (x : Six) (w : World) (e : Ending) (w' : World) : Prop :=
  ∃ V : Value, e = .returned (.tuple #[.agg #[.int .i64 x.1, .int .i64 x.2.1, .int .i64 x.2.2.1, .int .i64 x.2.2.2.1, V], .bool x.2.2.2.2.2]) ∧ Kd.R (Kd.int .u8) 5 w' w.heap.size (fun _ => True) V x.2.2.2.2.1 ∧ Below w.heap.size w w'
def none6 : Six := (0, 0, 0, 0, [], false)
def wn (l : List ByteArray) (j : Nat) : Int := wordNum (l.getD j ByteArray.empty)
theorem isN_one {l : List ByteArray} (h : isN l 1 = true) : ∃ a, l = [a] ∧ 0 ≤ wordNum a := by
  unfold isN numsOk at h
  match l, h with
  | [], h => simp at h
  | [a], h => exact ⟨a, rfl, by simpa using h⟩
  | _ :: _ :: _, h => simp at h
theorem isN_two {l : List ByteArray} (h : isN l 2 = true) : ∃ a b, l = [a, b] ∧ 0 ≤ wordNum a ∧ 0 ≤ wordNum b := by
  unfold isN numsOk at h
  match l, h with
  | [], h => simp at h
  | [_], h => simp at h
  | [a, b], h => simp at h; exact ⟨a, b, rfl, h.1, h.2⟩
  | _ :: _ :: _ :: _, h => simp at h
def rdBent (l : List ByteArray) : Six := if isN l 2 then (1, wn l 0, 2, wn l 1, [], true) else none6
set_option maxHeartbeats 1000000 in
set_option maxRecDepth 100000 in
theorem dskBent_any (A : Option Addr) (c : Nat) (l : List ByteArray) (w : World) (hr : Kd.C Kd.string w A l.length l) (hc : l.length ≤ c) (hl : l.length ≤ 1000) :
    Calls Tryd.prog 34 #[.slice A l.length c] w fun e w' => EvPost (rdBent l) w e w' := by
  have hb0 : Below w.heap.size w (w.alloc (.cells (evC 0 0 0 0) 32)) := (Below.refl _ _).alloc (Nat.le_refl _) _
  have g00 := blk_new w (.cells (evC 0 0 0 0) 32)
  cases hN : isN l 2 with
  | false =>
    have hv : rdBent l = none6 := by unfold rdBent; rw [hN]; rfl
    rw [hv]
    go_enter Tryd.func34, Tryd.ntmps34
    go_wp2_with (go_at_call 56; refine (dskPlain_no _ _ l 2 1 2 0 _ _ (Kd.C_below hr hb0) hc hl hN).mono ?_; rintro e w1 ⟨rfl, hb2⟩; have g0 := blk_below g00 hb2; obtain ⟨e0, e1, e2, e3, e4, f0, f1, f2, f3, f4⟩ := ev_cells g0; unfold evV evC)
    have hW := hb0.trans (hb2.mono hb0.size)
    refine bodyPost_ret (results_ct rfl _ _ w.heap.size 32 (evC 0 0 0 0) (0, 0) _ rfl (by exact putEv_heap g0) Tryd.underlying32 rfl (by kernel_rfl)) rfl ?_
    exact ⟨_, rfl, Kd.R_nil _ _ _ _ _, putEv_below hW (Nat.le_refl _)⟩
  | true =>
    obtain ⟨a, b, rfl, ha, hb⟩ := isN_two hN
    have hv : rdBent [a, b] = (1, (wordNum a), 2, (wordNum b), [], true) := by unfold rdBent; rw [hN]; rfl
    rw [hv]
    go_enter Tryd.func34, Tryd.ntmps34
    go_wp2_with (go_at_call 56; refine (dskPlain_57 _ _ a b 1 2 0 _ (Kd.C_below hr hb0) hc ha hb).mono ?_; rintro e w1 ⟨rfl, hb2⟩; have g0 := blk_below g00 hb2; obtain ⟨e0, e1, e2, e3, e4, f0, f1, f2, f3, f4⟩ := ev_cells g0; unfold evV evC)
    have hW := hb0.trans (hb2.mono hb0.size)
    refine bodyPost_ret (results_ct rfl _ _ w.heap.size 32 (evC 1 (wordNum a) 2 (wordNum b)) (0, 0) _ rfl (by exact putEv_heap g0) Tryd.underlying32 rfl (by kernel_rfl)) rfl ?_
    exact ⟨_, rfl, Kd.R_nil _ _ _ _ _, putEv_below hW (Nat.le_refl _)⟩
def rdEarlier (l : List ByteArray) : Six := if isN l 1 then (1, wn l 0, 3, 0, [], true) else none6
set_option maxHeartbeats 1000000 in
set_option maxRecDepth 100000 in
theorem dskEarlier_any (A : Option Addr) (c : Nat) (l : List ByteArray) (w : World) (hr : Kd.C Kd.string w A l.length l) (hc : l.length ≤ c) (hl : l.length ≤ 1000) :
    Calls Tryd.prog 35 #[.slice A l.length c] w fun e w' => EvPost (rdEarlier l) w e w' := by
  have hb0 : Below w.heap.size w (w.alloc (.cells (evC 0 0 0 0) 32)) := (Below.refl _ _).alloc (Nat.le_refl _) _
  have g00 := blk_new w (.cells (evC 0 0 0 0) 32)
  cases hN : isN l 1 with
  | false =>
    have hv : rdEarlier l = none6 := by unfold rdEarlier; rw [hN]; rfl
    rw [hv]
    go_enter Tryd.func35, Tryd.ntmps35
    go_wp2_with (go_at_call 56; refine (dskPlain_no _ _ l 1 1 3 0 _ _ (Kd.C_below hr hb0) hc hl hN).mono ?_; rintro e w1 ⟨rfl, hb2⟩; have g0 := blk_below g00 hb2; obtain ⟨e0, e1, e2, e3, e4, f0, f1, f2, f3, f4⟩ := ev_cells g0; unfold evV evC)
    have hW := hb0.trans (hb2.mono hb0.size)
    refine bodyPost_ret (results_ct rfl _ _ w.heap.size 32 (evC 0 0 0 0) (0, 0) _ rfl (by exact putEv_heap g0) Tryd.underlying32 rfl (by kernel_rfl)) rfl ?_
    exact ⟨_, rfl, Kd.R_nil _ _ _ _ _, putEv_below hW (Nat.le_refl _)⟩
  | true =>
    obtain ⟨a, rfl, ha⟩ := isN_one hN
    have hv : rdEarlier [a] = (1, (wordNum a), 3, 0, [], true) := by unfold rdEarlier; rw [hN]; rfl
    rw [hv]
    go_enter Tryd.func35, Tryd.ntmps35
    go_wp2_with (go_at_call 56; refine (dskPlain_58 _ _ a 1 3 0 _ (Kd.C_below hr hb0) hc ha).mono ?_; rintro e w1 ⟨rfl, hb2⟩; have g0 := blk_below g00 hb2; obtain ⟨e0, e1, e2, e3, e4, f0, f1, f2, f3, f4⟩ := ev_cells g0; unfold evV evC)
    have hW := hb0.trans (hb2.mono hb0.size)
    refine bodyPost_ret (results_ct rfl _ _ w.heap.size 32 (evC 1 (wordNum a) 3 0) (0, 0) _ rfl (by exact putEv_heap g0) Tryd.underlying32 rfl (by kernel_rfl)) rfl ?_
    exact ⟨_, rfl, Kd.R_nil _ _ _ _ _, putEv_below hW (Nat.le_refl _)⟩
def rdFall (l : List ByteArray) : Six := if isN l 1 then (2, wn l 0, 0, 0, [], true) else none6
set_option maxHeartbeats 1000000 in
set_option maxRecDepth 100000 in
theorem dskFall_any (A : Option Addr) (c : Nat) (l : List ByteArray) (w : World) (hr : Kd.C Kd.string w A l.length l) (hc : l.length ≤ c) (hl : l.length ≤ 1000) :
    Calls Tryd.prog 37 #[.slice A l.length c] w fun e w' => EvPost (rdFall l) w e w' := by
  have hb0 : Below w.heap.size w (w.alloc (.cells (evC 0 0 0 0) 32)) := (Below.refl _ _).alloc (Nat.le_refl _) _
  have g00 := blk_new w (.cells (evC 0 0 0 0) 32)
  cases hN : isN l 1 with
  | false =>
    have hv : rdFall l = none6 := by unfold rdFall; rw [hN]; rfl
    rw [hv]
    go_enter Tryd.func37, Tryd.ntmps37
    go_wp2_with (go_at_call 56; refine (dskPlain_no _ _ l 1 2 0 0 _ _ (Kd.C_below hr hb0) hc hl hN).mono ?_; rintro e w1 ⟨rfl, hb2⟩; have g0 := blk_below g00 hb2; obtain ⟨e0, e1, e2, e3, e4, f0, f1, f2, f3, f4⟩ := ev_cells g0; unfold evV evC)
    have hW := hb0.trans (hb2.mono hb0.size)
    refine bodyPost_ret (results_ct rfl _ _ w.heap.size 32 (evC 0 0 0 0) (0, 0) _ rfl (by exact putEv_heap g0) Tryd.underlying32 rfl (by kernel_rfl)) rfl ?_
    exact ⟨_, rfl, Kd.R_nil _ _ _ _ _, putEv_below hW (Nat.le_refl _)⟩
  | true =>
    obtain ⟨a, rfl, ha⟩ := isN_one hN
    have hv : rdFall [a] = (2, (wordNum a), 0, 0, [], true) := by unfold rdFall; rw [hN]; rfl
    rw [hv]
    go_enter Tryd.func37, Tryd.ntmps37
    go_wp2_with (go_at_call 56; refine (dskPlain_60 _ _ a 2 0 0 _ (Kd.C_below hr hb0) hc ha).mono ?_; rintro e w1 ⟨rfl, hb2⟩; have g0 := blk_below g00 hb2; obtain ⟨e0, e1, e2, e3, e4, f0, f1, f2, f3, f4⟩ := ev_cells g0; unfold evV evC)
    have hW := hb0.trans (hb2.mono hb0.size)
    refine bodyPost_ret (results_ct rfl _ _ w.heap.size 32 (evC 2 (wordNum a) 0 0) (0, 0) _ rfl (by exact putEv_heap g0) Tryd.underlying32 rfl (by kernel_rfl)) rfl ?_
    exact ⟨_, rfl, Kd.R_nil _ _ _ _ _, putEv_below hW (Nat.le_refl _)⟩
def rdRise (l : List ByteArray) : Six := if isN l 1 then (3, wn l 0, 0, 0, [], true) else none6
set_option maxHeartbeats 1000000 in
set_option maxRecDepth 100000 in
theorem dskRise_any (A : Option Addr) (c : Nat) (l : List ByteArray) (w : World) (hr : Kd.C Kd.string w A l.length l) (hc : l.length ≤ c) (hl : l.length ≤ 1000) :
    Calls Tryd.prog 38 #[.slice A l.length c] w fun e w' => EvPost (rdRise l) w e w' := by
  have hb0 : Below w.heap.size w (w.alloc (.cells (evC 0 0 0 0) 32)) := (Below.refl _ _).alloc (Nat.le_refl _) _
  have g00 := blk_new w (.cells (evC 0 0 0 0) 32)
  cases hN : isN l 1 with
  | false =>
    have hv : rdRise l = none6 := by unfold rdRise; rw [hN]; rfl
    rw [hv]
    go_enter Tryd.func38, Tryd.ntmps38
    go_wp2_with (go_at_call 56; refine (dskPlain_no _ _ l 1 3 0 0 _ _ (Kd.C_below hr hb0) hc hl hN).mono ?_; rintro e w1 ⟨rfl, hb2⟩; have g0 := blk_below g00 hb2; obtain ⟨e0, e1, e2, e3, e4, f0, f1, f2, f3, f4⟩ := ev_cells g0; unfold evV evC)
    have hW := hb0.trans (hb2.mono hb0.size)
    refine bodyPost_ret (results_ct rfl _ _ w.heap.size 32 (evC 0 0 0 0) (0, 0) _ rfl (by exact putEv_heap g0) Tryd.underlying32 rfl (by kernel_rfl)) rfl ?_
    exact ⟨_, rfl, Kd.R_nil _ _ _ _ _, putEv_below hW (Nat.le_refl _)⟩
  | true =>
    obtain ⟨a, rfl, ha⟩ := isN_one hN
    have hv : rdRise [a] = (3, (wordNum a), 0, 0, [], true) := by unfold rdRise; rw [hN]; rfl
    rw [hv]
    go_enter Tryd.func38, Tryd.ntmps38
    go_wp2_with (go_at_call 56; refine (dskPlain_61 _ _ a 3 0 0 _ (Kd.C_below hr hb0) hc ha).mono ?_; rintro e w1 ⟨rfl, hb2⟩; have g0 := blk_below g00 hb2; obtain ⟨e0, e1, e2, e3, e4, f0, f1, f2, f3, f4⟩ := ev_cells g0; unfold evV evC)
    have hW := hb0.trans (hb2.mono hb0.size)
    refine bodyPost_ret (results_ct rfl _ _ w.heap.size 32 (evC 3 (wordNum a) 0 0) (0, 0) _ rfl (by exact putEv_heap g0) Tryd.underlying32 rfl (by kernel_rfl)) rfl ?_
    exact ⟨_, rfl, Kd.R_nil _ _ _ _ _, putEv_below hW (Nat.le_refl _)⟩
def rdInput (l : List ByteArray) : Six := if isN l 2 then (4, wn l 0, wn l 1, 0, [], true) else none6
set_option maxHeartbeats 1000000 in
set_option maxRecDepth 100000 in
theorem dskInput_any (A : Option Addr) (c : Nat) (l : List ByteArray) (w : World) (hr : Kd.C Kd.string w A l.length l) (hc : l.length ≤ c) (hl : l.length ≤ 1000) :
    Calls Tryd.prog 39 #[.slice A l.length c] w fun e w' => EvPost (rdInput l) w e w' := by
  have hb0 : Below w.heap.size w (w.alloc (.cells (evC 0 0 0 0) 32)) := (Below.refl _ _).alloc (Nat.le_refl _) _
  have g00 := blk_new w (.cells (evC 0 0 0 0) 32)
  cases hN : isN l 2 with
  | false =>
    have hv : rdInput l = none6 := by unfold rdInput; rw [hN]; rfl
    rw [hv]
    go_enter Tryd.func39, Tryd.ntmps39
    go_wp2_with (go_at_call 56; refine (dskPlain_no _ _ l 2 4 0 0 _ _ (Kd.C_below hr hb0) hc hl hN).mono ?_; rintro e w1 ⟨rfl, hb2⟩; have g0 := blk_below g00 hb2; obtain ⟨e0, e1, e2, e3, e4, f0, f1, f2, f3, f4⟩ := ev_cells g0; unfold evV evC)
    have hW := hb0.trans (hb2.mono hb0.size)
    refine bodyPost_ret (results_ct rfl _ _ w.heap.size 32 (evC 0 0 0 0) (0, 0) _ rfl (by exact putEv_heap g0) Tryd.underlying32 rfl (by kernel_rfl)) rfl ?_
    exact ⟨_, rfl, Kd.R_nil _ _ _ _ _, putEv_below hW (Nat.le_refl _)⟩
  | true =>
    obtain ⟨a, b, rfl, ha, hb⟩ := isN_two hN
    have hv : rdInput [a, b] = (4, (wordNum a), (wordNum b), 0, [], true) := by unfold rdInput; rw [hN]; rfl
    rw [hv]
    go_enter Tryd.func39, Tryd.ntmps39
    go_wp2_with (go_at_call 56; refine (dskPlain_62 _ _ a b 4 0 0 _ (Kd.C_below hr hb0) hc ha hb).mono ?_; rintro e w1 ⟨rfl, hb2⟩; have g0 := blk_below g00 hb2; obtain ⟨e0, e1, e2, e3, e4, f0, f1, f2, f3, f4⟩ := ev_cells g0; unfold evV evC)
    have hW := hb0.trans (hb2.mono hb0.size)
    refine bodyPost_ret (results_ct rfl _ _ w.heap.size 32 (evC 4 (wordNum a) (wordNum b) 0) (0, 0) _ rfl (by exact putEv_heap g0) Tryd.underlying32 rfl (by kernel_rfl)) rfl ?_
    exact ⟨_, rfl, Kd.R_nil _ _ _ _ _, putEv_below hW (Nat.le_refl _)⟩
end Go.Proofs.YthnknchacjmmeaaDoor
