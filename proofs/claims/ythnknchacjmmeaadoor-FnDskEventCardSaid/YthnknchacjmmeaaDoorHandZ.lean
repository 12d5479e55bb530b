/- impl.DskEvent's contract. -/
import Derived.Test.YthnknchacjmmeaaDoorHandY
import Derived.Test.YthnknchacjmmeaaDoorHandR
import Derived.Test.YthnknchacjmmeaaDoorHandS
import Derived.Test.YthnknchacjmmeaaDoorHandU
namespace Go.Proofs.YthnknchacjmmeaaDoor
open Go.RowKit Go.Proofs.YthnknchacjmmeaaDoorW.PrintWords Go.Proofs.YthnknchacjmmeaaDoorW.PrintLast Go.Proofs.YthnknchacjmmeaaDoorW.PrintMore
set_option linter.unusedVariables false
set_option linter.unusedSimpArgs false
set_option maxHeartbeats 2000000 in
set_option maxRecDepth 100000 in
theorem dskEvent_no (s : ByteArray) (m : Int) (h : ByteArray) (t : List ByteArray) (w : World) (hs : s.size ≤ 80) (hm : w.cell? ⟨1, 0, none⟩ = some (.int .i64 m)) (hw : words s = h :: t) (hh : Instr.findNow .string (.string h) es8.toList 0 = some none) :
    Calls Tryd.prog 12 #[.string s] w fun e w' => EvPost none6 w e w' := by
  have hd1 : decide (80 < s.size) = false := decide_eq_false (by omega)
  have hd2 : decide (80 < (s.size : Int)) = false := decide_eq_false (by omega)
  have hb0 : Below w.heap.size w (w.alloc (.cells (evC 0 0 0 0) 32)) := (Below.refl _ _).alloc (Nat.le_refl _) _
  go_enter Tryd.func12, Tryd.ntmps12
  go_upto_region 3 with (fail)
  have G := blk_new w (.cells (evC 0 0 0 0) 32)
  have hmW : (w.alloc (.cells (evC 0 0 0 0) 32)).cell? ⟨1, 0, none⟩ = some (.int .i64 m) := pw_cell_below hb0 hm
  have hle : w.heap.size ≤ (w.alloc (.cells (evC 0 0 0 0) 32)).heap.size := hb0.size
  change Code.wp _ _ _ _ (w.alloc (.cells (evC 0 0 0 0) 32))
  generalize w.alloc (.cells (evC 0 0 0 0) 32) = W at *
  have i0 := ins0 W
  have i1 := ins1 W
  have i2 := ins2 W
  have i3 := ins3 W
  have i4 := ins4 W
  have i5 := ins5 W
  have i6 := ins6 W
  have i7 := ins7 W
  have hm8 : (W.alloc (.map es8 8)).cell? ⟨1, 0, none⟩ = some (.int .i64 m) := pw_cell_below ((Below.refl _ _).alloc (Nat.le_refl _) _) hmW
  have hb8 : Below w.heap.size w (W.alloc (.map es8 8)) := hb0.alloc hle _
  have im := run_makeMap_plain (P := Tryd.prog) W 52
  have Gm : (W.alloc (.map es8 8)).heap[W.heap.size]? = some (.map es8 8) := blk_new W _
  have G8 := blk_alloc G (.map es8 8)
  go_upto_region 7 with (go_at_call 40; refine (split_words_any s m _ _ _ hs hm8 hw).mono ?_; rintro e w1 ⟨g, rfl, hc0, hCt, hb1⟩; have Gm1 := blk_below Gm hb1; have G1 := blk_below G8 hb1; have il := run_look w1 W.heap.size 8 es8 h Gm1 none hh rfl; dsimp only [Option.map_none, Option.getD_none, Option.isSome_none] at il)
  have hb1' := hb8.trans (hb1.mono hb8.size)
  clear i0 i1 i2 i3 i4 i5 i6 i7 il im
  obtain ⟨e0, e1, e2, e3, e4, f0, f1, f2, f3, f4⟩ := ev_cells G1
  go_wp2_with fail
  refine bodyPost_ret (results_ct rfl _ _ w.heap.size 32 (evC 0 0 0 0) (0, 0) _ rfl (by exact putEv_heap G1) Tryd.underlying32 rfl (by kernel_rfl)) rfl ?_
  exact ⟨_, rfl, Kd.R_nil _ _ _ _ _, putEv_below hb1' (Nat.le_refl _)⟩
set_option maxHeartbeats 2000000 in
set_option maxRecDepth 100000 in
theorem dskEvent_long (s : ByteArray) (w : World) (hs : 80 < s.size) :
    Calls Tryd.prog 12 #[.string s] w fun e w' => EvPost none6 w e w' := by
  have hd1 : decide (80 < s.size) = true := decide_eq_true hs
  have hd2 : decide (80 < (s.size : Int)) = true := decide_eq_true (by omega)
  have hb0 : Below w.heap.size w (w.alloc (.cells (evC 0 0 0 0) 32)) := (Below.refl _ _).alloc (Nat.le_refl _) _
  go_enter Tryd.func12, Tryd.ntmps12
  go_upto_region 2 with (fail)
  have G := blk_new w (.cells (evC 0 0 0 0) 32)
  change Code.wp _ _ _ _ (w.alloc (.cells (evC 0 0 0 0) 32))
  generalize w.alloc (.cells (evC 0 0 0 0) 32) = W at *
  obtain ⟨e0, e1, e2, e3, e4, f0, f1, f2, f3, f4⟩ := ev_cells G
  go_wp2_with fail
  refine bodyPost_ret (results_ct rfl _ _ w.heap.size 32 (evC 0 0 0 0) (0, 0) _ rfl (by exact putEv_heap G) Tryd.underlying32 rfl (by kernel_rfl)) rfl ?_
  exact ⟨_, rfl, Kd.R_nil _ _ _ _ _, putEv_below hb0 (Nat.le_refl _)⟩
theorem dskEvent_any (s : ByteArray) (m : Int) (w : World) (hm : w.cell? ⟨1, 0, none⟩ = some (.int .i64 m)) :
    Calls Tryd.prog 12 #[.string s] w fun e w' => EvPost (evSays s) w e w' := by
  unfold evSays
  by_cases h80 : 80 < s.size
  · rw [if_pos h80]
    exact dskEvent_long s w h80
  rw [if_neg h80]
  have hs : s.size ≤ 80 := by omega
  obtain ⟨h, t, hw⟩ := words_cons s
  have key : Calls Tryd.prog 12 #[.string s] w fun e w' => EvPost (evWords h t) w e w' := by
    unfold evWords
    by_cases h32 : h = wPass
    · rw [if_pos h32]
      exact dskEvent_32 s m h t w hs hm hw h32 _ _ _ _ _ _ (six_eta (rdPass t)).symm
    rw [if_neg h32]
    by_cases h33 : h = wLost
    · rw [if_pos h33]
      exact dskEvent_33 s m h t w hs hm hw h33 _ _ _ _ _ _ (six_eta (rdLost t)).symm
    rw [if_neg h33]
    by_cases h34 : h = wBent
    · rw [if_pos h34]
      exact dskEvent_34 s m h t w hs hm hw h34 _ _ _ _ _ _ (six_eta (rdBent t)).symm
    rw [if_neg h34]
    by_cases h35 : h = wEarlier
    · rw [if_pos h35]
      exact dskEvent_35 s m h t w hs hm hw h35 _ _ _ _ _ _ (six_eta (rdEarlier t)).symm
    rw [if_neg h35]
    by_cases h37 : h = wFall
    · rw [if_pos h37]
      exact dskEvent_37 s m h t w hs hm hw h37 _ _ _ _ _ _ (six_eta (rdFall t)).symm
    rw [if_neg h37]
    by_cases h38 : h = wRise
    · rw [if_pos h38]
      exact dskEvent_38 s m h t w hs hm hw h38 _ _ _ _ _ _ (six_eta (rdRise t)).symm
    rw [if_neg h38]
    by_cases h39 : h = wInput
    · rw [if_pos h39]
      exact dskEvent_39 s m h t w hs hm hw h39 _ _ _ _ _ _ (six_eta (rdInput t)).symm
    rw [if_neg h39]
    by_cases h36 : h = wMade
    · rw [if_pos h36]
      exact dskEvent_36 s m h t w hs hm hw h36 _ _ _ _ _ _ (six_eta (rdMade t)).symm
    rw [if_neg h36]
    refine dskEvent_no s m h t w hs hm hw ?_
    rw [find8]
    rw [if_neg h32, if_neg h33, if_neg h34, if_neg h35, if_neg h36, if_neg h37, if_neg h38, if_neg h39]
  rw [hw]
  exact key
end Go.Proofs.YthnknchacjmmeaaDoor
