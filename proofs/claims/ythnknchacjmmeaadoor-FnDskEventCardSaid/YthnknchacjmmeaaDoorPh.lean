-- The kit's print of some functions of this seat, cut out by this session (the whole print did not build: one of its functions fell).
import Derived.Test.YthnknchacjmmeaaDoorPFnDskEventx0
import Derived.Test.YthnknchacjmmeaaDoorPg
namespace Go.Proofs.YthnknchacjmmeaaDoor.PFnDskEvent
open Go.RowKit Go.Proofs.YthnknchacjmmeaaDoorW.PrintWords Go.Proofs.YthnknchacjmmeaaDoorW.PrintLast Go.Proofs.YthnknchacjmmeaaDoorW.PrintMore
attribute [local go_sem] max2_int min2_int max_two min_two max_three min_three max_four min_four   -- for this text's walks alone
set_option linter.unusedVariables false
set_option linter.unusedSimpArgs false

theorem sz32 : (⟨#[32]⟩ : ByteArray).size = 1 := rfl
/-! ### spec_l34Line: function 46 -/
mutual
def spec_l34Line.j2 : Nat → ByteArray → List Int → Int → Option (ByteArray × Int)
  | 0, _, _, _ => none
  | k + 1, x4, x1000, x1001 => (spec_l30Rd_pick.f k x1000 x1001 6).bind fun bt301 => (if bt301.1 = 0 then ((spec_l30Bent.f k x1000 bt301.2 x4).bind fun bt303 => (some (bt303.1, bt303.2))) else (some (x4, bt301.2)))
def spec_l34Line.j0 : Nat → ByteArray → ByteArray → Bool → List Int → Int → Option (ByteArray × Int)
  | 0, _, _, _, _, _ => none
  | k + 1, x4, x13, x14, x1000, x1001 => if x14 = true then (if x4.size + 1 ≤ 9223372036854775807 then ((spec_l30Rd_pick.f k x1000 x1001 5).bind fun bt281 => ((spec_l5Digits.f k bt281.1).bind fun t283 => (if (x4 ++ (⟨#[32]⟩ : ByteArray)).size + t283.size ≤ 9223372036854775807 then (if ((x4 ++ (⟨#[32]⟩ : ByteArray)) ++ t283).size + 1 ≤ 9223372036854775807 then ((spec_l30Rd_pick.f k x1000 bt281.2 256).bind fun bt284 => ((spec_l5Digits.f k bt284.1).bind fun t286 => (if (((x4 ++ (⟨#[32]⟩ : ByteArray)) ++ t283) ++ (⟨#[32]⟩ : ByteArray)).size + t286.size ≤ 9223372036854775807 then (spec_l34Line.j2 k ((((x4 ++ (⟨#[32]⟩ : ByteArray)) ++ t283) ++ (⟨#[32]⟩ : ByteArray)) ++ t286) x1000 bt284.2) else (none)))) else (none)) else (none)))) else (none)) else (if x13.toList = ([101, 97, 114, 108, 105, 101, 114] : List UInt8) then (spec_l34Line.j1 k x4 x13 (x13.toList == ([101, 97, 114, 108, 105, 101, 114] : List UInt8)) x1000 x1001) else (if x13.toList = ([102, 97, 108, 108] : List UInt8) then (spec_l34Line.j1 k x4 x13 (x13.toList == ([102, 97, 108, 108] : List UInt8)) x1000 x1001) else (spec_l34Line.j1 k x4 x13 (x13.toList == ([114, 105, 115, 101] : List UInt8)) x1000 x1001)))
def spec_l34Line.j1 : Nat → ByteArray → ByteArray → Bool → List Int → Int → Option (ByteArray × Int)
  | 0, _, _, _, _, _ => none
  | k + 1, x4, x13, x28, x1000, x1001 => if x28 = true then (if x4.size + 1 ≤ 9223372036854775807 then ((spec_l30Rd_pick.f k x1000 x1001 4).bind fun bt287 => ((spec_l5Digits.f k bt287.1).bind fun t289 => (if (x4 ++ (⟨#[32]⟩ : ByteArray)).size + t289.size ≤ 9223372036854775807 then (spec_l34Line.j2 k ((x4 ++ (⟨#[32]⟩ : ByteArray)) ++ t289) x1000 bt287.2) else (none)))) else (none)) else (if x13.toList = ([109, 97, 100, 101] : List UInt8) then (if x4.size + 1 ≤ 9223372036854775807 then ((some (([24, 0, 3] : List Int) : List Int)).bind fun y290 => ((spec_l30Rd_pick.f k x1000 x1001 3).bind fun bt293 => (if 0 ≤ bt293.1 then (if bt293.1 < (y290.length : Int) then ((spec_l30Bytes.f k x1000 bt293.2 (rd y290 bt293.1)).bind fun bt296 => ((spec_l20Bytes.f k bt296.1).bind fun t300 => (if (x4 ++ (⟨#[32]⟩ : ByteArray)).size + t300.size ≤ 9223372036854775807 then (spec_l34Line.j2 k ((x4 ++ (⟨#[32]⟩ : ByteArray)) ++ t300) x1000 bt296.2) else (none)))) else (none)) else (none)))) else (none)) else (spec_l34Line.j2 k x4 x1000 x1001))
end
def spec_l34Line.f (k : Nat) (s0_0 : List Int) (s0_1 : Int) : Option (ByteArray × Int) := (some (([(⟨#[112, 97, 115, 115]⟩ : ByteArray), (⟨#[112, 97, 115, 115]⟩ : ByteArray), (⟨#[112, 97, 115, 115]⟩ : ByteArray), (⟨#[112, 97, 115, 115]⟩ : ByteArray), (⟨#[108, 111, 115, 116]⟩ : ByteArray), (⟨#[98, 101, 110, 116]⟩ : ByteArray), (⟨#[101, 97, 114, 108, 105, 101, 114]⟩ : ByteArray), (⟨#[102, 97, 108, 108]⟩ : ByteArray), (⟨#[114, 105, 115, 101]⟩ : ByteArray), (⟨#[105, 110, 112, 117, 116]⟩ : ByteArray), (⟨#[105, 110, 112, 117, 116]⟩ : ByteArray), (⟨#[109, 97, 100, 101]⟩ : ByteArray)] : List ByteArray) : List ByteArray)).bind fun y275 => ((spec_l30Rd_pick.f k s0_0 s0_1 (y275.length : Int)).bind fun bt278 => (if 0 ≤ bt278.1 then (if bt278.1 < (y275.length : Int) then (if (rdOf ByteArray.empty y275 bt278.1).toList = ([98, 101, 110, 116] : List UInt8) then (spec_l34Line.j0 k (rdOf ByteArray.empty y275 bt278.1) (rdOf ByteArray.empty y275 bt278.1) ((rdOf ByteArray.empty y275 bt278.1).toList == ([98, 101, 110, 116] : List UInt8)) s0_0 bt278.2) else (spec_l34Line.j0 k (rdOf ByteArray.empty y275 bt278.1) (rdOf ByteArray.empty y275 bt278.1) ((rdOf ByteArray.empty y275 bt278.1).toList == ([105, 110, 112, 117, 116] : List UInt8)) s0_0 bt278.2)) else (none)) else (none)))
theorem spec_l34Line.mono_l : ∀ k, (∀ y0 y1 y2, LeO (spec_l34Line.j2 k y0 y1 y2) (spec_l34Line.j2 (k + 1) y0 y1 y2)) ∧ (∀ y0 y1 y2 y3 y4, LeO (spec_l34Line.j0 k y0 y1 y2 y3 y4) (spec_l34Line.j0 (k + 1) y0 y1 y2 y3 y4)) ∧ (∀ y0 y1 y2 y3 y4, LeO (spec_l34Line.j1 k y0 y1 y2 y3 y4) (spec_l34Line.j1 (k + 1) y0 y1 y2 y3 y4))
  | 0 => ⟨fun _ _ _ r h => by simp [spec_l34Line.j2] at h, fun _ _ _ _ _ r h => by simp [spec_l34Line.j0] at h, fun _ _ _ _ _ r h => by simp [spec_l34Line.j1] at h⟩
  | k + 1 => by
    obtain ⟨ih0, ih1, ih2⟩ := spec_l34Line.mono_l k
    refine ⟨?_, ?_, ?_⟩
    · intro y0 y1 y2
      unfold spec_l34Line.j2
      repeat' first
      | (with_reducible exact ih0 _ _ _)
      | (with_reducible exact ih1 _ _ _ _ _)
      | (with_reducible exact ih2 _ _ _ _ _)
      | (with_reducible exact spec_l20Bytes.mono _ _)
      | (with_reducible exact spec_l30Bent.mono _ _ _ _)
      | (with_reducible exact spec_l30Bytes.mono _ _ _ _)
      | (with_reducible exact spec_l30Rd_pick.mono _ _ _ _)
      | (with_reducible exact spec_l5Digits.mono _ _)
      | (with_reducible exact LeO.refl _)
      | (with_reducible exact LeO.none _)
      | (with_reducible refine LeO.ite ?_ ?_)
      | (with_reducible refine LeO.bind ?_ (fun _ => ?_))
      | exact ih0 _ _ _
      | exact ih1 _ _ _ _ _
      | exact ih2 _ _ _ _ _
      | exact spec_l20Bytes.mono _ _
      | exact spec_l30Bent.mono _ _ _ _
      | exact spec_l30Bytes.mono _ _ _ _
      | exact spec_l30Rd_pick.mono _ _ _ _
      | exact spec_l5Digits.mono _ _
      | exact LeO.none _
      | refine LeO.ite ?_ ?_
      | refine LeO.bind ?_ (fun _ => ?_)
    · intro y0 y1 y2 y3 y4
      unfold spec_l34Line.j0
      repeat' first
      | (with_reducible exact ih0 _ _ _)
      | (with_reducible exact ih1 _ _ _ _ _)
      | (with_reducible exact ih2 _ _ _ _ _)
      | (with_reducible exact spec_l20Bytes.mono _ _)
      | (with_reducible exact spec_l30Bent.mono _ _ _ _)
      | (with_reducible exact spec_l30Bytes.mono _ _ _ _)
      | (with_reducible exact spec_l30Rd_pick.mono _ _ _ _)
      | (with_reducible exact spec_l5Digits.mono _ _)
      | (with_reducible exact LeO.refl _)
      | (with_reducible exact LeO.none _)
      | (with_reducible refine LeO.ite ?_ ?_)
      | (with_reducible refine LeO.bind ?_ (fun _ => ?_))
      | exact ih0 _ _ _
      | exact ih1 _ _ _ _ _
      | exact ih2 _ _ _ _ _
      | exact spec_l20Bytes.mono _ _
      | exact spec_l30Bent.mono _ _ _ _
      | exact spec_l30Bytes.mono _ _ _ _
      | exact spec_l30Rd_pick.mono _ _ _ _
      | exact spec_l5Digits.mono _ _
      | exact LeO.none _
      | refine LeO.ite ?_ ?_
      | refine LeO.bind ?_ (fun _ => ?_)
    · intro y0 y1 y2 y3 y4
      unfold spec_l34Line.j1
      repeat' first
      | (with_reducible exact ih0 _ _ _)
      | (with_reducible exact ih1 _ _ _ _ _)
      | (with_reducible exact ih2 _ _ _ _ _)
      | (with_reducible exact spec_l20Bytes.mono _ _)
      | (with_reducible exact spec_l30Bent.mono _ _ _ _)
      | (with_reducible exact spec_l30Bytes.mono _ _ _ _)
      | (with_reducible exact spec_l30Rd_pick.mono _ _ _ _)
      | (with_reducible exact spec_l5Digits.mono _ _)
      | (with_reducible exact LeO.refl _)
      | (with_reducible exact LeO.none _)
      | (with_reducible refine LeO.ite ?_ ?_)
      | (with_reducible refine LeO.bind ?_ (fun _ => ?_))
      | exact ih0 _ _ _
      | exact ih1 _ _ _ _ _
      | exact ih2 _ _ _ _ _
      | exact spec_l20Bytes.mono _ _
      | exact spec_l30Bent.mono _ _ _ _
      | exact spec_l30Bytes.mono _ _ _ _
      | exact spec_l30Rd_pick.mono _ _ _ _
      | exact spec_l5Digits.mono _ _
      | exact LeO.none _
      | refine LeO.ite ?_ ?_
      | refine LeO.bind ?_ (fun _ => ?_)
theorem spec_l34Line.mono : ∀ a0 a1 k, LeO (spec_l34Line.f k a0 a1) (spec_l34Line.f (k + 1) a0 a1) := by
  intro a0 a1 k
  obtain ⟨ih0, ih1, ih2⟩ := spec_l34Line.mono_l k
  unfold spec_l34Line.f
  repeat' first
      | (with_reducible exact ih0 _ _ _)
      | (with_reducible exact ih1 _ _ _ _ _)
      | (with_reducible exact ih2 _ _ _ _ _)
      | (with_reducible exact spec_l20Bytes.mono _ _)
      | (with_reducible exact spec_l30Bent.mono _ _ _ _)
      | (with_reducible exact spec_l30Bytes.mono _ _ _ _)
      | (with_reducible exact spec_l30Rd_pick.mono _ _ _ _)
      | (with_reducible exact spec_l5Digits.mono _ _)
      | (with_reducible exact LeO.refl _)
      | (with_reducible exact LeO.none _)
      | (with_reducible refine LeO.ite ?_ ?_)
      | (with_reducible refine LeO.bind ?_ (fun _ => ?_))
      | exact ih0 _ _ _
      | exact ih1 _ _ _ _ _
      | exact ih2 _ _ _ _ _
      | exact spec_l20Bytes.mono _ _
      | exact spec_l30Bent.mono _ _ _ _
      | exact spec_l30Bytes.mono _ _ _ _
      | exact spec_l30Rd_pick.mono _ _ _ _
      | exact spec_l5Digits.mono _ _
      | exact LeO.none _
      | refine LeO.ite ?_ ?_
      | refine LeO.bind ?_ (fun _ => ?_)
set_option maxHeartbeats 8000000 in
set_option maxRecDepth 100000 in
theorem spec_l34Line.calls (k : Nat) (g : Nat) (s0_0 : List Int) (s0_1 : Int) (r1 : ByteArray) (r2 : Int) (w0 w : World) (hI : IsS80 w0 w g s0_0 s0_1) (hB : Below w0.heap.size w0 w) (h : spec_l34Line.f k s0_0 s0_1 = some (r1, r2)) :
    Calls Tryd.prog 46 #[.pointer (some ⟨g, 0, none⟩)] w fun e w' => e = .returned (.string r1) ∧ IsS80 w0 w' g s0_0 r2 ∧ Below w0.heap.size w0 w' ∧ KeepBut w w' g none := by
  have HI0 := Aside0.mk hI
  have HK := Aside0.mk (KeepBut.refl w g none)
  have HL := Aside0.mk hB.size
  clear hI
  have HW0 := Aside0.mk hB.size
  have HB := Aside0.mk hB
  clear hB
  have H : ((some (([(⟨#[112, 97, 115, 115]⟩ : ByteArray), (⟨#[112, 97, 115, 115]⟩ : ByteArray), (⟨#[112, 97, 115, 115]⟩ : ByteArray), (⟨#[112, 97, 115, 115]⟩ : ByteArray), (⟨#[108, 111, 115, 116]⟩ : ByteArray), (⟨#[98, 101, 110, 116]⟩ : ByteArray), (⟨#[101, 97, 114, 108, 105, 101, 114]⟩ : ByteArray), (⟨#[102, 97, 108, 108]⟩ : ByteArray), (⟨#[114, 105, 115, 101]⟩ : ByteArray), (⟨#[105, 110, 112, 117, 116]⟩ : ByteArray), (⟨#[105, 110, 112, 117, 116]⟩ : ByteArray), (⟨#[109, 97, 100, 101]⟩ : ByteArray)] : List ByteArray) : List ByteArray)).bind fun y275 => ((spec_l30Rd_pick.f k s0_0 s0_1 (y275.length : Int)).bind fun bt278 => (if 0 ≤ bt278.1 then (if bt278.1 < (y275.length : Int) then (if (rdOf ByteArray.empty y275 bt278.1).toList = ([98, 101, 110, 116] : List UInt8) then (spec_l34Line.j0 k (rdOf ByteArray.empty y275 bt278.1) (rdOf ByteArray.empty y275 bt278.1) ((rdOf ByteArray.empty y275 bt278.1).toList == ([98, 101, 110, 116] : List UInt8)) s0_0 bt278.2) else (spec_l34Line.j0 k (rdOf ByteArray.empty y275 bt278.1) (rdOf ByteArray.empty y275 bt278.1) ((rdOf ByteArray.empty y275 bt278.1).toList == ([105, 110, 112, 117, 116] : List UInt8)) s0_0 bt278.2)) else (none)) else (none)))) = some (r1, r2) := h
  clear h
  obtain ⟨y275, hy275⟩ : ∃ y_ : List ByteArray, y_ = (([(⟨#[112, 97, 115, 115]⟩ : ByteArray), (⟨#[112, 97, 115, 115]⟩ : ByteArray), (⟨#[112, 97, 115, 115]⟩ : ByteArray), (⟨#[112, 97, 115, 115]⟩ : ByteArray), (⟨#[108, 111, 115, 116]⟩ : ByteArray), (⟨#[98, 101, 110, 116]⟩ : ByteArray), (⟨#[101, 97, 114, 108, 105, 101, 114]⟩ : ByteArray), (⟨#[102, 97, 108, 108]⟩ : ByteArray), (⟨#[114, 105, 115, 101]⟩ : ByteArray), (⟨#[105, 110, 112, 117, 116]⟩ : ByteArray), (⟨#[105, 110, 112, 117, 116]⟩ : ByteArray), (⟨#[109, 97, 100, 101]⟩ : ByteArray)] : List ByteArray)) := ⟨_, rfl⟩
  replace H : ((spec_l30Rd_pick.f k s0_0 s0_1 (y275.length : Int)).bind fun bt278 => (if 0 ≤ bt278.1 then (if bt278.1 < (y275.length : Int) then (if (rdOf ByteArray.empty y275 bt278.1).toList = ([98, 101, 110, 116] : List UInt8) then (spec_l34Line.j0 k (rdOf ByteArray.empty y275 bt278.1) (rdOf ByteArray.empty y275 bt278.1) ((rdOf ByteArray.empty y275 bt278.1).toList == ([98, 101, 110, 116] : List UInt8)) s0_0 bt278.2) else (spec_l34Line.j0 k (rdOf ByteArray.empty y275 bt278.1) (rdOf ByteArray.empty y275 bt278.1) ((rdOf ByteArray.empty y275 bt278.1).toList == ([105, 110, 112, 117, 116] : List UInt8)) s0_0 bt278.2)) else (none)) else (none))) = some (r1, r2) := by first | (rw [hy275]; with_reducible exact H) | (have H2_ := (Option.bind_some _ _).symm.trans H; rw [hy275]; with_reducible exact H2_) | (have H2_ := (Option.bind_some _ _).symm.trans H; with_reducible exact H2_) | with_reducible exact H | (rw [hy275]; exact H) | exact H
  have Ny275 := Aside0.mk hy275
  clear hy275
  replace H := Option.bind_eq_some_iff.mp H
  obtain ⟨⟨t278, t279⟩, A20, H⟩ := H
  replace H : (if 0 ≤ t278 then (if t278 < (y275.length : Int) then (if (rdOf ByteArray.empty y275 t278).toList = ([98, 101, 110, 116] : List UInt8) then (spec_l34Line.j0 k (rdOf ByteArray.empty y275 t278) (rdOf ByteArray.empty y275 t278) ((rdOf ByteArray.empty y275 t278).toList == ([98, 101, 110, 116] : List UInt8)) s0_0 t279) else (spec_l34Line.j0 k (rdOf ByteArray.empty y275 t278) (rdOf ByteArray.empty y275 t278) ((rdOf ByteArray.empty y275 t278).toList == ([105, 110, 112, 117, 116] : List UInt8)) s0_0 t279)) else (none)) else (none)) = some (r1, r2) := H
  have A2 := Aside0.mk A20
  clear A20
  by_cases c3 : 0 ≤ t278
  · rw [if_pos c3] at H
    have c3b0 : decide (0 ≤ t278) = true := decide_eq_true c3
    clear c3
    by_cases c4 : t278 < (y275.length : Int)
    · rw [if_pos c4] at H
      have c4b0 : decide (t278 < (y275.length : Int)) = true := decide_eq_true c4
      clear c4
      have HC5 := Aside0.mk H
      clear H
      go_enter Tryd.func46, Tryd.ntmps46
      go_upto_block 0 with (first | ((with_reducible refine gate_dst (N := 5) rfl ?_); refine Kd.R_lit Kd.string _ 9 ?hg (N := 5) ?hd (xs := ([(⟨#[112, 97, 115, 115]⟩ : ByteArray), (⟨#[112, 97, 115, 115]⟩ : ByteArray), (⟨#[112, 97, 115, 115]⟩ : ByteArray), (⟨#[112, 97, 115, 115]⟩ : ByteArray), (⟨#[108, 111, 115, 116]⟩ : ByteArray), (⟨#[98, 101, 110, 116]⟩ : ByteArray), (⟨#[101, 97, 114, 108, 105, 101, 114]⟩ : ByteArray), (⟨#[102, 97, 108, 108]⟩ : ByteArray), (⟨#[114, 105, 115, 101]⟩ : ByteArray), (⟨#[105, 110, 112, 117, 116]⟩ : ByteArray), (⟨#[105, 110, 112, 117, 116]⟩ : ByteArray), (⟨#[109, 97, 100, 101]⟩ : ByteArray)] : List ByteArray)) (inner := [.string (⟨#[112, 97, 115, 115]⟩ : ByteArray), .string (⟨#[112, 97, 115, 115]⟩ : ByteArray), .string (⟨#[112, 97, 115, 115]⟩ : ByteArray), .string (⟨#[112, 97, 115, 115]⟩ : ByteArray), .string (⟨#[108, 111, 115, 116]⟩ : ByteArray), .string (⟨#[98, 101, 110, 116]⟩ : ByteArray), .string (⟨#[101, 97, 114, 108, 105, 101, 114]⟩ : ByteArray), .string (⟨#[102, 97, 108, 108]⟩ : ByteArray), .string (⟨#[114, 105, 115, 101]⟩ : ByteArray), .string (⟨#[105, 110, 112, 117, 116]⟩ : ByteArray), .string (⟨#[105, 110, 112, 117, 116]⟩ : ByteArray), .string (⟨#[109, 97, 100, 101]⟩ : ByteArray)]) (ok := fun _ => True) (okp := fun _ => True) ?hr ?hp (fun _ hk => hk) trivial (Below.refl _ _) (Nat.le_refl _) (by simp) ?_; (case hd => rfl); (case hg => rfl); (case hr => first | (go_simp; done) | (go_simp; rfl)); (case hp => exact (Reps.one (show Kd.M Kd.string _ _ _ (⟨#[112, 97, 115, 115]⟩ : ByteArray) [.string (⟨#[112, 97, 115, 115]⟩ : ByteArray)] from rfl) (Reps.one (show Kd.M Kd.string _ _ _ (⟨#[112, 97, 115, 115]⟩ : ByteArray) [.string (⟨#[112, 97, 115, 115]⟩ : ByteArray)] from rfl) (Reps.one (show Kd.M Kd.string _ _ _ (⟨#[112, 97, 115, 115]⟩ : ByteArray) [.string (⟨#[112, 97, 115, 115]⟩ : ByteArray)] from rfl) (Reps.one (show Kd.M Kd.string _ _ _ (⟨#[112, 97, 115, 115]⟩ : ByteArray) [.string (⟨#[112, 97, 115, 115]⟩ : ByteArray)] from rfl) (Reps.one (show Kd.M Kd.string _ _ _ (⟨#[108, 111, 115, 116]⟩ : ByteArray) [.string (⟨#[108, 111, 115, 116]⟩ : ByteArray)] from rfl) (Reps.one (show Kd.M Kd.string _ _ _ (⟨#[98, 101, 110, 116]⟩ : ByteArray) [.string (⟨#[98, 101, 110, 116]⟩ : ByteArray)] from rfl) (Reps.one (show Kd.M Kd.string _ _ _ (⟨#[101, 97, 114, 108, 105, 101, 114]⟩ : ByteArray) [.string (⟨#[101, 97, 114, 108, 105, 101, 114]⟩ : ByteArray)] from rfl) (Reps.one (show Kd.M Kd.string _ _ _ (⟨#[102, 97, 108, 108]⟩ : ByteArray) [.string (⟨#[102, 97, 108, 108]⟩ : ByteArray)] from rfl) (Reps.one (show Kd.M Kd.string _ _ _ (⟨#[114, 105, 115, 101]⟩ : ByteArray) [.string (⟨#[114, 105, 115, 101]⟩ : ByteArray)] from rfl) (Reps.one (show Kd.M Kd.string _ _ _ (⟨#[105, 110, 112, 117, 116]⟩ : ByteArray) [.string (⟨#[105, 110, 112, 117, 116]⟩ : ByteArray)] from rfl) (Reps.one (show Kd.M Kd.string _ _ _ (⟨#[105, 110, 112, 117, 116]⟩ : ByteArray) [.string (⟨#[105, 110, 112, 117, 116]⟩ : ByteArray)] from rfl) (Reps.one (show Kd.M Kd.string _ _ _ (⟨#[109, 97, 100, 101]⟩ : ByteArray) [.string (⟨#[109, 97, 100, 101]⟩ : ByteArray)] from rfl) (Reps.none _ _)))))))))))))); intro v276 w6 ho7 hb hg_ hnew_; clear hg_ hnew_; (first | rw [← Ny275.out] at ho7 | (simp only [Int.reduceToNat] at ho7; rw [← Ny275.out] at ho7)); have n0_ := Aside0.mk (Kd.R_lower ho7 (keep_size (w := w) (g := g) (row := none) (by repeat (first | (with_reducible first | exact HK.out | apply KeepBut.set_ | apply keep_drewN | apply keep_drew | apply keep_alloc) | exact HK.out)))); have n1_ := Aside0.mk (IsS80.below (by repeat (first | (with_reducible first | exact HI0.out | apply IsS80.alloc | apply IsS80.drewN | apply IsS80.drew | apply IsS80.set_1) | exact HI0.out)) hb); have n2_ := Aside0.mk (KeepBut.trans (by repeat (first | (with_reducible first | exact HK.out | apply KeepBut.set_ | apply keep_drewN | apply keep_drew | apply keep_alloc) | exact HK.out)) (KeepBut.of_below hb g none) (.inl rfl)); have n3_ := Aside0.mk (below_step (by repeat (first | (with_reducible first | exact HB.out | apply below_alloc | apply pw_below_drewN | apply below_drew1 | refine below_set ?_ (IsS80.ge HI0.out)) | exact HB.out)) hb); clear HI0; clear HK; clear HB; have HO277 := n0_; have HI0 := n1_; have HK := n2_; have HB := n3_; clear n0_ n1_ n2_ n3_; clear hb ho7; obtain ⟨Ao8, co8, eo8⟩ := Kd.R_slice HO277.out; subst eo8) | ((with_reducible refine gate_callee (f := 44) rfl ?_); refine goesL_ (some 10) rfl rfl Tryd.func44 (by kernel_rfl) rfl #[.pointer (some ⟨g, 0, none⟩), .int .i64 (y275.length : Int)] rfl (by (try simp only [List.map_toArray, List.map_cons, List.map_nil]); first | done | rfl | (simp only [List.length_drop, List.length_take]; rfl)) ?_; (with_reducible refine (spec_l30Rd_pick.calls k g s0_0 s0_1 (y275.length : Int) t278 t279 w0 _ ?side1 ?side2 A2.out).mono ?_); (case side1 => repeat (first | (with_reducible first | exact HI0.out | apply IsS80.alloc | apply IsS80.drewN | apply IsS80.drew | apply IsS80.set_1) | exact HI0.out)); (case side2 => repeat (first | (with_reducible first | exact HB.out | apply below_alloc | apply pw_below_drewN | apply below_drew1 | refine below_set ?_ (IsS80.ge HI0.out)) | exact HB.out)); rintro e w9 ⟨rfl, hi, hb, hk⟩; refine ⟨_, rfl, ?_⟩; have n0_ := Aside0.mk (Kd.R_mono (Kd.R_keep (IsS80.apart (show IsS80 w0 _ g s0_0 s0_1 from by repeat (first | (with_reducible first | exact HI0.out | apply IsS80.alloc | apply IsS80.drewN | apply IsS80.drew | apply IsS80.set_1) | exact HI0.out)) (by (with_reducible repeat (first | apply Kd.R_alloc | apply Kd.R_drewN | apply Kd.R_drew)); exact HO277.out) (by decide)) hk (fun _ h => h.2)) (fun _ h => h.1)); have n1_ := Aside0.mk (KeepBut.trans (by repeat (first | (with_reducible first | exact HK.out | apply KeepBut.set_ | apply keep_drewN | apply keep_drew | apply keep_alloc) | exact HK.out)) hk (.inl rfl)); have n2_ := Aside0.mk (hb); have n3_ := Aside0.mk (hi); clear HO277; clear HK; clear HB; clear HI0; have HO277 := n0_; have HK := n1_; have HB := n2_; have HI0 := n3_; clear n0_ n1_ n2_ n3_; (try clear hb); (try clear hb2); (try clear hk); (try clear hi); have p280 : 0 ≤ (t278 : Int) := of_decide_eq_true (by first | (with_reducible assumption) | assumption); have q280 : t278 < (y275.length : Int) := of_decide_eq_true (by first | (with_reducible assumption) | assumption); obtain ⟨ad280, e280, hx280_0⟩ := Kd.at_string (Kd.R_reads' HO277.out).2.2 t278 p280 q280; cases e280; replace p280 := eq_true p280; replace q280 := eq_true q280))
      (try simp only [Act.put, List.setIfInBounds_toArray, List.set_cons_zero, List.set_cons_succ])
      go_cut [4] (fun v4 wc => ∃ (kq : Nat) (x4_4 : ByteArray) (x1001_4 : Int), v4 = .string x4_4 ∧ Aside0 (spec_l34Line.j2 kq x4_4 s0_0 x1001_4 = some (r1, r2)) ∧ Aside0 (kq ≤ k) ∧ Aside0 (IsS80 w0 wc g s0_0 x1001_4) ∧ Aside0 (KeepBut w wc g none) ∧ Aside0 (Below w0.heap.size w0 wc))
      case first =>
        have H := HC5.out
        clear HC5
        have HC10 := Aside0.mk H
        clear H
        go_upto_if 14 with (fail)
        go_cut [14] (fun v14 wc => ∃ (kq : Nat) (x14_9 : Bool), v14 = .bool x14_9 ∧ Aside0 (spec_l34Line.j0 kq (rdOf ByteArray.empty y275 t278) (rdOf ByteArray.empty y275 t278) x14_9 s0_0 t279 = some (r1, r2)) ∧ Aside0 (kq ≤ k) ∧ Aside0 (IsS80 w0 wc g s0_0 t279) ∧ Aside0 (KeepBut w wc g none) ∧ Aside0 (Below w0.heap.size w0 wc))
        case first =>
          have H := HC10.out
          clear HC10
          by_cases c11 : (rdOf ByteArray.empty y275 t278).toList = ([98, 101, 110, 116] : List UInt8)
          · rw [if_pos c11] at H
            have c11b0 : ((rdOf ByteArray.empty y275 t278).toList == ([98, 101, 110, 116] : List UInt8)) = true := beq_iff_eq.mpr c11
            have c11b1 : ((rdOf ByteArray.empty y275 t278).toList != ([98, 101, 110, 116] : List UInt8)) = false := bne_eq_false_iff_eq.mpr c11
            clear c11
            (first | rw [c11b0] | (simp only [i64_w, i32_w]; rw [c11b0]) | skip)
            have H' := Aside0.mk H
            clear H
            go_wp2
            go_meet
            case rel => exact ⟨_, (((rdOf ByteArray.empty y275 t278).toList == ([98, 101, 110, 116] : List UInt8))), (by first | rfl | (simp; done) | (simp [*]; done)), H', ⟨by first | omega | exact Nat.le_refl _⟩, ⟨by repeat (first | (with_reducible first | exact HI0.out | apply IsS80.alloc | apply IsS80.drewN | apply IsS80.drew | apply IsS80.set_1) | exact HI0.out)⟩, ⟨by repeat (first | (with_reducible first | exact HK.out | apply KeepBut.set_ | apply keep_drewN | apply keep_drew | apply keep_alloc) | exact HK.out)⟩, ⟨by repeat (first | (with_reducible first | exact HB.out | apply below_alloc | apply pw_below_drewN | apply below_drew1 | refine below_set ?_ (IsS80.ge HI0.out)) | exact HB.out)⟩⟩
          · rw [if_neg c11] at H
            have c11b0 : ((rdOf ByteArray.empty y275 t278).toList == ([98, 101, 110, 116] : List UInt8)) = false := beq_eq_false_iff_ne.mpr c11
            have c11b1 : ((rdOf ByteArray.empty y275 t278).toList != ([98, 101, 110, 116] : List UInt8)) = true := bne_iff_ne.mpr c11
            (first | rw [c11b0] | (simp only [i64_w, i32_w]; rw [c11b0]) | skip)
            have H' := Aside0.mk H
            clear H
            go_wp2
            go_meet
            case rel => exact ⟨_, (((rdOf ByteArray.empty y275 t278).toList == ([105, 110, 112, 117, 116] : List UInt8))), (by first | rfl | (simp; done) | (simp [*]; done)), H', ⟨by first | omega | exact Nat.le_refl _⟩, ⟨by repeat (first | (with_reducible first | exact HI0.out | apply IsS80.alloc | apply IsS80.drewN | apply IsS80.drew | apply IsS80.set_1) | exact HI0.out)⟩, ⟨by repeat (first | (with_reducible first | exact HK.out | apply KeepBut.set_ | apply keep_drewN | apply keep_drew | apply keep_alloc) | exact HK.out)⟩, ⟨by repeat (first | (with_reducible first | exact HB.out | apply below_alloc | apply pw_below_drewN | apply below_drew1 | refine below_set ?_ (IsS80.ge HI0.out)) | exact HB.out)⟩⟩
        case rest =>
          clear HC10
          try clear c1
          try clear p2
          try clear q2
          try clear hx2
          try clear c3
          try clear c3b0
          try clear c4
          try clear c4b0
          try clear c11
          try clear c11b0
          try clear c11b1
          try clear hx280_0
          try clear p280
          try clear q280
          obtain ⟨kq, x14_9, rfl, HA, HJ9, HI0, HK, HB⟩ := hcut
          cases kq with
          | zero => exact absurd HA.out (by simp [spec_l34Line.j0])
          | succ kj9 =>
            have H := HA.out
            clear HA
            simp only [spec_l34Line.j0] at H
            by_cases c12 : x14_9 = true
            · subst c12
              have H1 : (if (rdOf ByteArray.empty y275 t278).size + 1 ≤ 9223372036854775807 then ((spec_l30Rd_pick.f kj9 s0_0 t279 5).bind fun bt281 => ((spec_l5Digits.f kj9 bt281.1).bind fun t283 => (if ((rdOf ByteArray.empty y275 t278) ++ (⟨#[32]⟩ : ByteArray)).size + t283.size ≤ 9223372036854775807 then (if (((rdOf ByteArray.empty y275 t278) ++ (⟨#[32]⟩ : ByteArray)) ++ t283).size + 1 ≤ 9223372036854775807 then ((spec_l30Rd_pick.f kj9 s0_0 bt281.2 256).bind fun bt284 => ((spec_l5Digits.f kj9 bt284.1).bind fun t286 => (if ((((rdOf ByteArray.empty y275 t278) ++ (⟨#[32]⟩ : ByteArray)) ++ t283) ++ (⟨#[32]⟩ : ByteArray)).size + t286.size ≤ 9223372036854775807 then (spec_l34Line.j2 kj9 (((((rdOf ByteArray.empty y275 t278) ++ (⟨#[32]⟩ : ByteArray)) ++ t283) ++ (⟨#[32]⟩ : ByteArray)) ++ t286) s0_0 bt284.2) else (none)))) else (none)) else (none)))) else (none)) = some (r1, r2) := by rw [if_pos rfl] at H; exact H
              clear H
              have H := H1
              clear H1
              by_cases c13 : (rdOf ByteArray.empty y275 t278).size + 1 ≤ 9223372036854775807
              · rw [if_pos c13] at H
                have c13b0 := eq_true c13
                have c13b1 : decide ((rdOf ByteArray.empty y275 t278).size + 1 ≤ 9223372036854775807) = true := decide_eq_true c13
                try have c13b2 : (9223372036854775807 < (rdOf ByteArray.empty y275 t278).size + 1) = False := eq_false (Nat.not_lt.2 c13)
                try have c13n := c13
                try simp only [ByteArray.size_append] at c13n
                try have c13n1 := eq_false (Nat.not_lt.2 c13n)
                try have c13m := c13n
                try simp only [sz32] at c13m
                try have c13m1 := eq_false (Nat.not_lt.2 c13m)
                replace H := Option.bind_eq_some_iff.mp H
                obtain ⟨⟨t281, t282⟩, A140, H⟩ := H
                replace H : ((spec_l5Digits.f kj9 t281).bind fun t283 => (if ((rdOf ByteArray.empty y275 t278) ++ (⟨#[32]⟩ : ByteArray)).size + t283.size ≤ 9223372036854775807 then (if (((rdOf ByteArray.empty y275 t278) ++ (⟨#[32]⟩ : ByteArray)) ++ t283).size + 1 ≤ 9223372036854775807 then ((spec_l30Rd_pick.f kj9 s0_0 t282 256).bind fun bt284 => ((spec_l5Digits.f kj9 bt284.1).bind fun t286 => (if ((((rdOf ByteArray.empty y275 t278) ++ (⟨#[32]⟩ : ByteArray)) ++ t283) ++ (⟨#[32]⟩ : ByteArray)).size + t286.size ≤ 9223372036854775807 then (spec_l34Line.j2 kj9 (((((rdOf ByteArray.empty y275 t278) ++ (⟨#[32]⟩ : ByteArray)) ++ t283) ++ (⟨#[32]⟩ : ByteArray)) ++ t286) s0_0 bt284.2) else (none)))) else (none)) else (none))) = some (r1, r2) := H
                have A14 := Aside0.mk A140
                clear A140
                replace H := Option.bind_eq_some_iff.mp H
                obtain ⟨t283, A150, H⟩ := H
                replace H : (if ((rdOf ByteArray.empty y275 t278) ++ (⟨#[32]⟩ : ByteArray)).size + t283.size ≤ 9223372036854775807 then (if (((rdOf ByteArray.empty y275 t278) ++ (⟨#[32]⟩ : ByteArray)) ++ t283).size + 1 ≤ 9223372036854775807 then ((spec_l30Rd_pick.f kj9 s0_0 t282 256).bind fun bt284 => ((spec_l5Digits.f kj9 bt284.1).bind fun t286 => (if ((((rdOf ByteArray.empty y275 t278) ++ (⟨#[32]⟩ : ByteArray)) ++ t283) ++ (⟨#[32]⟩ : ByteArray)).size + t286.size ≤ 9223372036854775807 then (spec_l34Line.j2 kj9 (((((rdOf ByteArray.empty y275 t278) ++ (⟨#[32]⟩ : ByteArray)) ++ t283) ++ (⟨#[32]⟩ : ByteArray)) ++ t286) s0_0 bt284.2) else (none)))) else (none)) else (none)) = some (r1, r2) := H
                have A15 := Aside0.mk A150
                clear A150
                by_cases c16 : ((rdOf ByteArray.empty y275 t278) ++ (⟨#[32]⟩ : ByteArray)).size + t283.size ≤ 9223372036854775807
                · rw [if_pos c16] at H
                  have c16b0 := eq_true c16
                  have c16b1 : decide (((rdOf ByteArray.empty y275 t278) ++ (⟨#[32]⟩ : ByteArray)).size + t283.size ≤ 9223372036854775807) = true := decide_eq_true c16
                  try have c16b2 : (9223372036854775807 < ((rdOf ByteArray.empty y275 t278) ++ (⟨#[32]⟩ : ByteArray)).size + t283.size) = False := eq_false (Nat.not_lt.2 c16)
                  try have c16n := c16
                  try simp only [ByteArray.size_append] at c16n
                  try have c16n1 := eq_false (Nat.not_lt.2 c16n)
                  try have c16m := c16n
                  try simp only [sz32] at c16m
                  try have c16m1 := eq_false (Nat.not_lt.2 c16m)
                  by_cases c17 : (((rdOf ByteArray.empty y275 t278) ++ (⟨#[32]⟩ : ByteArray)) ++ t283).size + 1 ≤ 9223372036854775807
                  · rw [if_pos c17] at H
                    have c17b0 := eq_true c17
                    have c17b1 : decide ((((rdOf ByteArray.empty y275 t278) ++ (⟨#[32]⟩ : ByteArray)) ++ t283).size + 1 ≤ 9223372036854775807) = true := decide_eq_true c17
                    try have c17b2 : (9223372036854775807 < (((rdOf ByteArray.empty y275 t278) ++ (⟨#[32]⟩ : ByteArray)) ++ t283).size + 1) = False := eq_false (Nat.not_lt.2 c17)
                    try have c17n := c17
                    try simp only [ByteArray.size_append] at c17n
                    try have c17n1 := eq_false (Nat.not_lt.2 c17n)
                    try have c17m := c17n
                    try simp only [sz32] at c17m
                    try have c17m1 := eq_false (Nat.not_lt.2 c17m)
                    replace H := Option.bind_eq_some_iff.mp H
                    obtain ⟨⟨t284, t285⟩, A180, H⟩ := H
                    replace H : ((spec_l5Digits.f kj9 t284).bind fun t286 => (if ((((rdOf ByteArray.empty y275 t278) ++ (⟨#[32]⟩ : ByteArray)) ++ t283) ++ (⟨#[32]⟩ : ByteArray)).size + t286.size ≤ 9223372036854775807 then (spec_l34Line.j2 kj9 (((((rdOf ByteArray.empty y275 t278) ++ (⟨#[32]⟩ : ByteArray)) ++ t283) ++ (⟨#[32]⟩ : ByteArray)) ++ t286) s0_0 t285) else (none))) = some (r1, r2) := H
                    have A18 := Aside0.mk A180
                    clear A180
                    replace H := Option.bind_eq_some_iff.mp H
                    obtain ⟨t286, A190, H⟩ := H
                    replace H : (if ((((rdOf ByteArray.empty y275 t278) ++ (⟨#[32]⟩ : ByteArray)) ++ t283) ++ (⟨#[32]⟩ : ByteArray)).size + t286.size ≤ 9223372036854775807 then (spec_l34Line.j2 kj9 (((((rdOf ByteArray.empty y275 t278) ++ (⟨#[32]⟩ : ByteArray)) ++ t283) ++ (⟨#[32]⟩ : ByteArray)) ++ t286) s0_0 t285) else (none)) = some (r1, r2) := H
                    have A19 := Aside0.mk A190
                    clear A190
                    by_cases c20 : ((((rdOf ByteArray.empty y275 t278) ++ (⟨#[32]⟩ : ByteArray)) ++ t283) ++ (⟨#[32]⟩ : ByteArray)).size + t286.size ≤ 9223372036854775807
                    · rw [if_pos c20] at H
                      have c20b0 := eq_true c20
                      have c20b1 : decide (((((rdOf ByteArray.empty y275 t278) ++ (⟨#[32]⟩ : ByteArray)) ++ t283) ++ (⟨#[32]⟩ : ByteArray)).size + t286.size ≤ 9223372036854775807) = true := decide_eq_true c20
                      try have c20b2 : (9223372036854775807 < ((((rdOf ByteArray.empty y275 t278) ++ (⟨#[32]⟩ : ByteArray)) ++ t283) ++ (⟨#[32]⟩ : ByteArray)).size + t286.size) = False := eq_false (Nat.not_lt.2 c20)
                      try have c20n := c20
                      try simp only [ByteArray.size_append] at c20n
                      try have c20n1 := eq_false (Nat.not_lt.2 c20n)
                      try have c20m := c20n
                      try simp only [sz32] at c20m
                      try have c20m1 := eq_false (Nat.not_lt.2 c20m)
                      have H' := Aside0.mk H
                      clear H
                      go_wp2_with (first | ((with_reducible refine gate_callee (f := 44) rfl ?_); refine goesL_ (some 20) rfl rfl Tryd.func44 (by kernel_rfl) rfl #[.pointer (some ⟨g, 0, none⟩), .int .i64 5] rfl (by (try simp only [List.map_toArray, List.map_cons, List.map_nil]); first | done | rfl | (simp only [List.length_drop, List.length_take]; rfl)) ?_; (with_reducible refine (spec_l30Rd_pick.calls kj9 g s0_0 t279 5 t281 t282 w0 _ ?side1 ?side2 A14.out).mono ?_); (case side1 => repeat (first | (with_reducible first | exact HI0.out | apply IsS80.alloc | apply IsS80.drewN | apply IsS80.drew | apply IsS80.set_1) | exact HI0.out)); (case side2 => repeat (first | (with_reducible first | exact HB.out | apply below_alloc | apply pw_below_drewN | apply below_drew1 | refine below_set ?_ (IsS80.ge HI0.out)) | exact HB.out)); rintro e w21 ⟨rfl, hi, hb, hk⟩; refine ⟨_, rfl, ?_⟩; have n0_ := Aside0.mk (KeepBut.trans (by repeat (first | (with_reducible first | exact HK.out | apply KeepBut.set_ | apply keep_drewN | apply keep_drew | apply keep_alloc) | exact HK.out)) hk (.inl rfl)); have n1_ := Aside0.mk (hb); have n2_ := Aside0.mk (hi); clear HK; clear HB; clear HI0; have HK := n0_; have HB := n1_; have HI0 := n2_; clear n0_ n1_ n2_; (try clear hb); (try clear hb2); (try clear hk); (try clear hi)) | ((with_reducible refine gate_callee (f := 20) rfl ?_); refine goesL_ (some 21) rfl rfl Tryd.func20 (by kernel_rfl) rfl #[.int .i64 t281] rfl (by (try simp only [List.map_toArray, List.map_cons, List.map_nil]); first | done | rfl | (simp only [List.length_drop, List.length_take]; rfl)) ?_; (with_reducible refine (spec_l5Digits.calls kj9 t281 t283 _ A15.out).mono ?_); rintro e w22 ⟨rfl, hb⟩; refine ⟨_, rfl, ?_⟩; have n0_ := Aside0.mk (IsS80.below (by repeat (first | (with_reducible first | exact HI0.out | apply IsS80.alloc | apply IsS80.drewN | apply IsS80.drew | apply IsS80.set_1) | exact HI0.out)) hb); have n1_ := Aside0.mk (KeepBut.trans (by repeat (first | (with_reducible first | exact HK.out | apply KeepBut.set_ | apply keep_drewN | apply keep_drew | apply keep_alloc) | exact HK.out)) (KeepBut.of_below hb g none) (.inl rfl)); have n2_ := Aside0.mk (below_step (by repeat (first | (with_reducible first | exact HB.out | apply below_alloc | apply pw_below_drewN | apply below_drew1 | refine below_set ?_ (IsS80.ge HI0.out)) | exact HB.out)) hb); clear HI0; clear HK; clear HB; have HI0 := n0_; have HK := n1_; have HB := n2_; clear n0_ n1_ n2_; (try clear hb); (try clear hb2); (try clear hk); (try clear hi)) | ((with_reducible refine gate_callee (f := 44) rfl ?_); refine goesL_ (some 25) rfl rfl Tryd.func44 (by kernel_rfl) rfl #[.pointer (some ⟨g, 0, none⟩), .int .i64 256] rfl (by (try simp only [List.map_toArray, List.map_cons, List.map_nil]); first | done | rfl | (simp only [List.length_drop, List.length_take]; rfl)) ?_; (with_reducible refine (spec_l30Rd_pick.calls kj9 g s0_0 t282 256 t284 t285 w0 _ ?side1 ?side2 A18.out).mono ?_); (case side1 => repeat (first | (with_reducible first | exact HI0.out | apply IsS80.alloc | apply IsS80.drewN | apply IsS80.drew | apply IsS80.set_1) | exact HI0.out)); (case side2 => repeat (first | (with_reducible first | exact HB.out | apply below_alloc | apply pw_below_drewN | apply below_drew1 | refine below_set ?_ (IsS80.ge HI0.out)) | exact HB.out)); rintro e w23 ⟨rfl, hi, hb, hk⟩; refine ⟨_, rfl, ?_⟩; have n0_ := Aside0.mk (KeepBut.trans (by repeat (first | (with_reducible first | exact HK.out | apply KeepBut.set_ | apply keep_drewN | apply keep_drew | apply keep_alloc) | exact HK.out)) hk (.inl rfl)); have n1_ := Aside0.mk (hb); have n2_ := Aside0.mk (hi); clear HK; clear HB; clear HI0; have HK := n0_; have HB := n1_; have HI0 := n2_; clear n0_ n1_ n2_; (try clear hb); (try clear hb2); (try clear hk); (try clear hi)) | ((with_reducible refine gate_callee (f := 20) rfl ?_); refine goesL_ (some 26) rfl rfl Tryd.func20 (by kernel_rfl) rfl #[.int .i64 t284] rfl (by (try simp only [List.map_toArray, List.map_cons, List.map_nil]); first | done | rfl | (simp only [List.length_drop, List.length_take]; rfl)) ?_; (with_reducible refine (spec_l5Digits.calls kj9 t284 t286 _ A19.out).mono ?_); rintro e w24 ⟨rfl, hb⟩; refine ⟨_, rfl, ?_⟩; have n0_ := Aside0.mk (IsS80.below (by repeat (first | (with_reducible first | exact HI0.out | apply IsS80.alloc | apply IsS80.drewN | apply IsS80.drew | apply IsS80.set_1) | exact HI0.out)) hb); have n1_ := Aside0.mk (KeepBut.trans (by repeat (first | (with_reducible first | exact HK.out | apply KeepBut.set_ | apply keep_drewN | apply keep_drew | apply keep_alloc) | exact HK.out)) (KeepBut.of_below hb g none) (.inl rfl)); have n2_ := Aside0.mk (below_step (by repeat (first | (with_reducible first | exact HB.out | apply below_alloc | apply pw_below_drewN | apply below_drew1 | refine below_set ?_ (IsS80.ge HI0.out)) | exact HB.out)) hb); clear HI0; clear HK; clear HB; have HI0 := n0_; have HK := n1_; have HB := n2_; clear n0_ n1_ n2_; (try clear hb); (try clear hb2); (try clear hk); (try clear hi)))
                      go_meet
                      case rel => exact ⟨_, (((((rdOf ByteArray.empty y275 t278) ++ (⟨#[32]⟩ : ByteArray)) ++ t283) ++ (⟨#[32]⟩ : ByteArray)) ++ t286), (t285), (by first | rfl | (simp; done) | (simp [*]; done)), H', ⟨by have := HJ9.out; first | omega | exact Nat.le_refl _⟩, ⟨by repeat (first | (with_reducible first | exact HI0.out | apply IsS80.alloc | apply IsS80.drewN | apply IsS80.drew | apply IsS80.set_1) | exact HI0.out)⟩, ⟨by repeat (first | (with_reducible first | exact HK.out | apply KeepBut.set_ | apply keep_drewN | apply keep_drew | apply keep_alloc) | exact HK.out)⟩, ⟨by repeat (first | (with_reducible first | exact HB.out | apply below_alloc | apply pw_below_drewN | apply below_drew1 | refine below_set ?_ (IsS80.ge HI0.out)) | exact HB.out)⟩⟩
                    · rw [if_neg c20] at H
                      exact absurd H (by simp)
                  · rw [if_neg c17] at H
                    exact absurd H (by simp)
                · rw [if_neg c16] at H
                  exact absurd H (by simp)
              · rw [if_neg c13] at H
                exact absurd H (by simp)
            · replace c12 := Bool.eq_false_iff.mpr c12
              subst c12
              have H1 : (if (rdOf ByteArray.empty y275 t278).toList = ([101, 97, 114, 108, 105, 101, 114] : List UInt8) then (spec_l34Line.j1 kj9 (rdOf ByteArray.empty y275 t278) (rdOf ByteArray.empty y275 t278) ((rdOf ByteArray.empty y275 t278).toList == ([101, 97, 114, 108, 105, 101, 114] : List UInt8)) s0_0 t279) else (if (rdOf ByteArray.empty y275 t278).toList = ([102, 97, 108, 108] : List UInt8) then (spec_l34Line.j1 kj9 (rdOf ByteArray.empty y275 t278) (rdOf ByteArray.empty y275 t278) ((rdOf ByteArray.empty y275 t278).toList == ([102, 97, 108, 108] : List UInt8)) s0_0 t279) else (spec_l34Line.j1 kj9 (rdOf ByteArray.empty y275 t278) (rdOf ByteArray.empty y275 t278) ((rdOf ByteArray.empty y275 t278).toList == ([114, 105, 115, 101] : List UInt8)) s0_0 t279))) = some (r1, r2) := by rw [if_neg (show ¬ (false = true) by decide)] at H; exact H
              clear H
              have H := H1
              clear H1
              have HC25 := Aside0.mk H
              clear H
              go_upto_if 28 with (fail)
              go_cut [28] (fun v28 wc => ∃ (kq : Nat) (x28_24 : Bool), v28 = .bool x28_24 ∧ Aside0 (spec_l34Line.j1 kq (rdOf ByteArray.empty y275 t278) (rdOf ByteArray.empty y275 t278) x28_24 s0_0 t279 = some (r1, r2)) ∧ Aside0 (kq ≤ kj9) ∧ Aside0 (IsS80 w0 wc g s0_0 t279) ∧ Aside0 (KeepBut w wc g none) ∧ Aside0 (Below w0.heap.size w0 wc))
              case first =>
                have H := HC25.out
                clear HC25
                by_cases c26 : (rdOf ByteArray.empty y275 t278).toList = ([101, 97, 114, 108, 105, 101, 114] : List UInt8)
                · rw [if_pos c26] at H
                  have c26b0 : ((rdOf ByteArray.empty y275 t278).toList == ([101, 97, 114, 108, 105, 101, 114] : List UInt8)) = true := beq_iff_eq.mpr c26
                  have c26b1 : ((rdOf ByteArray.empty y275 t278).toList != ([101, 97, 114, 108, 105, 101, 114] : List UInt8)) = false := bne_eq_false_iff_eq.mpr c26
                  clear c26
                  (first | rw [c26b0] | (simp only [i64_w, i32_w]; rw [c26b0]) | skip)
                  have H' := Aside0.mk H
                  clear H
                  go_wp2
                  go_meet
                  case rel => exact ⟨_, (((rdOf ByteArray.empty y275 t278).toList == ([101, 97, 114, 108, 105, 101, 114] : List UInt8))), (by first | rfl | (simp; done) | (simp [*]; done)), H', ⟨by have := HJ9.out; first | omega | exact Nat.le_refl _⟩, ⟨by repeat (first | (with_reducible first | exact HI0.out | apply IsS80.alloc | apply IsS80.drewN | apply IsS80.drew | apply IsS80.set_1) | exact HI0.out)⟩, ⟨by repeat (first | (with_reducible first | exact HK.out | apply KeepBut.set_ | apply keep_drewN | apply keep_drew | apply keep_alloc) | exact HK.out)⟩, ⟨by repeat (first | (with_reducible first | exact HB.out | apply below_alloc | apply pw_below_drewN | apply below_drew1 | refine below_set ?_ (IsS80.ge HI0.out)) | exact HB.out)⟩⟩
                · rw [if_neg c26] at H
                  have c26b0 : ((rdOf ByteArray.empty y275 t278).toList == ([101, 97, 114, 108, 105, 101, 114] : List UInt8)) = false := beq_eq_false_iff_ne.mpr c26
                  have c26b1 : ((rdOf ByteArray.empty y275 t278).toList != ([101, 97, 114, 108, 105, 101, 114] : List UInt8)) = true := bne_iff_ne.mpr c26
                  (first | rw [c26b0] | (simp only [i64_w, i32_w]; rw [c26b0]) | skip)
                  by_cases c27 : (rdOf ByteArray.empty y275 t278).toList = ([102, 97, 108, 108] : List UInt8)
                  · rw [if_pos c27] at H
                    have c27b0 : ((rdOf ByteArray.empty y275 t278).toList == ([102, 97, 108, 108] : List UInt8)) = true := beq_iff_eq.mpr c27
                    have c27b1 : ((rdOf ByteArray.empty y275 t278).toList != ([102, 97, 108, 108] : List UInt8)) = false := bne_eq_false_iff_eq.mpr c27
                    clear c27
                    have H' := Aside0.mk H
                    clear H
                    go_wp2
                    go_meet
                    case rel => exact ⟨_, (((rdOf ByteArray.empty y275 t278).toList == ([102, 97, 108, 108] : List UInt8))), (by first | rfl | (simp; done) | (simp [*]; done)), H', ⟨by have := HJ9.out; first | omega | exact Nat.le_refl _⟩, ⟨by repeat (first | (with_reducible first | exact HI0.out | apply IsS80.alloc | apply IsS80.drewN | apply IsS80.drew | apply IsS80.set_1) | exact HI0.out)⟩, ⟨by repeat (first | (with_reducible first | exact HK.out | apply KeepBut.set_ | apply keep_drewN | apply keep_drew | apply keep_alloc) | exact HK.out)⟩, ⟨by repeat (first | (with_reducible first | exact HB.out | apply below_alloc | apply pw_below_drewN | apply below_drew1 | refine below_set ?_ (IsS80.ge HI0.out)) | exact HB.out)⟩⟩
                  · rw [if_neg c27] at H
                    have c27b0 : ((rdOf ByteArray.empty y275 t278).toList == ([102, 97, 108, 108] : List UInt8)) = false := beq_eq_false_iff_ne.mpr c27
                    have c27b1 : ((rdOf ByteArray.empty y275 t278).toList != ([102, 97, 108, 108] : List UInt8)) = true := bne_iff_ne.mpr c27
                    have H' := Aside0.mk H
                    clear H
                    go_wp2
                    go_meet
                    case rel => exact ⟨_, (((rdOf ByteArray.empty y275 t278).toList == ([114, 105, 115, 101] : List UInt8))), (by first | rfl | (simp; done) | (simp [*]; done)), H', ⟨by have := HJ9.out; first | omega | exact Nat.le_refl _⟩, ⟨by repeat (first | (with_reducible first | exact HI0.out | apply IsS80.alloc | apply IsS80.drewN | apply IsS80.drew | apply IsS80.set_1) | exact HI0.out)⟩, ⟨by repeat (first | (with_reducible first | exact HK.out | apply KeepBut.set_ | apply keep_drewN | apply keep_drew | apply keep_alloc) | exact HK.out)⟩, ⟨by repeat (first | (with_reducible first | exact HB.out | apply below_alloc | apply pw_below_drewN | apply below_drew1 | refine below_set ?_ (IsS80.ge HI0.out)) | exact HB.out)⟩⟩
              case rest =>
                clear HC25
                try clear c1
                try clear c2
                try clear p2
                try clear q2
                try clear hx2
                try clear c3
                try clear c3b0
                try clear c4
                try clear c4b0
                try clear c11
                try clear c11b0
                try clear c11b1
                try clear c12
                try clear c13
                try clear c13b0
                try clear c13b1
                try clear c13b2
                try clear c16
                try clear c16b0
                try clear c16b1
                try clear c16b2
                try clear c17
                try clear c17b0
                try clear c17b1
                try clear c17b2
                try clear c20
                try clear c20b0
                try clear c20b1
                try clear c20b2
                try clear c26
                try clear c26b0
                try clear c26b1
                try clear c27
                try clear c27b0
                try clear c27b1
                try clear hx280_0
                try clear p2
                try clear p280
                try clear q2
                try clear q280
                obtain ⟨kq, x28_24, rfl, HA, HJ24, HI0, HK, HB⟩ := hcut
                cases kq with
                | zero => exact absurd HA.out (by simp [spec_l34Line.j1])
                | succ kj24 =>
                  have H := HA.out
                  clear HA
                  simp only [spec_l34Line.j1] at H
                  by_cases c28 : x28_24 = true
                  · subst c28
                    have H1 : (if (rdOf ByteArray.empty y275 t278).size + 1 ≤ 9223372036854775807 then ((spec_l30Rd_pick.f kj24 s0_0 t279 4).bind fun bt287 => ((spec_l5Digits.f kj24 bt287.1).bind fun t289 => (if ((rdOf ByteArray.empty y275 t278) ++ (⟨#[32]⟩ : ByteArray)).size + t289.size ≤ 9223372036854775807 then (spec_l34Line.j2 kj24 (((rdOf ByteArray.empty y275 t278) ++ (⟨#[32]⟩ : ByteArray)) ++ t289) s0_0 bt287.2) else (none)))) else (none)) = some (r1, r2) := by rw [if_pos rfl] at H; exact H
                    clear H
                    have H := H1
                    clear H1
                    by_cases c29 : (rdOf ByteArray.empty y275 t278).size + 1 ≤ 9223372036854775807
                    · rw [if_pos c29] at H
                      have c29b0 := eq_true c29
                      have c29b1 : decide ((rdOf ByteArray.empty y275 t278).size + 1 ≤ 9223372036854775807) = true := decide_eq_true c29
                      try have c29b2 : (9223372036854775807 < (rdOf ByteArray.empty y275 t278).size + 1) = False := eq_false (Nat.not_lt.2 c29)
                      try have c29n := c29
                      try simp only [ByteArray.size_append] at c29n
                      try have c29n1 := eq_false (Nat.not_lt.2 c29n)
                      try have c29m := c29n
                      try simp only [sz32] at c29m
                      try have c29m1 := eq_false (Nat.not_lt.2 c29m)
                      replace H := Option.bind_eq_some_iff.mp H
                      obtain ⟨⟨t287, t288⟩, A300, H⟩ := H
                      replace H : ((spec_l5Digits.f kj24 t287).bind fun t289 => (if ((rdOf ByteArray.empty y275 t278) ++ (⟨#[32]⟩ : ByteArray)).size + t289.size ≤ 9223372036854775807 then (spec_l34Line.j2 kj24 (((rdOf ByteArray.empty y275 t278) ++ (⟨#[32]⟩ : ByteArray)) ++ t289) s0_0 t288) else (none))) = some (r1, r2) := H
                      have A30 := Aside0.mk A300
                      clear A300
                      replace H := Option.bind_eq_some_iff.mp H
                      obtain ⟨t289, A310, H⟩ := H
                      replace H : (if ((rdOf ByteArray.empty y275 t278) ++ (⟨#[32]⟩ : ByteArray)).size + t289.size ≤ 9223372036854775807 then (spec_l34Line.j2 kj24 (((rdOf ByteArray.empty y275 t278) ++ (⟨#[32]⟩ : ByteArray)) ++ t289) s0_0 t288) else (none)) = some (r1, r2) := H
                      have A31 := Aside0.mk A310
                      clear A310
                      by_cases c32 : ((rdOf ByteArray.empty y275 t278) ++ (⟨#[32]⟩ : ByteArray)).size + t289.size ≤ 9223372036854775807
                      · rw [if_pos c32] at H
                        have c32b0 := eq_true c32
                        have c32b1 : decide (((rdOf ByteArray.empty y275 t278) ++ (⟨#[32]⟩ : ByteArray)).size + t289.size ≤ 9223372036854775807) = true := decide_eq_true c32
                        try have c32b2 : (9223372036854775807 < ((rdOf ByteArray.empty y275 t278) ++ (⟨#[32]⟩ : ByteArray)).size + t289.size) = False := eq_false (Nat.not_lt.2 c32)
                        try have c32n := c32
                        try simp only [ByteArray.size_append] at c32n
                        try have c32n1 := eq_false (Nat.not_lt.2 c32n)
                        try have c32m := c32n
                        try simp only [sz32] at c32m
                        try have c32m1 := eq_false (Nat.not_lt.2 c32m)
                        have H' := Aside0.mk H
                        clear H
                        go_wp2_with (first | ((with_reducible refine gate_callee (f := 44) rfl ?_); refine goesL_ (some 35) rfl rfl Tryd.func44 (by kernel_rfl) rfl #[.pointer (some ⟨g, 0, none⟩), .int .i64 4] rfl (by (try simp only [List.map_toArray, List.map_cons, List.map_nil]); first | done | rfl | (simp only [List.length_drop, List.length_take]; rfl)) ?_; (with_reducible refine (spec_l30Rd_pick.calls kj24 g s0_0 t279 4 t287 t288 w0 _ ?side1 ?side2 A30.out).mono ?_); (case side1 => repeat (first | (with_reducible first | exact HI0.out | apply IsS80.alloc | apply IsS80.drewN | apply IsS80.drew | apply IsS80.set_1) | exact HI0.out)); (case side2 => repeat (first | (with_reducible first | exact HB.out | apply below_alloc | apply pw_below_drewN | apply below_drew1 | refine below_set ?_ (IsS80.ge HI0.out)) | exact HB.out)); rintro e w33 ⟨rfl, hi, hb, hk⟩; refine ⟨_, rfl, ?_⟩; have n0_ := Aside0.mk (KeepBut.trans (by repeat (first | (with_reducible first | exact HK.out | apply KeepBut.set_ | apply keep_drewN | apply keep_drew | apply keep_alloc) | exact HK.out)) hk (.inl rfl)); have n1_ := Aside0.mk (hb); have n2_ := Aside0.mk (hi); clear HK; clear HB; clear HI0; have HK := n0_; have HB := n1_; have HI0 := n2_; clear n0_ n1_ n2_; (try clear hb); (try clear hb2); (try clear hk); (try clear hi)) | ((with_reducible refine gate_callee (f := 20) rfl ?_); refine goesL_ (some 36) rfl rfl Tryd.func20 (by kernel_rfl) rfl #[.int .i64 t287] rfl (by (try simp only [List.map_toArray, List.map_cons, List.map_nil]); first | done | rfl | (simp only [List.length_drop, List.length_take]; rfl)) ?_; (with_reducible refine (spec_l5Digits.calls kj24 t287 t289 _ A31.out).mono ?_); rintro e w34 ⟨rfl, hb⟩; refine ⟨_, rfl, ?_⟩; have n0_ := Aside0.mk (IsS80.below (by repeat (first | (with_reducible first | exact HI0.out | apply IsS80.alloc | apply IsS80.drewN | apply IsS80.drew | apply IsS80.set_1) | exact HI0.out)) hb); have n1_ := Aside0.mk (KeepBut.trans (by repeat (first | (with_reducible first | exact HK.out | apply KeepBut.set_ | apply keep_drewN | apply keep_drew | apply keep_alloc) | exact HK.out)) (KeepBut.of_below hb g none) (.inl rfl)); have n2_ := Aside0.mk (below_step (by repeat (first | (with_reducible first | exact HB.out | apply below_alloc | apply pw_below_drewN | apply below_drew1 | refine below_set ?_ (IsS80.ge HI0.out)) | exact HB.out)) hb); clear HI0; clear HK; clear HB; have HI0 := n0_; have HK := n1_; have HB := n2_; clear n0_ n1_ n2_; (try clear hb); (try clear hb2); (try clear hk); (try clear hi)))
                        go_meet
                        case rel => exact ⟨_, (((rdOf ByteArray.empty y275 t278) ++ (⟨#[32]⟩ : ByteArray)) ++ t289), (t288), (by first | rfl | (simp; done) | (simp [*]; done)), H', ⟨by have := HJ9.out; have := HJ24.out; first | omega | exact Nat.le_refl _⟩, ⟨by repeat (first | (with_reducible first | exact HI0.out | apply IsS80.alloc | apply IsS80.drewN | apply IsS80.drew | apply IsS80.set_1) | exact HI0.out)⟩, ⟨by repeat (first | (with_reducible first | exact HK.out | apply KeepBut.set_ | apply keep_drewN | apply keep_drew | apply keep_alloc) | exact HK.out)⟩, ⟨by repeat (first | (with_reducible first | exact HB.out | apply below_alloc | apply pw_below_drewN | apply below_drew1 | refine below_set ?_ (IsS80.ge HI0.out)) | exact HB.out)⟩⟩
                      · rw [if_neg c32] at H
                        exact absurd H (by simp)
                    · rw [if_neg c29] at H
                      exact absurd H (by simp)
                  · replace c28 := Bool.eq_false_iff.mpr c28
                    subst c28
                    have H1 : (if (rdOf ByteArray.empty y275 t278).toList = ([109, 97, 100, 101] : List UInt8) then (if (rdOf ByteArray.empty y275 t278).size + 1 ≤ 9223372036854775807 then ((some (([24, 0, 3] : List Int) : List Int)).bind fun y290 => ((spec_l30Rd_pick.f kj24 s0_0 t279 3).bind fun bt293 => (if 0 ≤ bt293.1 then (if bt293.1 < (y290.length : Int) then ((spec_l30Bytes.f kj24 s0_0 bt293.2 (rd y290 bt293.1)).bind fun bt296 => ((spec_l20Bytes.f kj24 bt296.1).bind fun t300 => (if ((rdOf ByteArray.empty y275 t278) ++ (⟨#[32]⟩ : ByteArray)).size + t300.size ≤ 9223372036854775807 then (spec_l34Line.j2 kj24 (((rdOf ByteArray.empty y275 t278) ++ (⟨#[32]⟩ : ByteArray)) ++ t300) s0_0 bt296.2) else (none)))) else (none)) else (none)))) else (none)) else (spec_l34Line.j2 kj24 (rdOf ByteArray.empty y275 t278) s0_0 t279)) = some (r1, r2) := by rw [if_neg (show ¬ (false = true) by decide)] at H; exact H
                    clear H
                    have H := H1
                    clear H1
                    by_cases c35 : (rdOf ByteArray.empty y275 t278).toList = ([109, 97, 100, 101] : List UInt8)
                    · rw [if_pos c35] at H
                      have c35b0 : ((rdOf ByteArray.empty y275 t278).toList == ([109, 97, 100, 101] : List UInt8)) = true := beq_iff_eq.mpr c35
                      have c35b1 : ((rdOf ByteArray.empty y275 t278).toList != ([109, 97, 100, 101] : List UInt8)) = false := bne_eq_false_iff_eq.mpr c35
                      clear c35
                      by_cases c36 : (rdOf ByteArray.empty y275 t278).size + 1 ≤ 9223372036854775807
                      · rw [if_pos c36] at H
                        have c36b0 := eq_true c36
                        have c36b1 : decide ((rdOf ByteArray.empty y275 t278).size + 1 ≤ 9223372036854775807) = true := decide_eq_true c36
                        try have c36b2 : (9223372036854775807 < (rdOf ByteArray.empty y275 t278).size + 1) = False := eq_false (Nat.not_lt.2 c36)
                        try have c36n := c36
                        try simp only [ByteArray.size_append] at c36n
                        try have c36n1 := eq_false (Nat.not_lt.2 c36n)
                        try have c36m := c36n
                        try simp only [sz32] at c36m
                        try have c36m1 := eq_false (Nat.not_lt.2 c36m)
                        obtain ⟨y290, hy290⟩ : ∃ y_ : List Int, y_ = (([24, 0, 3] : List Int)) := ⟨_, rfl⟩
                        replace H : ((spec_l30Rd_pick.f kj24 s0_0 t279 3).bind fun bt293 => (if 0 ≤ bt293.1 then (if bt293.1 < (y290.length : Int) then ((spec_l30Bytes.f kj24 s0_0 bt293.2 (rd y290 bt293.1)).bind fun bt296 => ((spec_l20Bytes.f kj24 bt296.1).bind fun t300 => (if ((rdOf ByteArray.empty y275 t278) ++ (⟨#[32]⟩ : ByteArray)).size + t300.size ≤ 9223372036854775807 then (spec_l34Line.j2 kj24 (((rdOf ByteArray.empty y275 t278) ++ (⟨#[32]⟩ : ByteArray)) ++ t300) s0_0 bt296.2) else (none)))) else (none)) else (none))) = some (r1, r2) := by first | (rw [hy290]; with_reducible exact H) | (have H2_ := (Option.bind_some _ _).symm.trans H; rw [hy290]; with_reducible exact H2_) | (have H2_ := (Option.bind_some _ _).symm.trans H; with_reducible exact H2_) | with_reducible exact H | (rw [hy290]; exact H) | exact H
                        have Ny290 := Aside0.mk hy290
                        clear hy290
                        replace H := Option.bind_eq_some_iff.mp H
                        obtain ⟨⟨t293, t294⟩, A370, H⟩ := H
                        replace H : (if 0 ≤ t293 then (if t293 < (y290.length : Int) then ((spec_l30Bytes.f kj24 s0_0 t294 (rd y290 t293)).bind fun bt296 => ((spec_l20Bytes.f kj24 bt296.1).bind fun t300 => (if ((rdOf ByteArray.empty y275 t278) ++ (⟨#[32]⟩ : ByteArray)).size + t300.size ≤ 9223372036854775807 then (spec_l34Line.j2 kj24 (((rdOf ByteArray.empty y275 t278) ++ (⟨#[32]⟩ : ByteArray)) ++ t300) s0_0 bt296.2) else (none)))) else (none)) else (none)) = some (r1, r2) := H
                        have A37 := Aside0.mk A370
                        clear A370
                        by_cases c38 : 0 ≤ t293
                        · rw [if_pos c38] at H
                          have c38b0 : decide (0 ≤ t293) = true := decide_eq_true c38
                          clear c38
                          by_cases c39 : t293 < (y290.length : Int)
                          · rw [if_pos c39] at H
                            have c39b0 : decide (t293 < (y290.length : Int)) = true := decide_eq_true c39
                            clear c39
                            replace H := Option.bind_eq_some_iff.mp H
                            obtain ⟨⟨t296, t299⟩, A400, H⟩ := H
                            replace H : ((spec_l20Bytes.f kj24 t296).bind fun t300 => (if ((rdOf ByteArray.empty y275 t278) ++ (⟨#[32]⟩ : ByteArray)).size + t300.size ≤ 9223372036854775807 then (spec_l34Line.j2 kj24 (((rdOf ByteArray.empty y275 t278) ++ (⟨#[32]⟩ : ByteArray)) ++ t300) s0_0 t299) else (none))) = some (r1, r2) := H
                            have A40 := Aside0.mk A400
                            clear A400
                            replace H := Option.bind_eq_some_iff.mp H
                            obtain ⟨t300, A410, H⟩ := H
                            replace H : (if ((rdOf ByteArray.empty y275 t278) ++ (⟨#[32]⟩ : ByteArray)).size + t300.size ≤ 9223372036854775807 then (spec_l34Line.j2 kj24 (((rdOf ByteArray.empty y275 t278) ++ (⟨#[32]⟩ : ByteArray)) ++ t300) s0_0 t299) else (none)) = some (r1, r2) := H
                            have A41 := Aside0.mk A410
                            clear A410
                            by_cases c42 : ((rdOf ByteArray.empty y275 t278) ++ (⟨#[32]⟩ : ByteArray)).size + t300.size ≤ 9223372036854775807
                            · rw [if_pos c42] at H
                              have c42b0 := eq_true c42
                              have c42b1 : decide (((rdOf ByteArray.empty y275 t278) ++ (⟨#[32]⟩ : ByteArray)).size + t300.size ≤ 9223372036854775807) = true := decide_eq_true c42
                              try have c42b2 : (9223372036854775807 < ((rdOf ByteArray.empty y275 t278) ++ (⟨#[32]⟩ : ByteArray)).size + t300.size) = False := eq_false (Nat.not_lt.2 c42)
                              try have c42n := c42
                              try simp only [ByteArray.size_append] at c42n
                              try have c42n1 := eq_false (Nat.not_lt.2 c42n)
                              try have c42m := c42n
                              try simp only [sz32] at c42m
                              try have c42m1 := eq_false (Nat.not_lt.2 c42m)
                              have H' := Aside0.mk H
                              clear H
                              go_wp2_with (first | ((with_reducible refine gate_dst (N := 43) rfl ?_); refine Kd.R_lit (Kd.int .i64) _ 3 ?hg (N := 43) ?hd (xs := ([24, 0, 3] : List Int)) (inner := [.int .i64 24, .int .i64 0, .int .i64 3]) (ok := fun _ => True) (okp := fun _ => True) ?hr ?hp (fun _ hk => hk) trivial (Below.refl _ _) (Nat.le_refl _) (by simp) ?_; (case hd => rfl); (case hg => rfl); (case hr => first | (go_simp; done) | (go_simp; rfl)); (case hp => exact (Reps.one (show Kd.M (Kd.int .i64) _ _ _ 24 [.int .i64 24] from rfl) (Reps.one (show Kd.M (Kd.int .i64) _ _ _ 0 [.int .i64 0] from rfl) (Reps.one (show Kd.M (Kd.int .i64) _ _ _ 3 [.int .i64 3] from rfl) (Reps.none _ _))))); intro v291 w43 ho44 hb hg_ hnew_; clear hg_ hnew_; (first | rw [← Ny290.out] at ho44 | (simp only [Int.reduceToNat] at ho44; rw [← Ny290.out] at ho44)); have n0_ := Aside0.mk (Kd.R_lower ho44 (keep_size (w := w) (g := g) (row := none) (by repeat (first | (with_reducible first | exact HK.out | apply KeepBut.set_ | apply keep_drewN | apply keep_drew | apply keep_alloc) | exact HK.out)))); have n1_ := Aside0.mk (IsS80.below (by repeat (first | (with_reducible first | exact HI0.out | apply IsS80.alloc | apply IsS80.drewN | apply IsS80.drew | apply IsS80.set_1) | exact HI0.out)) hb); have n2_ := Aside0.mk (KeepBut.trans (by repeat (first | (with_reducible first | exact HK.out | apply KeepBut.set_ | apply keep_drewN | apply keep_drew | apply keep_alloc) | exact HK.out)) (KeepBut.of_below hb g none) (.inl rfl)); have n3_ := Aside0.mk (below_step (by repeat (first | (with_reducible first | exact HB.out | apply below_alloc | apply pw_below_drewN | apply below_drew1 | refine below_set ?_ (IsS80.ge HI0.out)) | exact HB.out)) hb); clear HI0; clear HK; clear HB; have HO292 := n0_; have HI0 := n1_; have HK := n2_; have HB := n3_; clear n0_ n1_ n2_ n3_; clear hb ho44) | ((with_reducible refine gate_callee (f := 44) rfl ?_); refine goesL_ (some 45) rfl rfl Tryd.func44 (by kernel_rfl) rfl #[.pointer (some ⟨g, 0, none⟩), .int .i64 3] rfl (by (try simp only [List.map_toArray, List.map_cons, List.map_nil]); first | done | rfl | (simp only [List.length_drop, List.length_take]; rfl)) ?_; (with_reducible refine (spec_l30Rd_pick.calls kj24 g s0_0 t279 3 t293 t294 w0 _ ?side1 ?side2 A37.out).mono ?_); (case side1 => repeat (first | (with_reducible first | exact HI0.out | apply IsS80.alloc | apply IsS80.drewN | apply IsS80.drew | apply IsS80.set_1) | exact HI0.out)); (case side2 => repeat (first | (with_reducible first | exact HB.out | apply below_alloc | apply pw_below_drewN | apply below_drew1 | refine below_set ?_ (IsS80.ge HI0.out)) | exact HB.out)); rintro e w45 ⟨rfl, hi, hb, hk⟩; refine ⟨_, rfl, ?_⟩; have n0_ := Aside0.mk (Kd.R_mono (Kd.R_keep (IsS80.apart (show IsS80 w0 _ g s0_0 t279 from by repeat (first | (with_reducible first | exact HI0.out | apply IsS80.alloc | apply IsS80.drewN | apply IsS80.drew | apply IsS80.set_1) | exact HI0.out)) (by (with_reducible repeat (first | apply Kd.R_alloc | apply Kd.R_drewN | apply Kd.R_drew)); exact HO292.out) (by decide)) hk (fun _ h => h.2)) (fun _ h => h.1)); have n1_ := Aside0.mk (KeepBut.trans (by repeat (first | (with_reducible first | exact HK.out | apply KeepBut.set_ | apply keep_drewN | apply keep_drew | apply keep_alloc) | exact HK.out)) hk (.inl rfl)); have n2_ := Aside0.mk (hb); have n3_ := Aside0.mk (hi); clear HO292; clear HK; clear HB; clear HI0; have HO292 := n0_; have HK := n1_; have HB := n2_; have HI0 := n3_; clear n0_ n1_ n2_ n3_; (try clear hb); (try clear hb2); (try clear hk); (try clear hi); obtain ⟨Ao46, co46, eo46⟩ := Kd.R_slice HO292.out; subst eo46; have p295 : 0 ≤ (t293 : Int) := of_decide_eq_true (by first | (with_reducible assumption) | assumption); have q295 : t293 < (y290.length : Int) := of_decide_eq_true (by first | (with_reducible assumption) | assumption); obtain ⟨ad295, e295, hx295_0⟩ := Kd.at_int (Kd.R_reads' HO292.out).2.2 t293 p295 q295; cases e295; replace p295 := eq_true p295; replace q295 := eq_true q295) | ((with_reducible refine gate_callee (f := 45) rfl ?_); refine goesL_ (some 48) rfl rfl Tryd.func45 (by kernel_rfl) rfl #[.pointer (some ⟨g, 0, none⟩), .int .i64 (rd y290 t293)] rfl (by (try simp only [List.map_toArray, List.map_cons, List.map_nil]); first | done | rfl | (simp only [List.length_drop, List.length_take]; rfl)) ?_; (with_reducible refine (spec_l30Bytes.calls kj24 g s0_0 t294 (rd y290 t293) t296 t299 w0 _ ?side1 ?side2 A40.out).mono ?_); (case side1 => repeat (first | (with_reducible first | exact HI0.out | apply IsS80.alloc | apply IsS80.drewN | apply IsS80.drew | apply IsS80.set_1) | exact HI0.out)); (case side2 => repeat (first | (with_reducible first | exact HB.out | apply below_alloc | apply pw_below_drewN | apply below_drew1 | refine below_set ?_ (IsS80.ge HI0.out)) | exact HB.out)); rintro e w47 ⟨v297, rfl, ho0, hi, hb, hk⟩; refine ⟨_, rfl, ?_⟩; have n0_ := Aside0.mk (Kd.R_mono (Kd.R_keep (IsS80.apart (show IsS80 w0 _ g s0_0 t294 from by repeat (first | (with_reducible first | exact HI0.out | apply IsS80.alloc | apply IsS80.drewN | apply IsS80.drew | apply IsS80.set_1) | exact HI0.out)) (by (with_reducible repeat (first | apply Kd.R_alloc | apply Kd.R_drewN | apply Kd.R_drew)); exact HO292.out) (by decide)) hk (fun _ h => h.2)) (fun _ h => h.1)); have n1_ := Aside0.mk (Kd.R_lower ho0 (keep_size (w := w) (g := g) (row := none) (by repeat (first | (with_reducible first | exact HK.out | apply KeepBut.set_ | apply keep_drewN | apply keep_drew | apply keep_alloc) | exact HK.out)))); have n2_ := Aside0.mk (KeepBut.trans (by repeat (first | (with_reducible first | exact HK.out | apply KeepBut.set_ | apply keep_drewN | apply keep_drew | apply keep_alloc) | exact HK.out)) hk (.inl rfl)); have n3_ := Aside0.mk (hb); have n4_ := Aside0.mk (hi); clear HO292; clear HK; clear HB; clear HI0; have HO292 := n0_; have HO298 := n1_; have HK := n2_; have HB := n3_; have HI0 := n4_; clear n0_ n1_ n2_ n3_ n4_; (try clear hb); (try clear hb2); (try clear hk); (try clear hi); (try clear ho0); obtain ⟨Ao48, co48, eo48⟩ := Kd.R_slice HO298.out; subst eo48) | ((with_reducible refine gate_callee (f := 21) rfl ?_); refine goesL_ (some 49) rfl rfl Tryd.func21 (by kernel_rfl) rfl #[.slice Ao48 t296.length co48] rfl (by (try simp only [List.map_toArray, List.map_cons, List.map_nil]); first | done | rfl | (simp only [List.length_drop, List.length_take]; rfl)) ?_; (with_reducible refine (spec_l20Bytes.calls kj24 _ _ t296 t300 _ ?side1 ?side2 A41.out).mono ?_); (case side1 => repeat (first | exact (Kd.R_reads' HO298.out).2.2 | (with_reducible refine Kd.C_alloc ?_ _) | (with_reducible refine Kd.C_drewN ?_ _) | (with_reducible refine Kd.C_drew ?_))); (case side2 => exact (Kd.R_reads' HO298.out).2.1); rintro e w49 ⟨rfl, hb⟩; refine ⟨_, rfl, ?_⟩; have n0_ := Aside0.mk (Kd.R_below (by (with_reducible repeat (first | apply Kd.R_alloc | apply Kd.R_drewN | apply Kd.R_drew)); exact HO292.out) hb); have n1_ := Aside0.mk (Kd.R_below (by (with_reducible repeat (first | apply Kd.R_alloc | apply Kd.R_drewN | apply Kd.R_drew)); exact HO298.out) hb); have n2_ := Aside0.mk (IsS80.below (by repeat (first | (with_reducible first | exact HI0.out | apply IsS80.alloc | apply IsS80.drewN | apply IsS80.drew | apply IsS80.set_1) | exact HI0.out)) hb); have n3_ := Aside0.mk (KeepBut.trans (by repeat (first | (with_reducible first | exact HK.out | apply KeepBut.set_ | apply keep_drewN | apply keep_drew | apply keep_alloc) | exact HK.out)) (KeepBut.of_below hb g none) (.inl rfl)); have n4_ := Aside0.mk (below_step (by repeat (first | (with_reducible first | exact HB.out | apply below_alloc | apply pw_below_drewN | apply below_drew1 | refine below_set ?_ (IsS80.ge HI0.out)) | exact HB.out)) hb); clear HO292; clear HO298; clear HI0; clear HK; clear HB; have HO292 := n0_; have HO298 := n1_; have HI0 := n2_; have HK := n3_; have HB := n4_; clear n0_ n1_ n2_ n3_ n4_; (try clear hb); (try clear hb2); (try clear hk); (try clear hi)))
                              go_meet
                              case rel => exact ⟨_, (((rdOf ByteArray.empty y275 t278) ++ (⟨#[32]⟩ : ByteArray)) ++ t300), (t299), (by first | rfl | (simp; done) | (simp [*]; done)), H', ⟨by have := HJ9.out; have := HJ24.out; first | omega | exact Nat.le_refl _⟩, ⟨by repeat (first | (with_reducible first | exact HI0.out | apply IsS80.alloc | apply IsS80.drewN | apply IsS80.drew | apply IsS80.set_1) | exact HI0.out)⟩, ⟨by repeat (first | (with_reducible first | exact HK.out | apply KeepBut.set_ | apply keep_drewN | apply keep_drew | apply keep_alloc) | exact HK.out)⟩, ⟨by repeat (first | (with_reducible first | exact HB.out | apply below_alloc | apply pw_below_drewN | apply below_drew1 | refine below_set ?_ (IsS80.ge HI0.out)) | exact HB.out)⟩⟩
                            · rw [if_neg c42] at H
                              exact absurd H (by simp)
                          · rw [if_neg c39] at H
                            exact absurd H (by simp)
                        · rw [if_neg c38] at H
                          exact absurd H (by simp)
                      · rw [if_neg c36] at H
                        exact absurd H (by simp)
                    · rw [if_neg c35] at H
                      have c35b0 : ((rdOf ByteArray.empty y275 t278).toList == ([109, 97, 100, 101] : List UInt8)) = false := beq_eq_false_iff_ne.mpr c35
                      have c35b1 : ((rdOf ByteArray.empty y275 t278).toList != ([109, 97, 100, 101] : List UInt8)) = true := bne_iff_ne.mpr c35
                      have H' := Aside0.mk H
                      clear H
                      go_wp2
                      go_meet
                      case rel => exact ⟨_, ((rdOf ByteArray.empty y275 t278)), (t279), (by first | rfl | (simp; done) | (simp [*]; done)), H', ⟨by have := HJ9.out; have := HJ24.out; first | omega | exact Nat.le_refl _⟩, ⟨by repeat (first | (with_reducible first | exact HI0.out | apply IsS80.alloc | apply IsS80.drewN | apply IsS80.drew | apply IsS80.set_1) | exact HI0.out)⟩, ⟨by repeat (first | (with_reducible first | exact HK.out | apply KeepBut.set_ | apply keep_drewN | apply keep_drew | apply keep_alloc) | exact HK.out)⟩, ⟨by repeat (first | (with_reducible first | exact HB.out | apply below_alloc | apply pw_below_drewN | apply below_drew1 | refine below_set ?_ (IsS80.ge HI0.out)) | exact HB.out)⟩⟩
      case rest =>
        clear HC5
        try clear c1
        try clear c2
        try clear p2
        try clear q2
        try clear hx2
        try clear c3
        try clear c3b0
        try clear c4
        try clear c4b0
        try clear c11
        try clear c11b0
        try clear c11b1
        try clear c12
        try clear c13
        try clear c13b0
        try clear c13b1
        try clear c13b2
        try clear c16
        try clear c16b0
        try clear c16b1
        try clear c16b2
        try clear c17
        try clear c17b0
        try clear c17b1
        try clear c17b2
        try clear c20
        try clear c20b0
        try clear c20b1
        try clear c20b2
        try clear c21
        try clear c26
        try clear c26b0
        try clear c26b1
        try clear c27
        try clear c27b0
        try clear c27b1
        try clear c28
        try clear p28
        try clear q28
        try clear hx28
        try clear c29
        try clear c29b0
        try clear c29b1
        try clear c29b2
        try clear p29
        try clear q29
        try clear hx29
        try clear c32
        try clear c32b0
        try clear c32b1
        try clear c32b2
        try clear c35
        try clear c35b0
        try clear c35b1
        try clear c36
        try clear c36b0
        try clear c36b1
        try clear c36b2
        try clear c38
        try clear c38b0
        try clear c39
        try clear c39b0
        try clear c42
        try clear c42b0
        try clear c42b1
        try clear c42b2
        try clear c44
        try clear c45
        try clear c46
        try clear hx280_0
        try clear hx295_0
        try clear p2
        try clear p280
        try clear p295
        try clear q2
        try clear q280
        try clear q295
        obtain ⟨kq, x4_4, x1001_4, rfl, HA, HJ4, HI0, HK, HB⟩ := hcut
        cases kq with
        | zero => exact absurd HA.out (by simp [spec_l34Line.j2])
        | succ kj4 =>
          have H := HA.out
          clear HA
          simp only [spec_l34Line.j2] at H
          replace H := Option.bind_eq_some_iff.mp H
          obtain ⟨⟨t301, t302⟩, A500, H⟩ := H
          replace H : (if t301 = 0 then ((spec_l30Bent.f kj4 s0_0 t302 x4_4).bind fun bt303 => (some (bt303.1, bt303.2))) else (some (x4_4, t302))) = some (r1, r2) := H
          have A50 := Aside0.mk A500
          clear A500
          by_cases c51 : t301 = 0
          · rw [if_pos c51] at H
            have c51b0 : (t301 == 0) = true := beq_iff_eq.mpr c51
            have c51b1 : (t301 != 0) = false := bne_eq_false_iff_eq.mpr c51
            clear c51
            replace H := Option.bind_eq_some_iff.mp H
            obtain ⟨⟨t303, t304⟩, A520, H⟩ := H
            replace H : (some (t303, t304)) = some (r1, r2) := H
            have A52 := Aside0.mk A520
            clear A520
            simp only [Option.some.injEq, Prod.mk.injEq] at H
            obtain ⟨rfl, rfl⟩ := H
            go_wp2_with (first | ((with_reducible refine gate_callee (f := 44) rfl ?_); refine goesL_ (some 52) rfl rfl Tryd.func44 (by kernel_rfl) rfl #[.pointer (some ⟨g, 0, none⟩), .int .i64 6] rfl (by (try simp only [List.map_toArray, List.map_cons, List.map_nil]); first | done | rfl | (simp only [List.length_drop, List.length_take]; rfl)) ?_; (with_reducible refine (spec_l30Rd_pick.calls kj4 g s0_0 x1001_4 6 t301 t302 w0 _ ?side1 ?side2 A50.out).mono ?_); (case side1 => repeat (first | (with_reducible first | exact HI0.out | apply IsS80.alloc | apply IsS80.drewN | apply IsS80.drew | apply IsS80.set_1) | exact HI0.out)); (case side2 => repeat (first | (with_reducible first | exact HB.out | apply below_alloc | apply pw_below_drewN | apply below_drew1 | refine below_set ?_ (IsS80.ge HI0.out)) | exact HB.out)); rintro e w53 ⟨rfl, hi, hb, hk⟩; refine ⟨_, rfl, ?_⟩; have n0_ := Aside0.mk (KeepBut.trans (by repeat (first | (with_reducible first | exact HK.out | apply KeepBut.set_ | apply keep_drewN | apply keep_drew | apply keep_alloc) | exact HK.out)) hk (.inl rfl)); have n1_ := Aside0.mk (hb); have n2_ := Aside0.mk (hi); clear HK; clear HB; clear HI0; have HK := n0_; have HB := n1_; have HI0 := n2_; clear n0_ n1_ n2_; (try clear hb); (try clear hb2); (try clear hk); (try clear hi)) | ((with_reducible refine gate_callee (f := 64) rfl ?_); refine goesL_ (some 56) rfl rfl Tryd.func64 (by kernel_rfl) rfl #[.pointer (some ⟨g, 0, none⟩), .string x4_4] rfl (by (try simp only [List.map_toArray, List.map_cons, List.map_nil]); first | done | rfl | (simp only [List.length_drop, List.length_take]; rfl)) ?_; (with_reducible refine (spec_l30Bent.calls kj4 g s0_0 t302 x4_4 t303 t304 w0 _ ?side1 ?side2 A52.out).mono ?_); (case side1 => repeat (first | (with_reducible first | exact HI0.out | apply IsS80.alloc | apply IsS80.drewN | apply IsS80.drew | apply IsS80.set_1) | exact HI0.out)); (case side2 => repeat (first | (with_reducible first | exact HB.out | apply below_alloc | apply pw_below_drewN | apply below_drew1 | refine below_set ?_ (IsS80.ge HI0.out)) | exact HB.out)); rintro e w54 ⟨rfl, hi, hb, hk⟩; refine ⟨_, rfl, ?_⟩; have n0_ := Aside0.mk (KeepBut.trans (by repeat (first | (with_reducible first | exact HK.out | apply KeepBut.set_ | apply keep_drewN | apply keep_drew | apply keep_alloc) | exact HK.out)) hk (.inl rfl)); have n1_ := Aside0.mk (hb); have n2_ := Aside0.mk (hi); clear HK; clear HB; clear HI0; have HK := n0_; have HB := n1_; have HI0 := n2_; clear n0_ n1_ n2_; (try clear hb); (try clear hb2); (try clear hk); (try clear hi)))
            go_ret
            exact ⟨by first | rfl | (simp [errW_none, errW_some] <;> rfl) | (simp [*, errW_none, errW_some] <;> rfl), by repeat (first | (with_reducible first | exact HI0.out | apply IsS80.alloc | apply IsS80.drewN | apply IsS80.drew | apply IsS80.set_1) | exact HI0.out), by repeat (first | (with_reducible first | exact HB.out | apply below_alloc | apply pw_below_drewN | apply below_drew1 | refine below_set ?_ (IsS80.ge HI0.out)) | exact HB.out), by repeat (first | (with_reducible first | exact HK.out | apply KeepBut.set_ | apply keep_drewN | apply keep_drew | apply keep_alloc) | exact HK.out)⟩
          · rw [if_neg c51] at H
            have c51b0 : (t301 == 0) = false := beq_eq_false_iff_ne.mpr c51
            have c51b1 : (t301 != 0) = true := bne_iff_ne.mpr c51
            simp only [Option.some.injEq, Prod.mk.injEq] at H
            obtain ⟨rfl, rfl⟩ := H
            go_wp2_with (first | ((with_reducible refine gate_callee (f := 44) rfl ?_); refine goesL_ (some 52) rfl rfl Tryd.func44 (by kernel_rfl) rfl #[.pointer (some ⟨g, 0, none⟩), .int .i64 6] rfl (by (try simp only [List.map_toArray, List.map_cons, List.map_nil]); first | done | rfl | (simp only [List.length_drop, List.length_take]; rfl)) ?_; (with_reducible refine (spec_l30Rd_pick.calls kj4 g s0_0 x1001_4 6 t301 t302 w0 _ ?side1 ?side2 A50.out).mono ?_); (case side1 => repeat (first | (with_reducible first | exact HI0.out | apply IsS80.alloc | apply IsS80.drewN | apply IsS80.drew | apply IsS80.set_1) | exact HI0.out)); (case side2 => repeat (first | (with_reducible first | exact HB.out | apply below_alloc | apply pw_below_drewN | apply below_drew1 | refine below_set ?_ (IsS80.ge HI0.out)) | exact HB.out)); rintro e w55 ⟨rfl, hi, hb, hk⟩; refine ⟨_, rfl, ?_⟩; have n0_ := Aside0.mk (KeepBut.trans (by repeat (first | (with_reducible first | exact HK.out | apply KeepBut.set_ | apply keep_drewN | apply keep_drew | apply keep_alloc) | exact HK.out)) hk (.inl rfl)); have n1_ := Aside0.mk (hb); have n2_ := Aside0.mk (hi); clear HK; clear HB; clear HI0; have HK := n0_; have HB := n1_; have HI0 := n2_; clear n0_ n1_ n2_; (try clear hb); (try clear hb2); (try clear hk); (try clear hi)))
            go_ret
            exact ⟨by first | rfl | (simp [errW_none, errW_some] <;> rfl) | (simp [*, errW_none, errW_some] <;> rfl), by repeat (first | (with_reducible first | exact HI0.out | apply IsS80.alloc | apply IsS80.drewN | apply IsS80.drew | apply IsS80.set_1) | exact HI0.out), by repeat (first | (with_reducible first | exact HB.out | apply below_alloc | apply pw_below_drewN | apply below_drew1 | refine below_set ?_ (IsS80.ge HI0.out)) | exact HB.out), by repeat (first | (with_reducible first | exact HK.out | apply KeepBut.set_ | apply keep_drewN | apply keep_drew | apply keep_alloc) | exact HK.out)⟩
    · rw [if_neg c4] at H
      exact absurd H (by simp)
  · rw [if_neg c3] at H
    exact absurd H (by simp)

end Go.Proofs.YthnknchacjmmeaaDoor.PFnDskEvent
