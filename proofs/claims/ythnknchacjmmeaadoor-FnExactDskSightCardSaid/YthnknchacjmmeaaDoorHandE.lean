import Derived.Test.YthnknchacjmmeaaDoorHandD
import Derived.Test.YthnknchacjmmeaaDoorPa
namespace Go.Proofs.YthnknchacjmmeaaDoor
open Go.RowKit Go.Proofs.YthnknchacjmmeaaDoorW.PrintWords Go.Proofs.YthnknchacjmmeaaDoorW.PrintLast Go.Proofs.YthnknchacjmmeaaDoorW.PrintMore
open PFnExactDskSight
set_option linter.unusedVariables false
set_option linter.unusedSimpArgs false
theorem sz_ok (k wy : Int) (l : List Int) (h : l.length ≤ 1048576) : laws_szCelSight.f k wy l 1048576 = some (1048576 - (l.length : Int)) := by
  have e : wrap64 (1048576 - (l.length : Int)) = 1048576 - (l.length : Int) := by unfold wrap64; omega
  unfold laws_szCelSight.f laws_szByteS.f
  rw [e, if_neg (by omega)]
  simp only [Option.bind_some]
  rw [if_neg (by omega)]
theorem toByteS_from (l : List Int) (hl : l.length ≤ 1048576) (d : Nat) : ∀ (k : Nat) (i : Nat) (o : List Int), i ≤ l.length → o.length = l.length → l.length - i = d → d < k → o.take i = l.take i →
    laws_toByteS.l0 k l o i = some l := by
  induction d with
  | zero =>
    intro k i o hi ho hd hk ht
    obtain ⟨k, rfl⟩ : ∃ m, k = m + 1 := ⟨k - 1, by omega⟩
    simp only [laws_toByteS.l0]
    rw [if_neg (by omega)]
    rw [List.take_of_length_le (by omega), List.take_of_length_le (by omega)] at ht
    rw [ht]
  | succ d ih =>
    intro k i o hi ho hd hk ht
    obtain ⟨k, rfl⟩ : ∃ m, k = m + 1 := ⟨k - 1, by omega⟩
    simp only [laws_toByteS.l0]
    rw [if_pos (by omega), if_pos (by omega), if_pos (by omega)]
    have e : wrap64 ((i : Int) + 1) = ((i + 1 : Nat) : Int) := by unfold wrap64; omega
    rw [e]
    refine ih k (i + 1) _ (by omega) (by rw [List.length_set]; exact ho) (by omega) (by omega) ?_
    rw [Int.toNat_natCast, List.take_succ_eq_append_getElem (by rw [List.length_set]; omega), List.take_succ_eq_append_getElem (by omega), List.take_set_of_le (by omega), ht]
    simp [rd, List.getD_eq_getElem?_getD, List.getElem?_eq_getElem (show i < l.length by omega)]
theorem to_ok (k wy : Int) (l : List Int) (h : l.length ≤ 1048576) : laws_toCelSight.f (l.length + 1) k wy l = some (k, wy, l) := by
  unfold laws_toCelSight.f laws_toByteS.f
  rw [if_pos (by omega), if_pos (by simp; omega)]
  have := toByteS_from l h l.length (l.length + 1) 0 (List.replicate ((l.length : Int) : Int).toNat 0) (by omega) (by simp) (by omega) (by omega) (by simp)
  rw [show ((0 : Nat) : Int) = 0 from rfl] at this
  rw [this]
  rfl
theorem eqByteS_from (l : List Int) (hl : l.length ≤ 1048576) (d : Nat) : ∀ (k : Nat) (i : Nat), i ≤ l.length → l.length - i = d → d < k → laws_eqByteS.l0 k l l i = some true := by
  induction d with
  | zero =>
    intro k i hi hd hk
    obtain ⟨k, rfl⟩ : ∃ m, k = m + 1 := ⟨k - 1, by omega⟩
    simp only [laws_eqByteS.l0]
    rw [if_neg (by omega)]
  | succ d ih =>
    intro k i hi hd hk
    obtain ⟨k, rfl⟩ : ∃ m, k = m + 1 := ⟨k - 1, by omega⟩
    simp only [laws_eqByteS.l0]
    rw [if_pos (by omega), if_pos (by omega), if_pos (by omega)]
    simp only [if_true]
    have e : wrap64 ((i : Int) + 1) = ((i + 1 : Nat) : Int) := by unfold wrap64; omega
    rw [e]
    exact ih k (i + 1) (by omega) (by omega) (by omega)
theorem eq_ok (k wy : Int) (l : List Int) (h : l.length ≤ 1048576) : laws_eqCelSight.f (l.length + 1) k wy l k wy l = some true := by
  unfold laws_eqCelSight.f laws_eqByteS.f
  rw [if_pos rfl, if_pos rfl, if_pos rfl]
  have := eqByteS_from l h l.length (l.length + 1) 0 (by omega) (by omega) (by omega)
  rw [show ((0 : Nat) : Int) = 0 from rfl] at this
  rw [this]
  rfl
theorem specOk (k wy : Int) (l : List Int) : spec_CelSightOk.f k wy l = some (okv k wy l.length) := by
  unfold spec_CelSightOk.f spec_l1In.f spec_BytMessage.f
  by_cases h1 : 1 ≤ k
  · rw [if_pos (by omega)]
    simp only [Option.bind_some]
    by_cases h2 : k ≤ 10
    · rw [if_pos (by simpa using h2)]
      by_cases h3 : 0 ≤ wy
      · rw [if_pos (by omega)]
        simp only [Option.bind_some]
        by_cases h4 : wy ≤ 9
        · rw [if_pos (by simpa using h4)]
          by_cases h5 : l.length ≤ 8
          · rw [if_pos (by simp; omega)]
            by_cases h6 : k ≤ 4
            · rw [if_pos h6, okv_true (by omega)]
            · rw [if_neg h6]
              by_cases h7 : wy = 0
              · rw [okv_true (by omega)]; simp [h7]
              · rw [okv_false (by omega) (by omega)]; simp [h7]
          · rw [if_neg (by simp; omega), okv_false (by omega) (by omega)]
        · rw [if_neg (by simpa using h4), okv_false (by omega) (by omega)]
      · rw [if_neg (by omega)]
        simp only [Option.bind_some]
        rw [if_neg (by simp), okv_false (by omega) (by omega)]
    · rw [if_neg (by simpa using h2), okv_false (by omega) (by omega)]
  · rw [if_neg (by omega)]
    simp only [Option.bind_some]
    rw [if_neg (by simp), okv_false (by omega) (by omega)]
theorem digits_ok : ∀ n : Fin 10, spec_l5Digits.f 3 (n.val : Int) = some (⟨(Lib.decDigits n.val).toArray⟩ : ByteArray) := by decide +kernel
def hex16 : ByteArray := ⟨#[48, 49, 50, 51, 52, 53, 54, 55, 56, 57, 97, 98, 99, 100, 101, 102]⟩
theorem hexByte : ∀ n : Fin 256, (if (n.val : Int) < 16 then (⟨#[48]⟩ : ByteArray) else ⟨#[]⟩) ++ hexText (n.val : Int) = strOfNums [bt hex16 ((n.val : Int) / 16), bt hex16 ((n.val : Int) % 16)] := by decide +kernel
theorem hexStep_eq (s : ByteArray) (x : Int) (h0 : 0 ≤ x) (h1 : x < 256) : hexStep s x = s ++ strOfNums [bt hex16 (x / 16), bt hex16 (x % 16)] := by
  have h := hexByte ⟨x.toNat, by omega⟩
  simp only [Int.toNat_of_nonneg h0] at h
  rw [← h]
  unfold hexStep
  by_cases hx : x < 16
  · rw [if_pos hx, if_pos hx, ByteArray.append_assoc]
  · rw [if_neg hx, if_neg hx]
    have e : ∀ b : ByteArray, (⟨#[]⟩ : ByteArray) ++ b = b := fun b => by
      apply ByteArray.ext
      simp
    rw [e]
theorem size16 : hex16.size = 16 := rfl
theorem sz2 (a b : Int) : (strOfNums [a, b]).size = 2 := rfl
theorem l20_round (k : Nat) (l : List Int) (s : ByteArray) (i : Nat) (x : Int) (hex : rd l i = x) (x0 : 0 ≤ x) (x1 : x < 256) (hi : (i : Int) < (l.length : Int)) (e5 : wrap64 ((i : Int) + 1) = ((i + 1 : Nat) : Int)) (hs : ∀ b : ByteArray, b.size = 2 → s.size + b.size ≤ 9223372036854775807) :
    spec_l20Bytes.l0 (k + 1) l s i = spec_l20Bytes.l0 k l (s ++ strOfNums [bt hex16 (x / 16), bt hex16 (x % 16)]) ((i + 1 : Nat) : Int) := by
  have e1 : wrap64 x = x := by unfold wrap64; omega
  have e2 : Int.tdiv x 16 = x / 16 := Int.tdiv_eq_ediv_of_nonneg x0
  have e3 : Int.tmod x 16 = x % 16 := Int.tmod_eq_emod_of_nonneg x0
  have e4 : wrap64 (x / 16) = x / 16 := by unfold wrap64; omega
  have g1 : (0 : Int) ≤ x / 16 := by omega
  have g2 : x / 16 < 16 := by omega
  have g3 : (0 : Int) ≤ x % 16 := by omega
  have g4 : x % 16 < 16 := by omega
  have f16 : spec_l20Hex.f = some hex16 := rfl
  have s16 : ((hex16.size : Nat) : Int) = 16 := by rw [size16]; rfl
  simp only [spec_l20Bytes.l0]
  rw [if_pos hi, hex, e1, e2, e3, e4, e5, f16]
  simp only [Option.bind_some]
  rw [s16, if_pos (Int.natCast_nonneg i), if_pos g1, if_pos g2, if_pos g3, if_pos g4, if_pos (hs _ (sz2 _ _))]
theorem l20Bytes_from (l : List Int) (hl : l.length ≤ 1048576) (hx : ∀ j, j < l.length → 0 ≤ l.getD j 0 ∧ l.getD j 0 < 256) (d : Nat) : ∀ (k : Nat) (i : Nat), i ≤ l.length → l.length - i = d → d < k →
    spec_l20Bytes.l0 k l (hexAll (l.take i)) i = some (hexAll l) := by
  induction d with
  | zero =>
    intro k i hi hd hk
    obtain ⟨k, rfl⟩ : ∃ m, k = m + 1 := ⟨k - 1, by omega⟩
    simp only [spec_l20Bytes.l0]
    rw [if_neg (by omega), List.take_of_length_le (by omega)]
  | succ d ih =>
    intro k i hi hd hk
    obtain ⟨k, rfl⟩ : ∃ m, k = m + 1 := ⟨k - 1, by omega⟩
    obtain ⟨x0, x1⟩ := hx i (by omega)
    have ex : rd l (i : Int) = l.getD i 0 := by simp [rd]
    have hs := hexAll_snoc l i (by omega)
    rw [hexStep_eq _ _ x0 x1] at hs
    have e5 : wrap64 ((i : Int) + 1) = ((i + 1 : Nat) : Int) := by unfold wrap64; omega
    have hz := hexAll_size (l.take i)
    have hlt : (l.take i).length ≤ i := List.length_take_le _ _
    have h3 : ∀ b : ByteArray, b.size = 2 → (hexAll (l.take i)).size + b.size ≤ 9223372036854775807 := by
      intro b hb
      rw [hb]
      generalize (hexAll (l.take i)).size = n at hz ⊢
      clear hs ih ex e5 hx
      omega
    rw [l20_round k l _ i _ ex x0 x1 (by omega) e5 h3, ← hs]
    exact ih k (i + 1) (by omega) (by omega) (by omega)
theorem l20Bytes_ok (l : List Int) (hl : l.length ≤ 1048576) (hx : ∀ j, j < l.length → 0 ≤ l.getD j 0 ∧ l.getD j 0 < 256) : spec_l20Bytes.f (l.length + 1) l = some (hexAll l) :=
  l20Bytes_from l hl hx l.length (l.length + 1) 0 (by omega) (by omega) (by omega)
end Go.Proofs.YthnknchacjmmeaaDoor
