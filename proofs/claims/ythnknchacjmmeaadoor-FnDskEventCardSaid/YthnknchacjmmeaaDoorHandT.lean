/- The plain law of the digits to the base 16: the print's functions answer 'hexPairs'. -/
import Derived.Test.YthnknchacjmmeaaDoorHandQ
import Derived.Test.YthnknchacjmmeaaDoorPb
namespace Go.Proofs.YthnknchacjmmeaaDoor
open Go.RowKit Go.Proofs.YthnknchacjmmeaaDoorW.PrintWords Go.Proofs.YthnknchacjmmeaaDoorW.PrintLast Go.Proofs.YthnknchacjmmeaaDoorW.PrintMore
open PFnExactDskEvent
set_option linter.unusedVariables false
set_option linter.unusedSimpArgs false
theorem LeO.add {α : Type} {f : Nat → Option α} (hm : ∀ k, LeO (f k) (f (k + 1))) {k : Nat} {r : α} (h : f k = some r) : ∀ n, f (k + n) = some r
  | 0 => h
  | n + 1 => hm (k + n) r (LeO.add hm h n)
theorem hexDig_range {c d : Int} (h : hexDig c = some d) : 0 ≤ d ∧ d ≤ 15 := by
  unfold hexDig at h
  split at h
  · cases h; omega
  · split at h
    · cases h; omega
    · cases h
def digPair (c : Int) : Int × Bool := match hexDig c with | some d => (d, true) | none => (0, false)
def digInt (c : Int) : Int := match hexDig c with | some d => d | none => -1
theorem implDigit_ok (k : Nat) (c : Int) : impl_dskDigit.f (k + 1) c = some (digPair c) := by
  unfold impl_dskDigit.f digPair hexDig
  simp only [impl_dskDigit.j0]
  by_cases h1 : 48 ≤ c
  · by_cases h2 : c ≤ 57
    · have e : (c - 48) % 256 = c - 48 := by omega
      simp [h1, h2, e]
    · by_cases h3 : 97 ≤ c
      · by_cases h4 : c ≤ 102
        · have e : ((c - 97) % 256 + 10) % 256 = c - 87 := by omega
          simp [h1, h2, h3, h4, e]
        · simp [h1, h2, h3, h4]
      · simp [h1, h2, h3]
  · have h3 : ¬ 97 ≤ c := by omega
    simp [h1, h3]
theorem specDigit_all : ∀ c : Fin 256, spec_l20Digit.f 18 (c.val : Int) = some (digInt (c.val : Int)) := by decide +kernel
theorem specDigit_ok (k : Nat) (c : Int) (h0 : 0 ≤ c) (h1 : c ≤ 255) : spec_l20Digit.f (k + 18) c = some (digInt c) := by
  have h := specDigit_all ⟨c.toNat, by omega⟩
  have e : ((c.toNat : Nat) : Int) = c := by omega
  simp only [e] at h
  have := LeO.add (f := fun k => spec_l20Digit.f k c) (fun k => spec_l20Digit.mono c k) h k
  rw [Nat.add_comm] at this
  exact this
theorem or_nib : ∀ h l : Fin 16, Go.bits .or .u8 (((h.val : Int) * 16) % 256) (l.val : Int) = (h.val : Int) * 16 + (l.val : Int) := by decide +kernel
theorem or_nib' (h l : Int) (h0 : 0 ≤ h ∧ h ≤ 15) (l0 : 0 ≤ l ∧ l ≤ 15) : Go.bits .or .u8 ((h * 16) % 256) l = h * 16 + l := by
  have := or_nib ⟨h.toNat, by omega⟩ ⟨l.toNat, by omega⟩
  have e1 : ((h.toNat : Nat) : Int) = h := by omega
  have e2 : ((l.toNat : Nat) : Int) = l := by omega
  simp only [e1, e2] at this
  exact this
theorem w64 (x : Int) (h : -9223372036854775808 ≤ x ∧ x < 9223372036854775808) : wrap64 x = x := by unfold wrap64; omega
theorem implBytes_loop (s : ByteArray) (hs : s.size ≤ 128) (he : s.size % 2 = 0) : ∀ (b i : Nat) (acc : List Int) (K : Nat), i % 2 = 0 → i ≤ s.size → s.size ≤ i + b → acc.length ≤ i → b + 20 ≤ K → impl_dskBytes.l0 K s acc (i : Int) = some (pairsAt s b i acc)
  | 0, i, acc, K, hi, hle, hb, ha, hK => by
    obtain ⟨k, rfl⟩ : ∃ k, K = k + 1 := ⟨K - 1, by omega⟩
    have : ¬ ((i : Int) < (s.size : Int)) := by omega
    simp only [impl_dskBytes.l0, pairsAt, if_neg this]
  | b + 1, i, acc, K, hi, hle, hb, ha, hK => by
    obtain ⟨k, rfl⟩ : ∃ k, K = k + 2 := ⟨K - 2, by omega⟩
    simp only [pairsAt]
    by_cases hlt : i < s.size
    · have c1 : (i : Int) < (s.size : Int) := by omega
      have c2 : (0 : Int) ≤ (i : Int) := by omega
      have e1 : wrap64 ((i : Int) + 1) = (i : Int) + 1 := w64 _ (by omega)
      have e2 : wrap64 ((i : Int) + 2) = ((i + 2 : Nat) : Int) := by rw [w64 _ (by omega)]; rfl
      have c3 : (0 : Int) ≤ (i : Int) + 1 := by omega
      have c4 : (i : Int) + 1 < (s.size : Int) := by omega
      have c5 : acc.length < 140737488355328 := by omega
      unfold impl_dskBytes.l0
      rw [if_pos hlt, if_pos c1, if_pos c2, implDigit_ok, Option.bind_some, e1, if_pos c3, if_pos c4, implDigit_ok, Option.bind_some]
      unfold digPair
      cases h1 : hexDig (bt s i) with
      | none => simp
      | some x =>
        cases h2 : hexDig (bt s ((i : Int) + 1)) with
        | none => simp
        | some y =>
          simp only [if_true, if_pos c5, or_nib' x y (hexDig_range h1) (hexDig_range h2), e2]
          exact implBytes_loop s hs he b (i + 2) _ (k + 1) (by omega) (by omega) (by omega) (by simp; omega) (by omega)
    · have : ¬ ((i : Int) < (s.size : Int)) := by omega
      unfold impl_dskBytes.l0
      rw [if_neg hlt, if_neg this]
theorem implBytes_ok (s : ByteArray) (k : Nat) : impl_dskBytes.f (k + s.size + 30) s = some (hexPairs s) := by
  obtain ⟨K, hK⟩ : ∃ K, k + s.size + 30 = K + 1 := ⟨k + s.size + 29, by omega⟩
  rw [hK]
  unfold impl_dskBytes.f hexPairs
  by_cases h1 : 128 < s.size
  · rw [if_pos (by omega), if_pos (.inl h1)]
    simp [impl_dskBytes.j0]
  · rw [if_neg (by omega)]
    by_cases h2 : s.size % 2 = 1
    · have e : (((s.size : Int) % 2) != 0) = true := by
        have : (s.size : Int) % 2 = 1 := by omega
        rw [this]; rfl
      rw [e, if_pos (.inr h2)]
      simp [impl_dskBytes.j0]
    · have e : (((s.size : Int) % 2) != 0) = false := by
        have : (s.size : Int) % 2 = 0 := by omega
        rw [this]; rfl
      rw [e, if_neg (by omega)]
      simp only [impl_dskBytes.j0, Bool.false_eq_true, if_false]
      exact implBytes_loop s (by omega) (by omega) s.size 0 [] K rfl (by omega) (by omega) (by simp) (by omega)
theorem specBytes_loop (s : ByteArray) (hs : s.size ≤ 128) (he : s.size % 2 = 0) : ∀ (b i : Nat) (acc : List Int) (K : Nat), i % 2 = 0 → i ≤ s.size → s.size ≤ i + b → acc.length ≤ i → b + 20 ≤ K → spec_l20AsBytes.l0 K s acc (i : Int) = some (pairsAt s b i acc)
  | 0, i, acc, K, hi, hle, hb, ha, hK => by
    obtain ⟨k, rfl⟩ : ∃ k, K = k + 1 := ⟨K - 1, by omega⟩
    have : ¬ ((i : Int) < (s.size : Int)) := by omega
    simp only [spec_l20AsBytes.l0, pairsAt, if_neg this]
  | b + 1, i, acc, K, hi, hle, hb, ha, hK => by
    obtain ⟨k, rfl⟩ : ∃ k, K = (k + 18) + 1 := ⟨K - 19, by omega⟩
    simp only [pairsAt]
    by_cases hlt : i < s.size
    · have c1 : (i : Int) < (s.size : Int) := by omega
      have c2 : (0 : Int) ≤ (i : Int) := by omega
      have e1 : wrap64 ((i : Int) + 1) = (i : Int) + 1 := w64 _ (by omega)
      have e2 : wrap64 ((i : Int) + 2) = ((i + 2 : Nat) : Int) := by rw [w64 _ (by omega)]; rfl
      have c3 : (0 : Int) ≤ (i : Int) + 1 := by omega
      have c4 : (i : Int) + 1 < (s.size : Int) := by omega
      have c5 : acc.length < 140737488355328 := by omega
      have r1 := bt_range s i
      have r2 := bt_range s ((i : Int) + 1)
      unfold spec_l20AsBytes.l0
      rw [if_pos hlt, if_pos c1, if_pos c2, specDigit_ok k _ r1.1 r1.2, Option.bind_some, e1, if_pos c3, if_pos c4, specDigit_ok k _ r2.1 r2.2, Option.bind_some]
      unfold digInt
      cases h1 : hexDig (bt s i) with
      | none => simp
      | some x =>
        have hx := hexDig_range h1
        cases h2 : hexDig (bt s ((i : Int) + 1)) with
        | none => simp
        | some y =>
          have hy := hexDig_range h2
          have e3 : (wrap64 ((wrap64 (x * 16)) + y)) % 256 = x * 16 + y := by rw [w64 (x * 16) (by omega), w64 _ (by omega)]; omega
          simp only [if_neg (show ¬ x < 0 by omega), if_neg (show ¬ y < 0 by omega), if_pos c5, e3, e2]
          exact specBytes_loop s hs he b (i + 2) _ (k + 18) (by omega) (by omega) (by omega) (by simp; omega) (by omega)
    · have : ¬ ((i : Int) < (s.size : Int)) := by omega
      unfold spec_l20AsBytes.l0
      rw [if_neg hlt, if_neg this]
theorem specBytes_ok (s : ByteArray) (k : Nat) : spec_l20AsBytes.f (k + s.size + 30) s = some (hexPairs s) := by
  obtain ⟨K, hK⟩ : ∃ K, k + s.size + 30 = K + 1 := ⟨k + s.size + 29, by omega⟩
  rw [hK]
  unfold spec_l20AsBytes.f hexPairs
  by_cases h2 : s.size % 2 = 1
  · rw [if_pos (by omega), if_pos (.inr h2)]
    simp [spec_l20AsBytes.j0]
  · rw [if_neg (by omega)]
    by_cases h1 : 128 < s.size
    · have e : decide ((s.size : Int) > 128) = true := decide_eq_true (by omega)
      rw [e, if_pos (.inl h1)]
      simp [spec_l20AsBytes.j0]
    · have e : decide ((s.size : Int) > 128) = false := decide_eq_false (by omega)
      rw [e, if_neg (by omega)]
      simp only [spec_l20AsBytes.j0, Bool.false_eq_true, if_false]
      exact specBytes_loop s (by omega) (by omega) s.size 0 [] K rfl (by omega) (by omega) (by simp) (by omega)
theorem rd0 (l : List ByteArray) : rdOf ByteArray.empty l 0 = l.getD 0 ByteArray.empty := rfl
theorem implMade_ok (l : List ByteArray) (k : Nat) : impl_dskMade.f (k + (l.getD 0 ByteArray.empty).size + 30) l = some (rdMade l) := by
  unfold impl_dskMade.f rdMade
  by_cases h : l.length = 1
  · rw [if_pos (by omega), if_pos (by omega), rd0, implBytes_ok, Option.bind_some, if_pos h]
  · rw [if_neg (by omega), if_neg h]
    rfl
theorem dskMade_any (A : Option Addr) (c : Nat) (l : List ByteArray) (w : World) (hr : Kd.C Kd.string w A l.length l) (hc : l.length ≤ c) (hl : l.length ≤ 1000) :
    Calls Tryd.prog 36 #[.slice A l.length c] w fun e w' => EvPost (rdMade l) w e w' := impl_dskMade.calls _ A c l _ _ _ _ _ _ w hr hc (implMade_ok l 0)
end Go.Proofs.YthnknchacjmmeaaDoor
