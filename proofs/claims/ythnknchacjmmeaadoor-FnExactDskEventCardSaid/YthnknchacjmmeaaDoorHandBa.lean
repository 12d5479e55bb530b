/- The plain laws of laws.eqWldEvent, markWldEvent, heldWldEvent; how long an event's bytes are. -/
import Derived.Test.YthnknchacjmmeaaDoorHandY
import Derived.Test.YthnknchacjmmeaaDoorPc
namespace Go.Proofs.YthnknchacjmmeaaDoor
open Go.RowKit Go.Proofs.YthnknchacjmmeaaDoorW.PrintWords Go.Proofs.YthnknchacjmmeaaDoorW.PrintLast Go.Proofs.YthnknchacjmmeaaDoorW.PrintMore
open PFnExactDskEvent
set_option linter.unusedVariables false
set_option linter.unusedSimpArgs false
theorem evEqB_from (l : List Int) (hl : l.length ≤ 1048576) (d : Nat) : ∀ (k : Nat) (i : Nat), i ≤ l.length → l.length - i = d → d < k → laws_eqByteS.l0 k l l i = some true := by
  induction d with
  | zero =>
    intro k i hi hd hk
    obtain ⟨k, rfl⟩ : ∃ m, k = m + 1 := ⟨k - 1, by omega⟩
    simp only [laws_eqByteS.l0]
    rw [if_neg (by omega)]
  | succ d ih =>
    intro k i hi hd hk
    obtain ⟨k, rfl⟩ : ∃ m, k = m + 1 := ⟨k - 1, by omega⟩
    simp only [laws_eqByteS.l0]
    rw [if_pos (by omega), if_pos (by omega), if_pos (by omega)]
    simp only [if_true]
    have e : wrap64 ((i : Int) + 1) = ((i + 1 : Nat) : Int) := by unfold wrap64; omega
    rw [e]
    exact ih k (i + 1) (by omega) (by omega) (by omega)
theorem evEq_ok (k a n v : Int) (l : List Int) (h : l.length ≤ 1000) : laws_eqWldEvent.f (l.length + 1) k a n v l k a n v l = some true := by
  unfold laws_eqWldEvent.f laws_eqByteS.f
  rw [if_pos rfl, if_pos rfl, if_pos rfl, if_pos rfl, if_pos rfl]
  have := evEqB_from l (by omega) l.length (l.length + 1) 0 (by omega) (by omega) (by omega)
  rw [show ((0 : Nat) : Int) = 0 from rfl] at this
  rw [this]
  rfl
def mkAt : Nat → List Int → Nat → List Int
  | 0, xs, _ => xs
  | b + 1, xs, i => mkAt b (xs.set i ((1 + (i : Int)) % 256)) (i + 1)
theorem mkAt_len : ∀ (b : Nat) (xs : List Int) (i : Nat), (mkAt b xs i).length = xs.length
  | 0, _, _ => rfl
  | b + 1, xs, i => by simp only [mkAt]; rw [mkAt_len b]; simp
theorem mkAt_get : ∀ (b : Nat) (xs : List Int) (i j : Nat), j < xs.length → (mkAt b xs i)[j]? = if i ≤ j ∧ j < i + b then some ((1 + (j : Int)) % 256) else xs[j]?
  | 0, xs, i, j, hj => by simp only [mkAt]; rw [if_neg (by omega)]
  | b + 1, xs, i, j, hj => by
    simp only [mkAt]
    rw [mkAt_get b _ (i + 1) j (by simpa using hj)]
    by_cases h1 : i + 1 ≤ j ∧ j < i + 1 + b
    · rw [if_pos h1, if_pos (by omega)]
    · rw [if_neg h1]
      by_cases h2 : i = j
      · subst h2
        rw [if_pos (by omega), List.getElem?_set_self (by omega)]
      · rw [List.getElem?_set_ne h2, if_neg (by omega)]
theorem mark_loop : ∀ (b : Nat) (xs : List Int) (i K : Nat), xs.length = i + b → xs.length ≤ 1000 → b + 1 ≤ K → laws_markByteS.l0 K xs (1 + (i : Int)) (i : Int) = some (1 + (xs.length : Int), mkAt b xs i)
  | 0, xs, i, K, hl, h3, hK => by
    obtain ⟨k, rfl⟩ : ∃ k, K = k + 1 := ⟨K - 1, by omega⟩
    simp only [laws_markByteS.l0, mkAt]
    rw [if_neg (by omega)]
    have : (i : Int) = xs.length := by omega
    rw [this]
  | b + 1, xs, i, K, hl, h3, hK => by
    obtain ⟨k, rfl⟩ : ∃ k, K = k + 1 := ⟨K - 1, by omega⟩
    simp only [laws_markByteS.l0, mkAt]
    rw [if_pos (by omega), if_pos (by omega)]
    have e1 : wrap64 (1 + (i : Int) + 1) = 1 + ((i + 1 : Nat) : Int) := by rw [w64 _ (by omega)]; omega
    have e2 : wrap64 ((i : Int) + 1) = ((i + 1 : Nat) : Int) := by rw [w64 _ (by omega)]; rfl
    rw [e1, e2, Int.toNat_natCast]
    have := mark_loop b (xs.set i ((1 + (i : Int)) % 256)) (i + 1) k (by simp; omega) (by simpa using h3) (by omega)
    rw [this]
    simp
def marks (xs : List Int) : List Int := mkAt xs.length xs 0
theorem marks_len (xs : List Int) : (marks xs).length = xs.length := mkAt_len _ _ _
theorem marks_get (xs : List Int) (j : Nat) (h : j < xs.length) : rd (marks xs) (j : Int) = (1 + (j : Int)) % 256 := by
  have := mkAt_get xs.length xs 0 j h
  rw [if_pos (by omega)] at this
  unfold marks
  simp [rd, List.getD_eq_getElem?_getD, this]
theorem evMark_ok (k a n v : Int) (xs : List Int) (h : xs.length ≤ 1000) : laws_markWldEvent.f (xs.length + 1) k a n v xs 1 = some (1 + (xs.length : Int), marks xs) := by
  have := mark_loop xs.length xs 0 (xs.length + 1) (by omega) h (by omega)
  unfold laws_markWldEvent.f laws_markByteS.f
  have e : laws_markByteS.l0 (xs.length + 1) xs 1 0 = some (1 + (xs.length : Int), mkAt xs.length xs 0) := this
  rw [e]
  rfl
theorem held_loop (ys : List Int) (h : ys.length ≤ 1000) (hg : ∀ j : Nat, j < ys.length → rd ys (j : Int) = (1 + (j : Int)) % 256) : ∀ (b i K : Nat), ys.length = i + b → b + 1 ≤ K → laws_heldByteS.l0 K ys (1 + (i : Int)) (i : Int) = some (1 + (ys.length : Int))
  | 0, i, K, hl, hK => by
    obtain ⟨k, rfl⟩ : ∃ k, K = k + 1 := ⟨K - 1, by omega⟩
    simp only [laws_heldByteS.l0]
    rw [if_neg (by omega)]
    have : (i : Int) = ys.length := by omega
    rw [this]
  | b + 1, i, K, hl, hK => by
    obtain ⟨k, rfl⟩ : ∃ k, K = k + 1 := ⟨K - 1, by omega⟩
    simp only [laws_heldByteS.l0]
    have e1 : wrap64 (1 + (i : Int) + 1) = 1 + ((i + 1 : Nat) : Int) := by rw [w64 _ (by omega)]; omega
    have e2 : wrap64 ((i : Int) + 1) = ((i + 1 : Nat) : Int) := by rw [w64 _ (by omega)]; rfl
    rw [if_pos (by omega), if_pos (by omega), if_pos (hg i (by omega)), e1, e2]
    exact held_loop ys h hg b (i + 1) k (by omega) (by omega)
theorem evHeld_ok (k a n v : Int) (xs : List Int) (h : xs.length ≤ 1000) : laws_heldWldEvent.f (xs.length + 1) k a n v (marks xs) 1 = some (1 + (xs.length : Int)) := by
  have := held_loop (marks xs) (by rw [marks_len]; exact h) (fun j hj => marks_get xs j (by rwa [marks_len] at hj)) xs.length 0 (xs.length + 1) (by rw [marks_len]; omega) (by omega)
  unfold laws_heldWldEvent.f laws_heldByteS.f
  have e : laws_heldByteS.l0 (xs.length + 1) (marks xs) 1 0 = some (1 + (xs.length : Int)) := by rw [marks_len] at this; exact this
  rw [e, Option.bind_some, if_neg (by omega)]
theorem pairsAt_len (s : ByteArray) : ∀ (b i : Nat) (acc : List Int), (pairsAt s b i acc).1.length ≤ acc.length + b
  | 0, _, _ => Nat.le_refl _
  | b + 1, i, acc => by
    simp only [pairsAt]
    split
    · split
      · refine Nat.le_trans (pairsAt_len s b (i + 2) _) ?_
        simp; omega
      · simp
    · simp
theorem hexPairs_len (s : ByteArray) : (hexPairs s).1.length ≤ 128 := by
  unfold hexPairs
  split
  · simp
  · rename_i h
    have := pairsAt_len s s.size 0 []
    simp at this
    omega
theorem ok6_len (x : Six) (h : x.2.2.2.2.1.length ≤ 1000) : (ok6 x).2.2.2.2.1.length ≤ 1000 := by
  unfold ok6
  split
  · exact h
  · simp [none6]
theorem evSays_len (s : ByteArray) : (evSays s).2.2.2.2.1.length ≤ 1000 := by
  have h0 : none6.2.2.2.2.1.length ≤ 1000 := by simp [none6]
  unfold evSays
  split
  · exact h0
  · obtain ⟨h, t, e⟩ := words_cons s
    rw [e]
    simp only [evList, evWords]
    have hm : (rdMade t).2.2.2.2.1.length ≤ 1000 := by
      unfold rdMade
      split
      · exact Nat.le_trans (hexPairs_len _) (by omega)
      · exact h0
    have a1 : (rdPass t).2.2.2.2.1.length ≤ 1000 := by simp [rdPass]
    have a2 : (rdLost t).2.2.2.2.1.length ≤ 1000 := by simp [rdLost]
    have a3 : (rdBent t).2.2.2.2.1.length ≤ 1000 := by unfold rdBent; split <;> simp [none6]
    have a4 : (rdEarlier t).2.2.2.2.1.length ≤ 1000 := by unfold rdEarlier; split <;> simp [none6]
    have a5 : (rdFall t).2.2.2.2.1.length ≤ 1000 := by unfold rdFall; split <;> simp [none6]
    have a6 : (rdRise t).2.2.2.2.1.length ≤ 1000 := by unfold rdRise; split <;> simp [none6]
    have a7 : (rdInput t).2.2.2.2.1.length ≤ 1000 := by unfold rdInput; split <;> simp [none6]
    repeat' split
    all_goals first | exact ok6_len _ a1 | exact ok6_len _ a2 | exact ok6_len _ a3 | exact ok6_len _ a4 | exact ok6_len _ a5 | exact ok6_len _ a6 | exact ok6_len _ a7 | exact ok6_len _ hm | exact h0
end Go.Proofs.YthnknchacjmmeaaDoor
