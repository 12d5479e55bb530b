/- spec.DskEvent answers 'evSays'. -/
import Derived.Test.YthnknchacjmmeaaDoorHandV
namespace Go.Proofs.YthnknchacjmmeaaDoor
open Go.RowKit Go.Proofs.YthnknchacjmmeaaDoorW.PrintWords Go.Proofs.YthnknchacjmmeaaDoorW.PrintLast Go.Proofs.YthnknchacjmmeaaDoorW.PrintMore
open PFnExactDskEvent
set_option linter.unusedVariables false
set_option linter.unusedSimpArgs false
def ok6 (x : Six) : Six := if x.2.2.2.2.2 then x else none6
def evWords (h : ByteArray) (t : List ByteArray) : Six :=
  if h = wPass then ok6 (rdPass t) else if h = wLost then ok6 (rdLost t) else if h = wBent then ok6 (rdBent t) else if h = wEarlier then ok6 (rdEarlier t) else
  if h = wFall then ok6 (rdFall t) else if h = wRise then ok6 (rdRise t) else if h = wInput then ok6 (rdInput t) else if h = wMade then ok6 (rdMade t) else none6
def evList : List ByteArray → Six
  | [] => none6
  | h :: t => evWords h t
def evSays (s : ByteArray) : Six := if 80 < s.size then none6 else evList (words s)
theorem num_ge (s : ByteArray) (k : Nat) (h : 12 ≤ k) : spec_l5Number.f k s = some (wordNum s) := by
  obtain ⟨j, rfl⟩ : ∃ j, k = j + 12 := ⟨k - 12, by omega⟩
  exact specNumber_ok s j
theorem at_ge (l : List ByteArray) (j k : Nat) (h : 12 ≤ k) : spec_l5At.f k l (j : Int) = some (atOf l j) := by
  obtain ⟨i, rfl⟩ : ∃ i, k = i + 12 := ⟨k - 12, by omega⟩
  exact specAt_ok l j i
theorem neg_or (s : ByteArray) : (wordNum s < 0 ∧ decide (0 ≤ wordNum s) = false) ∨ (¬ wordNum s < 0 ∧ decide (0 ≤ wordNum s) = true) := by
  by_cases h : wordNum s < 0
  · exact .inl ⟨h, decide_eq_false (by omega)⟩
  · exact .inr ⟨h, decide_eq_true (by omega)⟩
theorem two_ok (h : ByteArray) (t : List ByteArray) (k a n v : Int) (bs : List Int) (cnt : Nat) (hc : cnt ≤ 2) (K : Nat) (hK : 30 ≤ K) :
    spec_l20Two.f K (h :: t) k a n v bs (cnt : Int) = some (if isN t cnt then (k, a, n, v, bs, true) else none6) := by
  obtain ⟨j, rfl⟩ : ∃ j, K = j + 1 + 1 + 1 + 12 := ⟨K - 15, by omega⟩
  have ew : wrap64 ((cnt : Int) + 1) = (cnt : Int) + 1 := w64 _ (by omega)
  have e2 : wrap64 2 = 2 := w64 _ (by omega)
  have e3 : wrap64 3 = 3 := w64 _ (by omega)
  unfold spec_l20Two.f
  rw [ew]
  by_cases hl : t.length = cnt
  · rw [if_pos (by rw [List.length_cons]; omega)]
    match cnt, hc, t, hl with
    | 0, _, [], _ =>
      simp [spec_l20Two.l0, isN, numsOk]
    | 1, _, [x], _ =>
      have er : rdOf ByteArray.empty [h, x] 1 = x := rfl
      rcases neg_or x with ⟨h1, h2⟩ | ⟨h1, h2⟩
      · simp [spec_l20Two.l0, isN, numsOk, er, num_ge, h1, h2, none6]
        try omega
      · simp [spec_l20Two.l0, isN, numsOk, er, num_ge, h1, h2, none6, e2]
        try omega
    | 2, _, [x, y], _ =>
      have er : rdOf ByteArray.empty [h, x, y] 1 = x := rfl
      have er2 : rdOf ByteArray.empty [h, x, y] 2 = y := rfl
      rcases neg_or x with ⟨h1, h2⟩ | ⟨h1, h2⟩
      · simp [spec_l20Two.l0, isN, numsOk, er, num_ge, h1, h2, none6]
        try omega
      · rcases neg_or y with ⟨h3, h4⟩ | ⟨h3, h4⟩
        · simp [spec_l20Two.l0, isN, numsOk, er, er2, num_ge, h1, h2, h3, h4, none6, e2]
          try omega
        · simp [spec_l20Two.l0, isN, numsOk, er, er2, num_ge, h1, h2, h3, h4, none6, e2, e3]
          try omega
  · have e : isN t cnt = false := by unfold isN; rw [decide_eq_false hl]; simp
    rw [if_neg (by rw [List.length_cons]; omega), e]
    rfl
theorem toList_eq (h : ByteArray) (l : List UInt8) : (h.toList = l) = (h = ⟨l.toArray⟩) := by
  rw [Lib.toList_data]
  obtain ⟨⟨x⟩⟩ := h
  simp
theorem wordsL_size : ∀ (l : List UInt8) (x : List UInt8), x ∈ wordsL l → x.length ≤ l.length
  | [], x, hx => by simp [wordsL] at hx; simp [hx]
  | b :: l, x, hx => by
    unfold wordsL at hx
    split at hx
    · rcases List.mem_cons.1 hx with rfl | hx
      · simp
      · have := wordsL_size l x hx
        simp; omega
    · obtain ⟨h, t, e⟩ := wordsL_cons l
      rw [e] at hx
      simp only [glue] at hx
      rcases List.mem_cons.1 hx with rfl | hx
      · have := wordsL_size l h (by rw [e]; simp)
        simp; omega
      · have := wordsL_size l x (by rw [e]; simp [hx])
        simp; omega
theorem words_size (s x : ByteArray) (h : x ∈ words s) : x.size ≤ s.size := by
  obtain ⟨y, hy, rfl⟩ := List.mem_map.1 h
  have := wordsL_size _ y hy
  rw [Lib.size_eq s]
  show y.toArray.size ≤ _
  simpa using this
theorem isPass (h : ByteArray) : (h.toList = ([112, 97, 115, 115] : List UInt8)) = (h = wPass) := toList_eq h _
theorem isLost (h : ByteArray) : (h.toList = ([108, 111, 115, 116] : List UInt8)) = (h = wLost) := toList_eq h _
theorem isBent (h : ByteArray) : (h.toList = ([98, 101, 110, 116] : List UInt8)) = (h = wBent) := toList_eq h _
theorem isEarlier (h : ByteArray) : (h.toList = ([101, 97, 114, 108, 105, 101, 114] : List UInt8)) = (h = wEarlier) := toList_eq h _
theorem isFall (h : ByteArray) : (h.toList = ([102, 97, 108, 108] : List UInt8)) = (h = wFall) := toList_eq h _
theorem isRise (h : ByteArray) : (h.toList = ([114, 105, 115, 101] : List UInt8)) = (h = wRise) := toList_eq h _
theorem isInput (h : ByteArray) : (h.toList = ([105, 110, 112, 117, 116] : List UInt8)) = (h = wInput) := toList_eq h _
theorem isMade (h : ByteArray) : (h.toList = ([109, 97, 100, 101] : List UInt8)) = (h = wMade) := toList_eq h _
theorem isN_zero (t : List ByteArray) : isN t 0 = ((t.length : Int) == 0) := by
  cases t with
  | nil => rfl
  | cons a l =>
    have : (((a :: l).length : Int) == 0) = false := by rw [beq_eq_false_iff_ne]; simp; omega
    rw [this]
    simp [isN]
theorem six_eta (x : Six) : (x.1, x.2.1, x.2.2.1, x.2.2.2.1, x.2.2.2.2.1, x.2.2.2.2.2) = x := rfl
theorem specEvent_ok (s : ByteArray) : spec_DskEvent.f 400 s = some (evSays s) := by
  have hw := specWords_ok s 310
  unfold spec_DskEvent.f evSays
  rw [hw, Option.bind_some]
  by_cases h80 : 80 < s.size
  · simp [h80, none6]
  · rw [if_neg h80, if_neg h80]
    obtain ⟨h, t, e⟩ := words_cons s
    have hle := words_le s
    have hsz : ∀ x ∈ words s, x.size ≤ 80 := fun x hx => Nat.le_trans (words_size s x hx) (by omega)
    rw [e] at hle hsz ⊢
    have hl : ¬ (((h :: t).length : Int) = 0) := by simp; omega
    have hp : 0 < ((h :: t).length : Int) := by simp
    rw [if_neg hl, if_pos hp]
    have er : rdOf ByteArray.empty (h :: t) 0 = h := rfl
    have a1 : spec_l5At.f 400 (h :: t) 1 = some (atOf (h :: t) 1) := at_ge (h :: t) 1 400 (by omega)
    have a2 : spec_l5At.f 400 (h :: t) 2 = some (atOf (h :: t) 2) := at_ge (h :: t) 2 400 (by omega)
    have w0 : ∀ k a n v bs, spec_l20Two.f 400 (h :: t) k a n v bs 0 = some (if isN t 0 then (k, a, n, v, bs, true) else none6) := fun k a n v bs => two_ok h t k a n v bs 0 (by omega) 400 (by omega)
    have w1 : ∀ k a n v bs, spec_l20Two.f 400 (h :: t) k a n v bs 1 = some (if isN t 1 then (k, a, n, v, bs, true) else none6) := fun k a n v bs => two_ok h t k a n v bs 1 (by omega) 400 (by omega)
    have w2 : ∀ k a n v bs, spec_l20Two.f 400 (h :: t) k a n v bs 2 = some (if isN t 2 then (k, a, n, v, bs, true) else none6) := fun k a n v bs => two_ok h t k a n v bs 2 (by omega) 400 (by omega)
    simp only [er, isPass, isLost, isBent, isEarlier, isFall, isRise, isInput, isMade, a1, a2, w0, w1, w2, Option.bind_some, six_eta, evList, evWords]
    clear a1 a2 w0 w1 w2 hw er
    by_cases h1 : h = wPass
    · rw [if_pos h1, if_pos h1]
      unfold rdPass ok6
      rw [isN_zero]
      cases ((t.length : Int) == 0) <;> rfl
    rw [if_neg h1, if_neg h1]
    by_cases h1 : h = wLost
    · rw [if_pos h1, if_pos h1]
      unfold rdLost ok6
      rw [isN_zero]
      cases ((t.length : Int) == 0) <;> rfl
    rw [if_neg h1, if_neg h1]
    by_cases h1 : h = wBent
    · rw [if_pos h1, if_pos h1]
      unfold rdBent ok6
      cases hN : isN t 2 with
      | false => rfl
      | true => obtain ⟨a, b, rfl, _, _⟩ := isN_two hN; rfl
    rw [if_neg h1, if_neg h1]
    by_cases h1 : h = wEarlier
    · rw [if_pos h1, if_pos h1]
      unfold rdEarlier ok6
      cases hN : isN t 1 with
      | false => rfl
      | true => obtain ⟨a, rfl, _⟩ := isN_one hN; rfl
    rw [if_neg h1, if_neg h1]
    by_cases h1 : h = wFall
    · rw [if_pos h1, if_pos h1]
      unfold rdFall ok6
      cases hN : isN t 1 with
      | false => rfl
      | true => obtain ⟨a, rfl, _⟩ := isN_one hN; rfl
    rw [if_neg h1, if_neg h1]
    by_cases h1 : h = wRise
    · rw [if_pos h1, if_pos h1]
      unfold rdRise ok6
      cases hN : isN t 1 with
      | false => rfl
      | true => obtain ⟨a, rfl, _⟩ := isN_one hN; rfl
    rw [if_neg h1, if_neg h1]
    by_cases h1 : h = wInput
    · rw [if_pos h1, if_pos h1]
      unfold rdInput ok6
      cases hN : isN t 2 with
      | false => rfl
      | true => obtain ⟨a, b, rfl, _, _⟩ := isN_two hN; rfl
    rw [if_neg h1, if_neg h1]
    by_cases h1 : h = wMade
    · rw [if_pos h1, if_pos h1]
      unfold rdMade ok6
      match t, hsz with
      | [], _ => rfl
      | [x], hsz =>
        have hx : x.size ≤ 80 := hsz x (by simp)
        have er : rdOf ByteArray.empty [h, x] 1 = x := rfl
        have hb : spec_l20AsBytes.f 400 x = some (hexPairs x) := by
          have := specBytes_ok x (370 - x.size)
          rwa [show 370 - x.size + x.size + 30 = 400 by omega] at this
        have g : [x].getD 0 ByteArray.empty = x := rfl
        have c2 : (([h, x].length : Nat) : Int) = 2 := rfl
        have c1 : (1 : Int) < (([h, x].length : Nat) : Int) := by rw [c2]; decide
        have c3 : [x].length = 1 := rfl
        rw [if_pos c2, if_pos c1, er, hb, Option.bind_some, if_pos c3, g]
        cases (hexPairs x).2 <;> rfl
      | x :: y :: l, _ =>
        have c2 : ¬ (((h :: x :: y :: l).length : Nat) : Int) = 2 := by simp; omega
        have c1 : ¬ ((x :: y :: l).length = 1) := by simp
        rw [if_neg c2, if_neg c1]
        rfl
    rw [if_neg h1, if_neg h1]
    rfl
end Go.Proofs.YthnknchacjmmeaaDoor
