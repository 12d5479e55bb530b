import Derived.Test.YthnknchacjmmeaaDoorHandA
import Derived.Test.YthnknchacjmmeaaDoorHandB
import Derived.Lib.Hide
namespace Go.Proofs.YthnknchacjmmeaaDoor
open Go.RowKit Go.Proofs.YthnknchacjmmeaaDoorW.PrintWords Go.Proofs.YthnknchacjmmeaaDoorW.PrintLast Go.Proofs.YthnknchacjmmeaaDoorW.PrintMore
set_option linter.unusedVariables false
set_option linter.unusedSimpArgs false
def hexStep (s : ByteArray) (x : Int) : ByteArray := (if x < 16 then s ++ (⟨#[48]⟩ : ByteArray) else s) ++ hexText x
def hexAll (xs : List Int) : ByteArray := xs.foldl hexStep ⟨#[]⟩
theorem hexText_size (u : Int) : (hexText u).size ≤ 2 := by
  unfold hexText
  split <;> (show List.length _ ≤ 2; simp)
theorem hexStep_size (s : ByteArray) (x : Int) : (hexStep s x).size ≤ s.size + 3 := by
  have h := hexText_size x
  have e : (s ++ (⟨#[48]⟩ : ByteArray)).size = s.size + 1 := ByteArray.size_append
  unfold hexStep
  by_cases hx : x < 16
  · rw [if_pos hx, ByteArray.size_append]; omega
  · rw [if_neg hx, ByteArray.size_append]; omega
theorem hexAll_snoc (xs : List Int) (k : Nat) (h : k < xs.length) : hexAll (xs.take (k + 1)) = hexStep (hexAll (xs.take k)) (xs.getD k 0) := by
  unfold hexAll
  rw [List.take_succ_eq_append_getElem h, List.foldl_append]
  simp [List.getD_eq_getElem?_getD, List.getElem?_eq_getElem h]
theorem hexAll_size (xs : List Int) : (hexAll xs).size ≤ 3 * xs.length := by
  have : ∀ (ys : List Int) (s : ByteArray), (ys.foldl hexStep s).size ≤ s.size + 3 * ys.length := by
    intro ys
    induction ys with
    | nil => intro s; simp
    | cons y ys ih =>
      intro s
      have h1 := ih (hexStep s y)
      have h2 := hexStep_size s y
      simp only [List.foldl_cons, List.length_cons]
      omega
  have h := this xs ⟨#[]⟩
  have h0 : (⟨#[]⟩ : ByteArray).size = 0 := rfl
  unfold hexAll
  omega
set_option maxHeartbeats 1000000 in
set_option maxRecDepth 100000 in
theorem dskDigits_any (A : Option Addr) (c : Nat) (xs : List Int) (w : World) (htab : w.cell? ⟨5, 15, none⟩ = some (.int .u8 4)) (hr : ReadsInt w .u8 A xs.length xs) (hx : ∀ j, j < xs.length → 0 ≤ xs.getD j 0 ∧ xs.getD j 0 < 256) (hn : xs.length ≤ 1000000) :
    Calls Tryd.prog 26 #[.slice A xs.length c] w fun e w' => e = .returned (.string (hexAll xs)) ∧ Below w.heap.size w w' := by
  go_enter Tryd.func26, Tryd.ntmps26
  go_wp2
  go_loopw [3, 8] (fun s i wr => ∃ k : Nat, k ≤ xs.length ∧ i = .int .i64 k ∧ s = .string (hexAll (xs.take k)) ∧ Below w.heap.size w wr) (fun _ i _ => xs.length - (intOf i).toNat)
  case atStart => exact ⟨0, Nat.zero_le _, rfl, rfl, Below.refl _ _⟩
  case round =>
    obtain ⟨k, hk, rfl, rfl, hb⟩ := hrel
    by_cases hlt : k < xs.length
    · obtain ⟨ad, rfl, hc⟩ := (hr.below hb).at_ k (by omega) (by omega)
      have hs := hexAll_size (xs.take k)
      have hl : (xs.take k).length ≤ k := List.length_take_le _ _
      have hE := hexAll_snoc xs k hlt
      obtain ⟨hx0, hx1⟩ := hx k hlt
      have hcell : wr.cell? (ad.add k) = some (.int .u8 (xs.getD k 0)) := by simpa [rd] using hc
      have htw := pw_cell_below hb htab
      generalize xs.getD k 0 = x at *
      generalize hexAll (xs.take k) = s at *
      clear hc hr htab
      have HE := Lib.hid hE
      clear hE
      have h2 := hexText_size x
      by_cases hx16 : x < 16
      · have hd := decide_eq_true hx16
        go_wp2_with (go_at_call 53; refine (formatInt_16 _ _ htw hx0 hx1).mono ?_; rintro e w1 ⟨rfl, hb1⟩)
        exact ⟨⟨k + 1, by omega, by go_num, by rw [HE.out]; unfold hexStep; rw [if_pos hx16], hb.trans (hb1.mono hb.size)⟩, by simp [intOf]; omega⟩
      · have hd := decide_eq_false hx16
        go_wp2_with (go_at_call 53; refine (formatInt_16 _ _ htw hx0 hx1).mono ?_; rintro e w1 ⟨rfl, hb1⟩)
        exact ⟨⟨k + 1, by omega, by go_num, by rw [HE.out]; unfold hexStep; rw [if_neg (by omega)], hb.trans (hb1.mono hb.size)⟩, by simp [intOf]; omega⟩
    · go_wp2
      go_ret
      exact ⟨by rw [List.take_of_length_le (by omega)]; rfl, hb⟩
def kindText (k : Int) : ByteArray :=
  if k = 1 then ⟨#[115, 101, 110, 116]⟩ else if k = 2 then ⟨#[102, 117, 108, 108]⟩ else if k = 3 then ⟨#[103, 111, 116]⟩ else if k = 4 then ⟨#[110, 111, 110, 101]⟩ else if k = 5 then ⟨#[98, 121, 116, 101]⟩
  else if k = 6 then ⟨#[113, 117, 105, 101, 116]⟩ else if k = 7 then ⟨#[116, 111, 108, 100]⟩ else if k = 8 then ⟨#[102, 101, 108, 108]⟩ else if k = 9 then ⟨#[115, 116, 111, 112, 112, 101, 100]⟩ else ⟨#[98, 101, 103, 97, 110]⟩
set_option maxHeartbeats 1000000 in
theorem dskKind_any (k : Int) (w : World) :
    Calls Tryd.prog 24 #[.int .i64 k] w fun e w' => e = .returned (.string (kindText k)) ∧ w' = w := by
  have H : ∀ j : Int, (k = j → (k == j) = true) ∧ (k ≠ j → (k == j) = false) := fun j => ⟨fun h => by simpa using h, fun h => by simpa using h⟩
  have HH := Lib.hid H
  clear H
  unfold kindText
  by_cases h1 : k = 1
  · subst h1; go_enter Tryd.func24, Tryd.ntmps24; go_wp2; go_ret; exact ⟨rfl, rfl⟩
  by_cases h2 : k = 2
  · subst h2; go_enter Tryd.func24, Tryd.ntmps24; go_wp2; go_ret; exact ⟨rfl, rfl⟩
  by_cases h3 : k = 3
  · subst h3; go_enter Tryd.func24, Tryd.ntmps24; go_wp2; go_ret; exact ⟨rfl, rfl⟩
  by_cases h4 : k = 4
  · subst h4; go_enter Tryd.func24, Tryd.ntmps24; go_wp2; go_ret; exact ⟨rfl, rfl⟩
  by_cases h5 : k = 5
  · subst h5; go_enter Tryd.func24, Tryd.ntmps24; go_wp2; go_ret; exact ⟨rfl, rfl⟩
  by_cases h6 : k = 6
  · subst h6; go_enter Tryd.func24, Tryd.ntmps24; go_wp2; go_ret; exact ⟨rfl, rfl⟩
  by_cases h7 : k = 7
  · subst h7; go_enter Tryd.func24, Tryd.ntmps24; go_wp2; go_ret; exact ⟨rfl, rfl⟩
  by_cases h8 : k = 8
  · subst h8; go_enter Tryd.func24, Tryd.ntmps24; go_wp2; go_ret; exact ⟨rfl, rfl⟩
  by_cases h9 : k = 9
  · subst h9; go_enter Tryd.func24, Tryd.ntmps24; go_wp2; go_ret; exact ⟨rfl, rfl⟩
  rw [if_neg h1, if_neg h2, if_neg h3, if_neg h4, if_neg h5, if_neg h6, if_neg h7, if_neg h8, if_neg h9]
  have q1 := (HH.out 1).2 h1
  have q2 := (HH.out 2).2 h2
  have q3 := (HH.out 3).2 h3
  have q4 := (HH.out 4).2 h4
  have q5 := (HH.out 5).2 h5
  have q6 := (HH.out 6).2 h6
  have q7 := (HH.out 7).2 h7
  have q8 := (HH.out 8).2 h8
  have q9 := (HH.out 9).2 h9
  clear h1 h2 h3 h4 h5 h6 h7 h8 h9
  go_enter Tryd.func24, Tryd.ntmps24
  go_wp2
  go_ret
  exact ⟨rfl, rfl⟩
end Go.Proofs.YthnknchacjmmeaaDoor
