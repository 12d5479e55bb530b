/- The plain law of a line's words and numbers: the print's functions answer 'words' and 'wordNum'. -/
import Derived.Test.YthnknchacjmmeaaDoorHandT
namespace Go.Proofs.YthnknchacjmmeaaDoor
open Go.RowKit Go.Proofs.YthnknchacjmmeaaDoorW.PrintWords Go.Proofs.YthnknchacjmmeaaDoorW.PrintLast Go.Proofs.YthnknchacjmmeaaDoorW.PrintMore
open PFnExactDskEvent
set_option linter.unusedVariables false
set_option linter.unusedSimpArgs false
theorem num_loop (s : ByteArray) (hs : s.size ≤ 10) : ∀ (b i : Nat) (n : Int) (K : Nat), i + b = s.size → 0 ≤ n → n < ten i → b + 1 ≤ K → spec_l5Number.l0 K s n (i : Int) = some (numAt s b i n)
  | 0, i, n, K, hb, h0, h1, hK => by
    obtain ⟨k, rfl⟩ : ∃ k, K = k + 1 := ⟨K - 1, by omega⟩
    have : ¬ ((i : Int) < (s.size : Int)) := by omega
    simp only [spec_l5Number.l0, numAt, if_neg this]
  | b + 1, i, n, K, hb, h0, h1, hK => by
    obtain ⟨k, rfl⟩ : ∃ k, K = k + 1 := ⟨K - 1, by omega⟩
    have c1 : (i : Int) < (s.size : Int) := by omega
    have c2 : (0 : Int) ≤ (i : Int) := by omega
    have hr := bt_range s i
    have ht := ten_le i (by omega)
    simp only [spec_l5Number.l0, numAt, if_pos c1, if_pos c2]
    by_cases h2 : bt s i < 48
    · rw [if_pos h2, if_neg (by omega)]
    · by_cases h3 : bt s i > 57
      · rw [if_neg h2, if_pos h3, if_neg (by omega)]
      · have e1 : wrap64 ((wrap64 (n * 10)) + ((bt s i - 48) % 256)) = n * 10 + (bt s i - 48) := by rw [w64 (n * 10) (by omega), w64 _ (by omega)]; omega
        have e2 : wrap64 ((i : Int) + 1) = ((i + 1 : Nat) : Int) := by rw [w64 _ (by omega)]; rfl
        rw [if_neg h2, if_neg h3, if_pos (by omega), e1, e2]
        exact num_loop s hs b (i + 1) _ k (by omega) (by omega) (by show _ < 10 * ten i; omega) (by omega)
theorem specNumber_ok (s : ByteArray) (k : Nat) : spec_l5Number.f (k + 12) s = some (wordNum s) := by
  unfold spec_l5Number.f wordNum
  by_cases h0 : s.size = 0
  · rw [if_pos (by omega), if_pos (.inl h0)]
    simp [spec_l5Number.j0]
  · rw [if_neg (by omega)]
    by_cases h1 : 10 < s.size
    · rw [if_pos (by omega), if_pos (.inr (.inl h1))]
      simp [spec_l5Number.j0]
    · rw [if_neg (by omega)]
      have hl : spec_l5Number.l0 (k + 11) s 0 0 = some (numAt s s.size 0 0) := num_loop s (by omega) s.size 0 0 (k + 11) (by omega) (by omega) (by decide) (by omega)
      by_cases h2 : 1 < s.size
      · rw [if_pos (by omega), if_pos (by omega)]
        by_cases h3 : bt s 0 = 48
        · rw [if_pos (.inr (.inr ⟨h3, h2⟩)), h3]
          simp [spec_l5Number.j0]
        · have e : (bt s 0 == 48) = false := by rw [beq_eq_false_iff_ne]; exact h3
          rw [e, if_neg (by omega)]
          simp only [spec_l5Number.j0, Bool.false_eq_true, if_false]
          exact hl
      · rw [if_neg (by omega), if_neg (by omega)]
        simp only [spec_l5Number.j0, Bool.false_eq_true, if_false]
        exact hl
def atOf (l : List ByteArray) (j : Nat) : Int := if l.length ≤ j then 0 else wordNum (l.getD j ByteArray.empty)
theorem specAt_ok (l : List ByteArray) (j : Nat) (k : Nat) : spec_l5At.f (k + 12) l (j : Int) = some (atOf l j) := by
  unfold spec_l5At.f atOf
  by_cases h : l.length ≤ j
  · rw [if_pos (by omega), if_pos h]
  · rw [if_neg (by omega), if_pos (by omega), if_pos (by omega), specNumber_ok, if_neg h]
    rfl
theorem glue_glue (a b : List UInt8) (l : List (List UInt8)) : glue a (glue b l) = glue (a ++ b) l := by
  cases l <;> simp [glue]
theorem glue_nil (l : List UInt8) : glue [] (wordsL l) = wordsL l := by
  obtain ⟨h, t, e⟩ := wordsL_cons l
  rw [e]
  rfl
def asW (l : List (List UInt8)) : List ByteArray := l.map fun x => ⟨x.toArray⟩
theorem bt_data (s : ByteArray) (i : Nat) (h : i < s.size) : bt s i = ((s.data.toList.getD i 0).toNat : Int) := by
  have hlen : i < s.data.toList.length := by rw [← Lib.size_eq]; exact h
  unfold bt
  rw [dif_pos (by simpa using h), List.getD_eq_getElem?_getD, List.getElem?_eq_getElem hlen]
  simp
  rfl
theorem strOf_u (u : UInt8) : strOfNums [(u.toNat : Int)] = ⟨[u].toArray⟩ := by
  unfold strOfNums
  simp
theorem cat_bytes (a b : List UInt8) : (⟨a.toArray⟩ : ByteArray) ++ ⟨b.toArray⟩ = ⟨(a ++ b).toArray⟩ := by
  apply ByteArray.ext
  rw [ByteArray.data_append]
  simp
theorem words_loop (s : ByteArray) (hs : s.size ≤ 80) : ∀ (b i : Nat) (out : List ByteArray) (wd : List UInt8) (K : Nat), i + b = s.size → out.length ≤ i → wd.length ≤ i → b + 1 ≤ K →
    spec_l5Words.l0 K s out ⟨wd.toArray⟩ (i : Int) = some (out ++ asW (glue wd (wordsL (s.data.toList.drop i))))
  | 0, i, out, wd, K, hb, ho, hw, hK => by
    obtain ⟨k, rfl⟩ : ∃ k, K = k + 1 := ⟨K - 1, by omega⟩
    have h1 : ¬ ((i : Int) < (s.size : Int)) := by omega
    have h2 : out.length < 8796093022208 := by omega
    have h3 : s.data.toList.drop i = [] := List.drop_eq_nil_of_le (by rw [← Lib.size_eq]; omega)
    simp only [spec_l5Words.l0, if_neg h1, if_pos h2, h3]
    simp [wordsL, glue, asW]
  | b + 1, i, out, wd, K, hb, ho, hw, hK => by
    obtain ⟨k, rfl⟩ : ∃ k, K = k + 1 := ⟨K - 1, by omega⟩
    have c1 : (i : Int) < (s.size : Int) := by omega
    have c2 : (0 : Int) ≤ (i : Int) := by omega
    have c3 : out.length < 8796093022208 := by omega
    have hlen : i < s.data.toList.length := by rw [← Lib.size_eq]; omega
    have hd : s.data.toList.drop i = s.data.toList.getD i 0 :: s.data.toList.drop (i + 1) := by
      rw [List.drop_eq_getElem_cons hlen, List.getD_eq_getElem?_getD, List.getElem?_eq_getElem hlen]
      rfl
    have hbt : bt s i = ((s.data.toList.getD i 0).toNat : Int) := bt_data s i (by omega)
    have e2 : wrap64 ((i : Int) + 1) = ((i + 1 : Nat) : Int) := by rw [w64 _ (by omega)]; rfl
    simp only [spec_l5Words.l0, if_pos c1, if_pos c2, if_pos c3, e2, Option.bind_some]
    rw [hd]
    generalize s.data.toList.getD i 0 = u at *
    unfold wordsL
    by_cases h : u = 32
    · have hb32 : bt s i = 32 := by rw [hbt, h]; rfl
      rw [if_pos hb32, if_pos h]
      rw [show (⟨#[]⟩ : ByteArray) = ⟨([] : List UInt8).toArray⟩ from rfl, words_loop s hs b (i + 1) _ [] k (by omega) (by simp; omega) (by simp) (by omega), glue_nil]
      simp [glue, asW]
    · have hb32 : ¬ bt s i = 32 := by
        rw [hbt]
        intro e
        apply h
        have : u.toNat = 32 := by omega
        exact UInt8.toNat_inj.1 this
      rw [if_neg hb32, if_neg h, glue_glue]
      have hone : strOfNums [bt s i] = ⟨[u].toArray⟩ := by rw [hbt]; exact strOf_u u
      have hcat : (⟨wd.toArray⟩ : ByteArray) ++ ⟨[u].toArray⟩ = ⟨(wd ++ [u]).toArray⟩ := cat_bytes wd [u]
      have hsz : (⟨wd.toArray⟩ : ByteArray).size + (⟨[u].toArray⟩ : ByteArray).size ≤ 9223372036854775807 := by
        show wd.toArray.size + [u].toArray.size ≤ _
        simp
        omega
      rw [hone, if_pos hsz, hcat]
      exact words_loop s hs b (i + 1) out (wd ++ [u]) k (by omega) (by omega) (by simp; omega) (by omega)
theorem specWords_ok (s : ByteArray) (k : Nat) : spec_l5Words.f (k + 90) s = some (if 80 < s.size then [] else words s) := by
  unfold spec_l5Words.f
  rw [Option.bind_some]
  by_cases h : 80 < s.size
  · rw [if_pos (by omega), if_pos h]
  · rw [if_neg (by omega), if_neg h]
    have := words_loop s (by omega) s.size 0 [] [] (k + 90) (by omega) (by simp) (by simp) (by omega)
    rw [glue_nil] at this
    simpa [asW, words] using this
end Go.Proofs.YthnknchacjmmeaaDoor
