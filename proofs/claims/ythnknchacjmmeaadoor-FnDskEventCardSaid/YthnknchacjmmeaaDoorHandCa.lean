/- The plain laws of the draws that laws.FnDskEvent makes: they answer, and what they answer is small. -/
import Derived.Test.YthnknchacjmmeaaDoorPf
import Derived.Test.YthnknchacjmmeaaDoorHandT
import Derived.Laws.BitsAllLaws
namespace Go.Proofs.YthnknchacjmmeaaDoor
open Go.RowKit Go.Proofs.YthnknchacjmmeaaDoorW.PrintWords Go.Proofs.YthnknchacjmmeaaDoorW.PrintLast Go.Proofs.YthnknchacjmmeaaDoorW.PrintMore
open PFnDskEvent
set_option linter.unusedVariables false
set_option linter.unusedSimpArgs false
/-- A list of bytes. -/
def Byt (xs : List Int) : Prop := ∀ x ∈ xs, 0 ≤ x ∧ x ≤ 255
theorem Byt.at_ {xs : List Int} (h : Byt xs) (i : Int) (h0 : 0 ≤ i) (h1 : i < xs.length) : 0 ≤ rd xs i ∧ rd xs i ≤ 255 := by
  have hl : i.toNat < xs.length := by omega
  have e : rd xs i = xs[i.toNat] := by simp [rd, List.getD_eq_getElem?_getD, List.getElem?_eq_getElem hl]
  rw [e]
  exact h _ (List.getElem_mem hl)
theorem xor64 (a b : Int) (h1 : 0 ≤ a) (h2 : a < 4611686018427387904) (h3 : 0 ≤ b) (h4 : b < 4611686018427387904) : 0 ≤ Go.bits .xor .i64 a b ∧ Go.bits .xor .i64 a b < 4611686018427387904 := by
  obtain ⟨A, rfl⟩ := Int.eq_ofNat_of_zero_le h1
  obtain ⟨B, rfl⟩ := Int.eq_ofNat_of_zero_le h3
  have hx : A ^^^ B < 2 ^ 62 := Nat.xor_lt_two_pow (by omega) (by omega)
  have e : Go.bits .xor .i64 (A : Int) (B : Int) = ((A ^^^ B : Nat) : Int) := by
    show IntKind.i64.wrap ((BitVec.ofInt 64 (A : Int) ^^^ BitVec.ofInt 64 (B : Int)).toNat : Int) = _
    have hA : (BitVec.ofInt 64 (A : Int)).toNat = A := by rw [BitVec.ofInt_natCast, BitVec.toNat_ofNat]; exact Nat.mod_eq_of_lt (by omega)
    have hB : (BitVec.ofInt 64 (B : Int)).toNat = B := by rw [BitVec.ofInt_natCast, BitVec.toNat_ofNat]; exact Nat.mod_eq_of_lt (by omega)
    rw [BitVec.toNat_xor, hA, hB, IntKind.wrap_i64]
    omega
  rw [e]
  omega
theorem tmod_range (v n : Int) (hv : 0 ≤ v) (hn : 1 ≤ n) : 0 ≤ Int.tmod v n ∧ Int.tmod v n < n := by
  rw [Int.tmod_eq_emod_of_nonneg hv]
  exact ⟨Int.emod_nonneg _ (by omega), Int.emod_lt_of_pos _ (by omega)⟩
theorem tdiv_range (v n : Int) (hv : 0 ≤ v) (hn : 1 ≤ n) : 0 ≤ Int.tdiv v n ∧ Int.tdiv v n ≤ v := by
  rw [Int.tdiv_eq_ediv_of_nonneg hv]
  exact ⟨Int.ediv_nonneg hv (by omega), Int.ediv_le_self _ hv⟩
/-- The mixing of a draw behind the list's end. -/
theorem mix_ok (u v i d : Int) (hu : 0 ≤ u ∧ u ≤ 255) (hv : 0 ≤ v ∧ v ≤ 255) (hi : 0 ≤ i ∧ i ≤ 100000) (hd : 0 ≤ d ∧ d ≤ 100000) (n : Int) (hn : 1 ≤ n) :
    0 ≤ Int.tmod (Go.bits .xor .i64 (wrap64 ((wrap64 ((wrap64 ((wrap64 ((wrap64 u) * 131)) + (wrap64 ((wrap64 v) * 1117)))) + (wrap64 (i * 29)))) + (wrap64 ((wrap64 d) * 53)))) (wrap64 (Int.tdiv (wrap64 ((wrap64 ((wrap64 ((wrap64 ((wrap64 u) * 131)) + (wrap64 ((wrap64 v) * 1117)))) + (wrap64 (i * 29)))) + (wrap64 ((wrap64 d) * 53)))) 64))) n ∧
    Int.tmod (Go.bits .xor .i64 (wrap64 ((wrap64 ((wrap64 ((wrap64 ((wrap64 u) * 131)) + (wrap64 ((wrap64 v) * 1117)))) + (wrap64 (i * 29)))) + (wrap64 ((wrap64 d) * 53)))) (wrap64 (Int.tdiv (wrap64 ((wrap64 ((wrap64 ((wrap64 ((wrap64 u) * 131)) + (wrap64 ((wrap64 v) * 1117)))) + (wrap64 (i * 29)))) + (wrap64 ((wrap64 d) * 53)))) 64))) n < n := by
  rw [w64 u (by omega), w64 v (by omega), w64 (u * 131) (by omega), w64 (v * 1117) (by omega), w64 (u * 131 + v * 1117) (by omega), w64 (i * 29) (by omega), w64 (u * 131 + v * 1117 + i * 29) (by omega), w64 d (by omega), w64 (d * 53) (by omega), w64 (u * 131 + v * 1117 + i * 29 + d * 53) (by omega)]
  have hA : 0 ≤ u * 131 + v * 1117 + i * 29 + d * 53 ∧ u * 131 + v * 1117 + i * 29 + d * 53 ≤ 100000000 := by omega
  generalize u * 131 + v * 1117 + i * 29 + d * 53 = a at *
  have hq := tdiv_range a 64 hA.1 (by omega)
  rw [w64 (Int.tdiv a 64) (by omega)]
  exact tmod_range _ n (xor64 a _ hA.1 (by omega) hq.1 (by omega)).1 hn
theorem pick_ok (xs : List Int) (hx : Byt xs) (hl : xs.length ≤ 2000) (i : Int) (h0 : 0 ≤ i) (h1 : i ≤ 90000) (n : Int) (hn : 1 ≤ n) (k : Nat) :
    ∃ r, spec_l30Rd_pick.f (k + 1) xs i n = some (r, i + 1) ∧ 0 ≤ r ∧ r < n := by
  have e1 : wrap64 (i + 1) = i + 1 := w64 _ (by omega)
  have e2 : wrap64 (i + 1 - 1) = i := by rw [w64 _ (by omega)]; omega
  have hn0 : ¬ n = 0 := by omega
  unfold spec_l30Rd_pick.f
  rw [if_neg (by omega), e1]
  simp only [spec_l30Rd_pick.j0, e2]
  by_cases hz : xs.length = 0
  · have e : ((xs.length : Int) == 0) = true := by rw [hz]; rfl
    rw [e]
    exact ⟨0, by simp, by omega, by omega⟩
  · have e : ((xs.length : Int) == 0) = false := by rw [beq_eq_false_iff_ne]; omega
    have hz' : ¬ (xs.length : Int) = 0 := by omega
    rw [e]
    simp only [Bool.false_eq_true, if_false, if_neg hn0, if_neg hz']
    by_cases hi : i < (xs.length : Int)
    · rw [if_pos hi, if_pos h0]
      have hb := hx.at_ i h0 hi
      rw [w64 (rd xs i) (by omega)]
      exact ⟨_, rfl, tmod_range _ n hb.1 hn⟩
    · rw [if_neg hi]
      have hL : (1 : Int) ≤ (xs.length : Int) := by omega
      have t1 := tmod_range i _ h0 hL
      have e3 : wrap64 (wrap64 (i * 7) + 3) = i * 7 + 3 := by rw [w64 (i * 7) (by omega), w64 _ (by omega)]
      have t2 := tmod_range (i * 7 + 3) _ (by omega) hL
      rw [e3, if_pos t1.1, if_pos t1.2, if_pos t2.1, if_pos t2.2]
      have b1 := hx.at_ _ t1.1 t1.2
      have b2 := hx.at_ _ t2.1 t2.2
      have hq := tdiv_range i _ h0 hL
      exact ⟨_, rfl, mix_ok _ _ i _ b1 b2 ⟨h0, by omega⟩ ⟨hq.1, by omega⟩ n hn⟩
theorem pick_ge (xs : List Int) (hx : Byt xs) (hl : xs.length ≤ 2000) (i : Int) (h0 : 0 ≤ i) (h1 : i ≤ 90000) (n : Int) (hn : 1 ≤ n) (k : Nat) (hk : 1 ≤ k) :
    ∃ r, spec_l30Rd_pick.f k xs i n = some (r, i + 1) ∧ 0 ≤ r ∧ r < n := by
  obtain ⟨j, rfl⟩ : ∃ j, k = j + 1 := ⟨k - 1, by omega⟩
  exact pick_ok xs hx hl i h0 h1 n hn j
theorem bytes_loop (xs : List Int) (hx : Byt xs) (hl : xs.length ≤ 2000) : ∀ (m : Nat) (acc : List Int) (i : Int) (K : Nat), Byt acc → acc.length + m ≤ 1000 → 0 ≤ i → i + m ≤ 80000 → m + 2 ≤ K →
    ∃ r, spec_l30Bytes.l0 K (m : Int) acc xs i = some (r, i + m) ∧ Byt r ∧ r.length = acc.length + m
  | 0, acc, i, K, ha, hm, h0, h1, hK => by
    obtain ⟨k, rfl⟩ : ∃ k, K = k + 1 := ⟨K - 1, by omega⟩
    refine ⟨acc, ?_, ha, rfl⟩
    simp [spec_l30Bytes.l0]
  | m + 1, acc, i, K, ha, hm, h0, h1, hK => by
    obtain ⟨k, rfl⟩ : ∃ k, K = k + 1 := ⟨K - 1, by omega⟩
    obtain ⟨r, hp, r0, r1⟩ := pick_ge xs hx hl i h0 (by omega) 256 (by omega) k (by omega)
    have e1 : wrap64 (((m + 1 : Nat) : Int) - 1) = (m : Int) := by rw [w64 _ (by omega)]; omega
    have e2 : r % 256 = r := by omega
    obtain ⟨q, hq, hqb, hql⟩ := bytes_loop xs hx hl m (acc ++ [r]) (i + 1) k (by
      intro x hx'
      rcases List.mem_append.1 hx' with h | h
      · exact ha x h
      · have : x = r := by simpa using h
        omega) (by simp; omega) (by omega) (by omega) (by omega)
    refine ⟨q, ?_, hqb, by rw [hql]; simp; omega⟩
    simp only [spec_l30Bytes.l0]
    rw [if_pos (by omega), hp, Option.bind_some, if_pos (by omega), e1, e2, hq]
    congr 2
    omega
theorem bytes_ok (xs : List Int) (hx : Byt xs) (hl : xs.length ≤ 2000) (i : Int) (h0 : 0 ≤ i) (h1 : i ≤ 70000) (n : Int) (hn0 : 0 ≤ n) (hn : n ≤ 500) (K : Nat) (hK : 600 ≤ K) :
    ∃ r, spec_l30Bytes.f K xs i n = some (r, i + n) ∧ Byt r ∧ (r.length : Int) = n := by
  obtain ⟨m, rfl⟩ := Int.eq_ofNat_of_zero_le hn0
  obtain ⟨r, h1, h2, h3⟩ := bytes_loop xs hx hl m [] i K (by intro x hx; cases hx) (by simp; omega) h0 (by omega) (by omega)
  exact ⟨r, h1, h2, by rw [h3]; simp⟩
theorem open_ok (xs : List Int) (hx : Byt xs) : ∃ r, spec_l30Open.f xs = some (r, 0) ∧ Byt r ∧ r.length ≤ 2000 := by
  unfold spec_l30Open.f
  by_cases h : (xs.length : Int) > 2000
  · rw [if_pos h, if_pos (by omega)]
    exact ⟨_, rfl, fun x h' => hx x (List.mem_of_mem_take h'), by simp; omega⟩
  · rw [if_neg h]
    exact ⟨_, rfl, hx, by omega⟩
theorem size_two (a b : Int) : (strOfNums [a, b]).size = 2 := rfl
theorem size_one (a : Int) : (strOfNums [a]).size = 1 := rfl
theorem l20B_loop (xs : List Int) (hx : Byt xs) : ∀ (m i : Nat) (acc : ByteArray) (K : Nat), xs.length = i + m → xs.length ≤ 1000 → acc.size ≤ 2 * i → m + 1 ≤ K →
    ∃ r, spec_l20Bytes.l0 K xs acc (i : Int) = some r ∧ r.size ≤ 2 * xs.length
  | 0, i, acc, K, hl, h3, hs, hK => by
    obtain ⟨k, rfl⟩ : ∃ k, K = k + 1 := ⟨K - 1, by omega⟩
    refine ⟨acc, ?_, by omega⟩
    simp only [spec_l20Bytes.l0]
    rw [if_neg (by omega)]
  | m + 1, i, acc, K, hl, h3, hs, hK => by
    obtain ⟨k, rfl⟩ : ∃ k, K = k + 1 := ⟨K - 1, by omega⟩
    have hb := hx.at_ (i : Int) (by omega) (by omega)
    simp only [spec_l20Bytes.l0]
    have e0 : wrap64 (rd xs (i : Int)) = rd xs (i : Int) := w64 _ (by omega)
    have e5 : wrap64 ((i : Int) + 1) = ((i + 1 : Nat) : Int) := by rw [w64 _ (by omega)]; rfl
    rw [e0, e5]
    generalize rd xs (i : Int) = x at *
    have t1 : 0 ≤ Int.tdiv x 16 ∧ Int.tdiv x 16 < 16 := by
      rw [Int.tdiv_eq_ediv_of_nonneg hb.1]; omega
    have t2 := tmod_range x 16 hb.1 (by omega)
    rw [w64 (Int.tdiv x 16) (by omega)]
    have hh : spec_l20Hex.f = some (⟨#[48, 49, 50, 51, 52, 53, 54, 55, 56, 57, 97, 98, 99, 100, 101, 102]⟩ : ByteArray) := rfl
    have hsz : ((⟨#[48, 49, 50, 51, 52, 53, 54, 55, 56, 57, 97, 98, 99, 100, 101, 102]⟩ : ByteArray).size : Int) = 16 := rfl
    rw [hh]
    simp only [Option.bind_some, hsz]
    rw [if_pos (by omega), if_pos (by omega), if_pos t1.1, if_pos t1.2, if_pos t2.1, if_pos t2.2, size_two, if_pos (by omega)]
    obtain ⟨r, h1, h2⟩ := l20B_loop xs hx m (i + 1) (acc ++ strOfNums [bt (⟨#[48, 49, 50, 51, 52, 53, 54, 55, 56, 57, 97, 98, 99, 100, 101, 102]⟩ : ByteArray) (Int.tdiv x 16), bt (⟨#[48, 49, 50, 51, 52, 53, 54, 55, 56, 57, 97, 98, 99, 100, 101, 102]⟩ : ByteArray) (Int.tmod x 16)]) k (by omega) h3 (by rw [ByteArray.size_append, size_two]; omega) (by omega)
    exact ⟨r, h1, h2⟩
theorem l20B_ok (xs : List Int) (hx : Byt xs) (h : xs.length ≤ 500) (K : Nat) (hK : 600 ≤ K) : ∃ r, spec_l20Bytes.f K xs = some r ∧ r.size ≤ 1000 := by
  obtain ⟨r, h1, h2⟩ := l20B_loop xs hx xs.length 0 ⟨#[]⟩ K (by omega) (by omega) (by decide) (by omega)
  exact ⟨r, h1, by omega⟩
end Go.Proofs.YthnknchacjmmeaaDoor
