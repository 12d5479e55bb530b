import Derived.Test.YthnknchacjmmeaaDoorHandC
import Derived.Test.YthnknchacjmmeaaDoorShelfA
namespace Go.Proofs.YthnknchacjmmeaaDoor
open Go.RowKit Go.Proofs.YthnknchacjmmeaaDoorW.PrintWords Go.Proofs.YthnknchacjmmeaaDoorW.PrintLast Go.Proofs.YthnknchacjmmeaaDoorW.PrintMore
set_option linter.unusedVariables false
set_option linter.unusedSimpArgs false
def sp : ByteArray := ⟨#[32]⟩
def wayText (k wy : Int) : ByteArray := if k ≤ 4 then kindText k ++ (sp ++ (⟨(Lib.decDigits wy.toNat).toArray⟩ : ByteArray)) else kindText k
def sightText (k wy : Int) (xs : List Int) : ByteArray := if 0 < xs.length then wayText k wy ++ (sp ++ hexAll xs) else wayText k wy
def sightSays (k wy : Int) (xs : List Int) : ByteArray := if okv k wy xs.length = true then sightText k wy xs else ⟨#[]⟩
theorem kindText_size (k : Int) : (kindText k).size ≤ 7 := by
  unfold kindText
  repeat' (split; decide)
  decide
theorem dec_size (n : Nat) (h : n ≤ 9) : (⟨(Lib.decDigits n).toArray⟩ : ByteArray).size ≤ 1 := by
  have : ∀ n : Fin 10, (Lib.decDigits n.val).length ≤ 1 := by decide +kernel
  exact this ⟨n, by omega⟩
theorem below_cells {w w1 : World} {cs : Array Value} {ty : TypeId} (hb : Below (w.alloc (.cells cs ty)).heap.size (w.alloc (.cells cs ty)) w1) (i : Nat) (v : Value) (h : cs[i]? = some v) : w1.cell? ⟨w.heap.size, i, none⟩ = some v :=
  pw_cell_below hb ((cellAt w cs ty i).trans h)
set_option maxHeartbeats 1000000 in
set_option maxRecDepth 100000 in
theorem dskSight_any (k wy : Int) (A : Option Addr) (c : Nat) (xs : List Int) (w : World) (htab : w.cell? ⟨5, 15, none⟩ = some (.int .u8 4)) (hr : ReadsInt w .u8 A xs.length xs) (hx : ∀ j, j < xs.length → 0 ≤ xs.getD j 0 ∧ xs.getD j 0 < 256) (hc : xs.length ≤ c) :
    Calls Tryd.prog 9 #[.agg #[.int .i64 k, .int .i64 wy, .slice A xs.length c]] w fun e w' => e = .returned (.string (sightSays k wy xs)) ∧ Below w.heap.size w w' := by
  have hC : Kd.C (Kd.int .u8) w A xs.length xs := Kd.C_of_reads (d := (0 : Int)) (h1 := fun _ => rfl) hr
  have hb0 : Below w.heap.size w (w.alloc (.cells #[.int .i64 k, .int .i64 wy, .slice A xs.length c] 27)) := (Below.refl _ _).alloc (Nat.le_refl _) _
  unfold sightSays
  by_cases hok : okv k wy xs.length = true
  · rw [if_pos hok]
    have hf : impl_CelSightOk.f k wy xs = some true := by unfold impl_CelSightOk.f; rw [hok]
    have hn8 : xs.length ≤ 8 := by
      rcases Nat.lt_or_ge 8 xs.length with h | h
      · rw [okv_false (by omega) (by omega)] at hok; cases hok
      · exact h
    have hway : k ≤ 4 → 0 ≤ wy ∧ wy ≤ 9 := by
      intro h4
      rcases (by omega : (0 ≤ wy ∧ wy ≤ 9) ∨ ¬ (0 ≤ wy ∧ wy ≤ 9)) with h | h
      · exact h
      · rw [okv_false (by omega) (by omega)] at hok; cases hok
    have hs1 := kindText_size k
    have hD : ∀ W : World, Below w.heap.size w W → Calls Tryd.prog 26 #[.slice A xs.length c] W fun e w' => e = .returned (.string (hexAll xs)) ∧ Below W.heap.size W w' :=
      fun W hW => dskDigits_any A c xs W (pw_cell_below hW htab) (hr.below hW) hx (by omega)
    have HD := Lib.hid hD
    have hs2 := hexAll_size xs
    have fin1 : ∀ {w1 w4 : World}, Below (w.alloc (.cells #[.int .i64 k, .int .i64 wy, .slice A xs.length c] 27)).heap.size (w.alloc (.cells #[.int .i64 k, .int .i64 wy, .slice A xs.length c] 27)) w1 → Below w1.heap.size w1 w4 → Below w.heap.size w w4 :=
      fun h1 h4 => (hb0.trans (h1.mono hb0.size)).trans (h4.mono (hb0.trans (h1.mono hb0.size)).size)
    unfold sightText wayText
    by_cases h4 : k ≤ 4
    · obtain ⟨hw0, hw9⟩ := hway h4
      obtain ⟨n, rfl⟩ := Int.eq_ofNat_of_zero_le hw0
      have hdz := dec_size n (by omega)
      have hi := Tryd.strconv_Itoa_small n (by omega)
      rw [Int.toNat_natCast]
      generalize (⟨(Lib.decDigits n).toArray⟩ : ByteArray) = D at hi hdz ⊢
      have HI := Lib.hid hi
      by_cases hl : 0 < xs.length
      · rw [if_pos hl, if_pos h4]
        clear hi hok hway hx htab hD
        unfold sp
        go_enter Tryd.func9, Tryd.ntmps9
        go_wp2_with (first | (go_at_call 23; refine (impl_CelSightOk.calls _ _ _ _ _ _ _ (Kd.C_below hC hb0) hc hf).mono ?_; rintro e w1 ⟨rfl, hb1⟩; have c0 := below_cells hb1 0 _ rfl; have c1 := below_cells hb1 1 _ rfl; have c2 := below_cells hb1 2 _ rfl) | (go_at_call 24; refine (dskKind_any _ _).mono ?_; rintro e w2 ⟨rfl, rfl⟩) | (go_at_call 25; refine (HI.out _).mono ?_; rintro e w3 ⟨rfl, rfl⟩) | (go_at_call 26; refine (HD.out _ (hb0.trans (hb1.mono hb0.size))).mono ?_; rintro e w4 ⟨rfl, hb4⟩))
        go_ret
        exact ⟨rfl, fin1 hb1 hb4⟩
      · rw [if_neg hl, if_pos h4]
        clear hi hok hway hx htab hD
        unfold sp
        go_enter Tryd.func9, Tryd.ntmps9
        go_wp2_with (first | (go_at_call 23; refine (impl_CelSightOk.calls _ _ _ _ _ _ _ (Kd.C_below hC hb0) hc hf).mono ?_; rintro e w1 ⟨rfl, hb1⟩; have c0 := below_cells hb1 0 _ rfl; have c1 := below_cells hb1 1 _ rfl; have c2 := below_cells hb1 2 _ rfl) | (go_at_call 24; refine (dskKind_any _ _).mono ?_; rintro e w2 ⟨rfl, rfl⟩) | (go_at_call 25; refine (HI.out _).mono ?_; rintro e w3 ⟨rfl, rfl⟩) | (go_at_call 26; refine (HD.out _ (hb0.trans (hb1.mono hb0.size))).mono ?_; rintro e w4 ⟨rfl, hb4⟩))
        go_ret
        exact ⟨rfl, hb0.trans (hb1.mono hb0.size)⟩
    · by_cases hl : 0 < xs.length
      · rw [if_pos hl, if_neg h4]
        clear hok hway hx htab hD
        unfold sp
        go_enter Tryd.func9, Tryd.ntmps9
        go_wp2_with (first | (go_at_call 23; refine (impl_CelSightOk.calls _ _ _ _ _ _ _ (Kd.C_below hC hb0) hc hf).mono ?_; rintro e w1 ⟨rfl, hb1⟩; have c0 := below_cells hb1 0 _ rfl; have c1 := below_cells hb1 1 _ rfl; have c2 := below_cells hb1 2 _ rfl) | (go_at_call 24; refine (dskKind_any _ _).mono ?_; rintro e w2 ⟨rfl, rfl⟩) | (go_at_call 25; refine (HI.out _).mono ?_; rintro e w3 ⟨rfl, rfl⟩) | (go_at_call 26; refine (HD.out _ (hb0.trans (hb1.mono hb0.size))).mono ?_; rintro e w4 ⟨rfl, hb4⟩))
        go_ret
        exact ⟨rfl, fin1 hb1 hb4⟩
      · rw [if_neg hl, if_neg h4]
        clear hok hway hx htab hD
        go_enter Tryd.func9, Tryd.ntmps9
        go_wp2_with (first | (go_at_call 23; refine (impl_CelSightOk.calls _ _ _ _ _ _ _ (Kd.C_below hC hb0) hc hf).mono ?_; rintro e w1 ⟨rfl, hb1⟩; have c0 := below_cells hb1 0 _ rfl; have c1 := below_cells hb1 1 _ rfl; have c2 := below_cells hb1 2 _ rfl) | (go_at_call 24; refine (dskKind_any _ _).mono ?_; rintro e w2 ⟨rfl, rfl⟩) | (go_at_call 25; refine (HI.out _).mono ?_; rintro e w3 ⟨rfl, rfl⟩) | (go_at_call 26; refine (HD.out _ (hb0.trans (hb1.mono hb0.size))).mono ?_; rintro e w4 ⟨rfl, hb4⟩))
        go_ret
        exact ⟨rfl, hb0.trans (hb1.mono hb0.size)⟩
  · rw [if_neg hok]
    have hf : impl_CelSightOk.f k wy xs = some false := by unfold impl_CelSightOk.f; simpa using hok
    clear hok htab hx
    go_enter Tryd.func9, Tryd.ntmps9
    go_wp2_with (go_at_call 23; refine (impl_CelSightOk.calls _ _ _ _ _ _ _ (Kd.C_below hC hb0) hc hf).mono ?_; rintro e w1 ⟨rfl, hb1⟩)
    go_ret
    exact ⟨rfl, hb0.trans (hb1.mono hb0.size)⟩
end Go.Proofs.YthnknchacjmmeaaDoor
