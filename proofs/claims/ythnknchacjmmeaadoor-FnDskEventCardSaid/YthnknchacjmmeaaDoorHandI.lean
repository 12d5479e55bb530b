/- impl.txtNumbers' contract: words that are all numbers. -/
import Derived.Test.YthnknchacjmmeaaDoorHandH
namespace Go.Proofs.YthnknchacjmmeaaDoor
open Go.RowKit Go.Proofs.YthnknchacjmmeaaDoorW.PrintWords Go.Proofs.YthnknchacjmmeaaDoorW.PrintLast Go.Proofs.YthnknchacjmmeaaDoorW.PrintMore
set_option linter.unusedVariables false
set_option linter.unusedSimpArgs false
theorem info3 : (Tryd.prog.info? 3).map (fun i => (i.zero, i.size, i.bytes)) = some (some (.int .i64 0), 1, 8) := by kernel_rfl
theorem wordNum_low (s : ByteArray) : -1 ≤ wordNum s := by
  unfold wordNum
  split
  · decide
  · exact numAt_low s _ _ _ (by omega)
/-- What txtNumbers answers: the numbers, or nothing. -/
def numsOk (l : List ByteArray) : Bool := l.all fun s => decide (0 ≤ wordNum s)
def NumsPost (l : List ByteArray) (w : World) (e : Ending) (w' : World) : Prop :=
  Below w.heap.size w w' ∧ (numsOk l = true ∧ (∃ v : Value, e = .returned (.tuple #[v, .bool true]) ∧ Kd.R (Kd.int .i64) 3 w' w.heap.size (fun _ => True) v (l.map wordNum)) ∨ numsOk l = false ∧ e = .returned (.tuple #[.slice none 0 0, .bool false]))
theorem rdOf_get (l : List ByteArray) (k : Nat) (h : k < l.length) : rdOf ByteArray.empty l (k : Int) = l[k] := by
  simp [rdOf, List.getD_eq_getElem?_getD, List.getElem?_eq_getElem h]
theorem nums_take (l : List ByteArray) (k : Nat) (h : k < l.length) : (l.take (k + 1)).map wordNum = (l.take k).map wordNum ++ [wordNum (rdOf ByteArray.empty l (k : Int))] := by
  rw [List.take_succ_eq_append_getElem h, List.map_append, rdOf_get l k h]; rfl
theorem numsOk_take (l : List ByteArray) (k : Nat) (h : k < l.length) (h1 : numsOk (l.take k) = true) (h2 : 0 ≤ wordNum (rdOf ByteArray.empty l (k : Int))) : numsOk (l.take (k + 1)) = true := by
  rw [rdOf_get l k h] at h2
  unfold numsOk at *
  rw [List.take_succ_eq_append_getElem h, List.all_append, h1]
  simp [h2]
theorem numsOk_bad (l : List ByteArray) (k : Nat) (h : k < l.length) (h2 : wordNum (rdOf ByteArray.empty l (k : Int)) < 0) : numsOk l = false := by
  rw [rdOf_get l k h] at h2
  unfold numsOk
  rw [List.all_eq_false]
  exact ⟨l[k], List.getElem_mem h, by simp; omega⟩
set_option maxHeartbeats 1000000 in
set_option maxRecDepth 100000 in
theorem txtNumbers_any (A : Option Addr) (c : Nat) (l : List ByteArray) (w : World) (hr : Kd.C Kd.string w A l.length l) (hc : l.length ≤ c) (hl : l.length ≤ 1000) :
    Calls Tryd.prog 75 #[.slice A l.length c, .bool false] w fun e w' => NumsPost l w e w' := by
  go_enter Tryd.func75, Tryd.ntmps75
  go_wp2
  go_loopw [6, 13] (fun v i wr => ∃ k : Nat, k ≤ l.length ∧ i = .int .i64 k ∧ Kd.R (Kd.int .i64) 3 wr w.heap.size (fun _ => True) v ((l.take k).map wordNum) ∧ numsOk (l.take k) = true ∧ Below w.heap.size w wr) (fun _ i _ => l.length - (intOf i).toNat)
  case atStart => exact ⟨0, Nat.zero_le _, rfl, Kd.R_nil _ _ _ _ _, rfl, Below.refl _ _⟩
  case round =>
    obtain ⟨k, hk, rfl, hR, hn, hb⟩ := hrel
    by_cases hlt : k < l.length
    · have hcw := Kd.C_below hr hb
      obtain ⟨ad, rfl, hcell⟩ := Kd.at_string hcw k (by omega) (by omega)
      replace hcell : wr.cell? (ad.add k) = some (.string (rdOf ByteArray.empty l k)) := by simpa using hcell
      have hlow := wordNum_low (rdOf ByteArray.empty l k)
      have hT := numsOk_take l k hlt
      have hM := nums_take l k hlt
      by_cases hneg : wordNum (rdOf ByteArray.empty l k) < 0
      · have hno : numsOk l = false := numsOk_bad l k hlt hneg
        clear hT hM
        generalize rdOf ByteArray.empty l k = s at *
        go_wp2_with (go_at_call 85; refine (txtNumber_any _ _).mono ?_; rintro e w1 ⟨rfl, hb1⟩; rw [numRet_neg hneg])
        go_ret2
        exact ⟨hb.trans (hb1.mono hb.size), .inr ⟨hno, rfl⟩⟩
      · have hge : 0 ≤ wordNum (rdOf ByteArray.empty l k) := by omega
        have hT' := Lib.hid (hT hn hge)
        have hM' := Lib.hid hM
        clear hT hM
        generalize rdOf ByteArray.empty l k = s at *
        have hlen : ((l.take k).map wordNum).length = k := by simp; omega
        generalize (l.take k).map wordNum = zs at *
        have hR0 := Lib.hid hR
        clear hR
        go_wp2_with (first
          | (go_at_call 85; refine (txtNumber_any _ _).mono ?_; rintro e w1 ⟨rfl, hb1⟩; rw [numRet_pos hge]; have hb2 := hb.trans (hb1.mono hb.size); have hR1 := Lib.hid (Kd.R_below hR0.out hb1))
          | ((with_reducible refine gate_builtin (b := .append) (xs := #[.tmp 29, .tmp 31]) rfl ?_); (try (refine gate_guard (by rfl) ?_; dsimp only)); at_builtin; refine Kd.R_append (Kd.int .i64) (w0 := w) w.heap.size rfl (.tmp 29) (.tmp 31) 81 3 (.int .i64 0) 8 rfl Tryd.underlying81 info3 rfl (by decide) (by omega) u6 zs (wordNum s) [.int .i64 (wordNum s)] (fun _ => True) (fun _ => False) rfl rfl rfl (fun _ hk => hk.elim) (fun _ _ => trivial) ?aO ?aB ?aS ?aL ?_; (case aO => exact hR1.out); (case aB => exact hb2); (case aS => exact hb2.size); (case aL => omega); intro v220 w17 ho hb3 hg hat))
        refine ⟨⟨k + 1, by omega, rfl, ?_, hT'.out, hb3⟩, ?_⟩
        · rw [hM'.out]; exact ho
        · simp [intOf]
          omega
    · have e : k = l.length := by omega
      subst e
      rw [List.take_length] at hR hn
      go_wp2
      go_ret2
      exact ⟨hb, .inl ⟨hn, _, rfl, hR⟩⟩
end Go.Proofs.YthnknchacjmmeaaDoor
