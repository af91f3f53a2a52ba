/- What functions of the given program compute, step by step: the walks that the seat's laws lean on, part 7. No conditions. -/
import Derived.Test.YtmheajenlhlbhaaM01
import Derived.Test.YtmheajenlhlbhaaM05
import Derived.Test.YtmheajenlhlbhaaM06
namespace Go.Proofs.Ytmheajenlhlbhaa.X
open Go.RowKit Go.Proofs.YtmheajenlhlbhaaW.PrintWords Go.Proofs.YtmheajenlhlbhaaW.PrintLast Go.Proofs.YtmheajenlhlbhaaW.PrintMore
attribute [local go_sem] max2_int min2_int max_two min_two max_three min_three max_four min_four   -- for this text's walks alone
set_option linter.unusedVariables false
set_option linter.unusedSimpArgs false

--GIVEN-- withy/cell.PutValue
/-! ### cell_PutValue: function 41 -/
/-- What is of a value that may be, as its cell's bytes behind the suffix's. -/
def valB (v : S32) : ByteArray := if v.f0 = true then strOfNums [1] ++ strOfNums (putL v.f2.toNat) ++ strOfNums [v.f3 % 256, v.f3 / 256 % 256, v.f3 / 65536 % 256, v.f3 / 16777216 % 256] else strOfNums [0] ++ textB v.f1
/-- May a value be? -/
def valOk (v : S32) : Bool := if v.f0 = true then v.f1.toList == [] && decide (1 ≤ v.f2) && decide (v.f2 ≤ 4096) && decide (1 ≤ v.f3) && decide (v.f3 < 4096) else decide (v.f2 = 0) && decide (v.f3 = 0) && decide (v.f1.size ≤ 256)
def cellB (s : ByteArray) (v : S32) : ByteArray := textB s ++ valB v
theorem cell_Right_ok (b : Bool) (s : ByteArray) (n p : Int) : cell_Right.f b s n p = some (valOk ⟨b, s, n, p⟩) := by
  unfold cell_Right.f valOk cell_page.f
  cases b
  · by_cases h1 : n = 0 <;> by_cases h2 : p = 0 <;> by_cases h3 : s.size ≤ 256 <;> simp [h1, h2, h3] <;> omega
  · by_cases h1 : s.toList = [] <;> by_cases h2 : 1 ≤ n <;> by_cases h3 : n ≤ 4096 <;> by_cases h4 : 1 ≤ p <;> simp [h1, h2, h3, h4]
theorem textB_size (s : ByteArray) : (textB s).size ≤ s.size + 9 := by
  unfold textB
  rw [ByteArray.size_append, strOfNums_size]
  have := putL_length_le s.size
  omega
def cell_PutValue.f (s : ByteArray) (b : Bool) (t : ByteArray) (n p : Int) : Option (ByteArray × Int) :=
  if s.size ≤ 128 ∧ valOk ⟨b, t, n, p⟩ = true then some (cellB s ⟨b, t, n, p⟩, 0) else some (⟨#[]⟩, 3)
theorem putValue_clean (s : ByteArray) (b : Bool) (t : ByteArray) (n p : Int) : ∃ k, cell_PutValue_raw.f k s b t n p = cell_PutValue.f s b t n p := by
  refine ⟨5, ?_⟩
  unfold cell_PutValue_raw.f cell_PutValue.f
  by_cases hs : s.size ≤ 128
  · have hT0 : cell_text.f s = some (textB s) := by unfold cell_text.f; rw [if_pos (by omega)]
    have hS0 := textB_size s
    rw [if_neg (by omega), cell_Right_ok]
    simp only [Option.bind_some]
    by_cases hv : valOk ⟨b, t, n, p⟩ = true
    · rw [if_pos ⟨hs, hv⟩, hv]
      simp only [cell_PutValue_raw.j0, Bool.not_true, Bool.false_eq_true, if_false, hT0, Option.bind_some]
      cases b
      · have hval : n = 0 ∧ p = 0 ∧ t.size ≤ 256 := by simpa [valOk, and_assoc] using hv
        obtain ⟨rfl, rfl, h256⟩ := hval
        have hT1 : cell_text.f t = some (textB t) := by unfold cell_text.f; rw [if_pos (by omega)]
        have hS1 := textB_size t
        simp only [Bool.false_eq_true, if_false, hT1, Option.bind_some]
        rw [if_pos (by rw [strOfNums_size]; simp; omega), if_pos (by rw [ByteArray.size_append, strOfNums_size]; simp; omega)]
        simp [cellB, valB, ByteArray.append_assoc]
      · have hval : t.toList = [] ∧ 1 ≤ n ∧ n ≤ 4096 ∧ 1 ≤ p ∧ p < 4096 := by simpa [valOk, and_assoc] using hv
        obtain ⟨h1, h2, h3, h4, h5⟩ := hval
        have hP : word_Put.f (IntKind.u64.wrap n) = some (strOfNums (putL n.toNat)) := by
          rw [u64_wrap_id (by omega) (by omega)]
          unfold word_Put.f
          rw [if_pos ⟨by omega, by omega⟩]
        have hF : word_Four.f (p % 4294967296) = some (strOfNums [p % 256, p / 256 % 256, p / 65536 % 256, p / 16777216 % 256]) := by
          rw [Int.emod_eq_of_lt (by omega) (by omega)]
          rfl
        have hl := putL_length_le n.toNat
        simp only [if_true, hP, hF, Option.bind_some]
        rw [if_pos (by rw [strOfNums_size]; simp; omega), if_pos (by rw [ByteArray.size_append, strOfNums_size, strOfNums_size]; simp; omega), if_pos (by rw [ByteArray.size_append, ByteArray.size_append, strOfNums_size, strOfNums_size, strOfNums_size]; simp; omega)]
        simp [cellB, valB, ByteArray.append_assoc]
    · have hv2 : valOk ⟨b, t, n, p⟩ = false := by simpa using hv
      rw [if_neg (by rw [hv2]; simp), hv2]
      simp [cell_PutValue_raw.j0]
  · rw [if_pos (by omega), if_neg (by omega)]
    simp [cell_PutValue_raw.j0]
theorem cell_PutValue.calls (a0 : ByteArray) (a1_0 : Bool) (a1_1 : ByteArray) (a1_2 : Int) (a1_3 : Int) (r1 : ByteArray) (r2 : Int) (w : World) (h : cell_PutValue.f a0 a1_0 a1_1 a1_2 a1_3 = some (r1, r2)) :
    Calls Try.prog 41 #[.string a0, .agg #[.bool a1_0, .string a1_1, .int .i64 a1_2, .int .i64 a1_3]] w fun e w' => e = .returned (.tuple #[.string r1, .int .i64 r2]) ∧ Below w.heap.size w w' := by
  obtain ⟨k, hk⟩ := putValue_clean a0 a1_0 a1_1 a1_2 a1_3
  exact cell_PutValue_raw.calls k a0 a1_0 a1_1 a1_2 a1_3 r1 r2 w (hk.trans h)


end Go.Proofs.Ytmheajenlhlbhaa.X

namespace Go.Proofs.Ytmheajenlhlbhaa.X
open Go.RowKit Go.Proofs.YtmheajenlhlbhaaW.PrintWords Go.Proofs.YtmheajenlhlbhaaW.PrintLast Go.Proofs.YtmheajenlhlbhaaW.PrintMore
attribute [local go_sem] max2_int min2_int max_two min_two max_three min_three max_four min_four   -- for this text's walks alone
set_option linter.unusedVariables false
set_option linter.unusedSimpArgs false

--GIVEN-- withy/leaf.keys
/-! ### leaf_keys: function 40 -/
def leaf_keys.f (a0 a1 : Int) (a2 : ByteArray) (l : List S35) : Option (List ByteArray) := if l.length ≤ 2000000000000 then some (l.map (·.f0)) else none

set_option maxHeartbeats 400000 in
theorem leaf_keys1.calls (x : S35) (w : World) :
    Calls Try.prog 53 #[.agg #[.string x.f0, .bool x.f1.f0, .string x.f1.f1, .int .i64 x.f1.f2, .int .i64 x.f1.f3]] w fun e w' => e = .returned (.string x.f0) ∧ Below w.heap.size w w' := by
  go_enter Try.func53, Try.ntmps53
  go_wp2
  go_ret
  exact ⟨rfl, (Below.refl _ _).alloc (Nat.le_refl _) _⟩

set_option maxHeartbeats 1000000 in
theorem leaf_told.calls (A0 : Option Addr) (c0 : Nat) (l0 : List S35) (w : World) (hr0 : Kd.C k35 w A0 l0.length l0) (hl : l0.length ≤ 2000000000000) :
    Calls Try.prog 52 #[.slice A0 l0.length c0, .func (.func 53) #[] #[]] w fun e w' => ∃ v0_ : Value, e = .returned (v0_) ∧ Kd.R Kd.string 9 w' w.heap.size (fun _ => True) v0_ (l0.map (·.f0)) ∧ Below w.heap.size w w' := by
  have HR0 := Aside0.mk hr0
  clear hr0
  go_enter Try.func52, Try.ntmps52
  go_wp2
  go_loopw [5, 10] (fun v i wr => ∃ k : Nat, k ≤ l0.length ∧ i = .int .i64 k ∧ Aside0 (Kd.R Kd.string 9 wr w.heap.size (fun _ => True) v ((l0.take k).map (·.f0))) ∧ Aside0 (Below w.heap.size w wr)) (fun _ i _ => l0.length - (intOf i).toNat)
  case atStart => exact ⟨0, by omega, rfl, ⟨Kd.R_nil _ _ _ _ _⟩, ⟨Below.refl _ _⟩⟩
  case round =>
    obtain ⟨k, h0, rfl, HO, HB⟩ := hrel
    by_cases hx : k < l0.length
    · obtain ⟨ad0, e0, q0, q1, q2, q3, q4⟩ := at_T35 HR0.out (k : Int) (by omega) (by omega)
      cases e0
      have eK : (k : Int).toNat = k := Int.toNat_natCast k
      rw [eK] at q0 q1 q2 q3 q4
      replace q0 := (HB.out.cell (World.block_lt_of_cell? w _ q0)).trans q0
      replace q1 := (HB.out.cell (World.block_lt_of_cell? w _ q1)).trans q1
      replace q2 := (HB.out.cell (World.block_lt_of_cell? w _ q2)).trans q2
      replace q3 := (HB.out.cell (World.block_lt_of_cell? w _ q3)).trans q3
      replace q4 := (HB.out.cell (World.block_lt_of_cell? w _ q4)).trans q4
      clear eK
      generalize hx0 : rd_T35 l0 (k : Int) = x at q0 q1 q2 q3 q4
      have HX := Aside0.mk hx0
      clear hx0
      have hsn : ((l0.take (k + 1)).map (·.f0)) = ((l0.take k).map (·.f0)) ++ [x.f0] := by
        rw [List.take_succ_eq_append_getElem hx, List.map_append, ← HX.out]
        simp [rd_T35, List.getD_eq_getElem?_getD, List.getElem?_eq_getElem hx]
      have HS := Aside0.mk hsn
      clear hsn
      go_wp2_with (first | (go_at_call 53; refine (leaf_keys1.calls x _).mono ?_; rintro e w1 ⟨rfl, hb1⟩; have n0_ := Aside0.mk (Kd.R_below (Kd.R_alloc HO.out _) hb1); have n1_ := Aside0.mk (below_step (below_alloc HB.out _) hb1); clear HO HB hb1; have HO := n0_; have HB := n1_; clear n0_ n1_) | (at_builtin; refine Kd.R_append Kd.string (w0 := w) w.heap.size rfl (.tmp 14) (.tmp 18) 55 9 (.string ⟨#[]⟩) 16 rfl Try.underlying55 info9 rfl (by decide) (by omega) u5 ((l0.take k).map (·.f0)) x.f0 [.string x.f0] (fun _ => True) (fun _ => False) rfl rfl ?aP (fun _ hk => hk.elim) ?aF ?aO ?aB ?aS ?aL ?_; (case aP => exact rfl); (case aB => exact HB.out); (case aF => exact (fun _ _ => trivial)); (case aO => exact HO.out); (case aS => exact below_size HB.out); (case aL => rw [List.length_map, List.length_take]; omega); intro v255 w10 ho hb hg hat; rw [← HS.out] at ho; have n0_ := Aside0.mk hb; have n1_ := Aside0.mk ho; clear HB HO; have HB := n0_; have HO := n1_; clear n0_ n1_; clear ho hb hg hat))
      go_roundw
      case rel => exact ⟨k + 1, by omega, by go_num, HO, HB⟩
      case measure => simp [intOf]; omega
    · have hk : k = l0.length := by omega
      have HF := Aside0.mk (show l0.take k = l0 by rw [hk, List.take_length])
      clear hk
      go_wp2
      go_ret
      exact ⟨_, rfl, by rw [← HF.out]; exact HO.out, HB.out⟩

theorem leaf_keys.calls (a0_0 : Int) (a0_1 : Int) (a0_2 : ByteArray) (A0_3 : Option Addr) (c0_3 : Nat) (l0_3 : List S35) (r : List ByteArray) (w : World) (hr0_3 : Kd.C k35 w A0_3 l0_3.length l0_3) (hc0_3 : l0_3.length ≤ c0_3) (h : leaf_keys.f a0_0 a0_1 a0_2 l0_3 = some r) :
    Calls Try.prog 40 #[.agg #[.int .i64 a0_0, .int .i64 a0_1, .string a0_2, .slice A0_3 l0_3.length c0_3]] w fun e w' => ∃ v0_ : Value, e = .returned (v0_) ∧ Kd.R Kd.string 9 w' w.heap.size (fun _ => True) v0_ r ∧ Below w.heap.size w w' := by
  unfold leaf_keys.f at h
  by_cases hs : l0_3.length ≤ 2000000000000
  · rw [if_pos hs] at h
    obtain rfl := Option.some.inj h
    have HR := Aside0.mk hr0_3
    clear hr0_3 hc0_3 h
    go_enter Try.func40, Try.ntmps40
    go_wp2_with (go_at_call 52; refine (leaf_told.calls A0_3 c0_3 l0_3 _ (Kd.C_below HR.out (below_alloc (Below.refl _ _) _)) hs).mono ?_; rintro e w1 ⟨v, rfl, ho, hb⟩; have HO := Aside0.mk ho; have HB := Aside0.mk hb; clear ho hb)
    go_ret
    exact ⟨_, rfl, Kd.R_lower HO.out (by simp), below_step (below_alloc (Below.refl _ _) _) HB.out⟩
  · rw [if_neg hs] at h
    exact absurd h (by simp)


end Go.Proofs.Ytmheajenlhlbhaa.X
