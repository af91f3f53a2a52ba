/- What functions of the given program compute, step by step: the walks that the law LeafRise leans on, part 5. No conditions. -/
import Derived.Test.YtmheajenlhlbhaaGreatDoorULeafRise01
import Derived.Test.YtmheajenlhlbhaaGreatDoorULeafRise02
import Derived.Test.YtmheajenlhlbhaaGreatDoorULeafRise03
import Derived.Test.YtmheajenlhlbhaaGreatDoorULeafRise04
import Derived.Deep.QuietTactic
import Derived.BigQuiet
namespace Go.Proofs.YtmheajenlhlbhaaGreatDoor.X
open Go.RowKit Go.Proofs.YtmheajenlhlbhaaGreatDoorW.PrintWords Go.Proofs.YtmheajenlhlbhaaGreatDoorW.PrintLast Go.Proofs.YtmheajenlhlbhaaGreatDoorW.PrintMore
attribute [local go_sem] max2_int min2_int max_two min_two max_three min_three max_four min_four   -- for this text's walks alone
set_option linter.unusedVariables false
set_option linter.unusedSimpArgs false

def valB (v : S30) : ByteArray := if v.f0 = true then strOfNums [1] ++ strOfNums (putL v.f2.toNat) ++ strOfNums [v.f3 % 256, v.f3 / 256 % 256, v.f3 / 65536 % 256, v.f3 / 16777216 % 256] else strOfNums [0] ++ textB v.f1
def valOk (v : S30) : Bool := if v.f0 = true then v.f1.toList == [] && decide (1 ≤ v.f2) && decide (v.f2 ≤ 4096) && decide (1 ≤ v.f3) && decide (v.f3 < 4096) else decide (v.f2 = 0) && decide (v.f3 = 0) && decide (v.f1.size ≤ 256)
def cellB (s : ByteArray) (v : S30) : ByteArray := textB s ++ valB v
theorem cell_Right_ok (b : Bool) (s : ByteArray) (n p : Int) : cell_Right.f b s n p = some (valOk ⟨b, s, n, p⟩) := by
  unfold cell_Right.f valOk cell_page.f
  cases b
  · by_cases h1 : n = 0 <;> by_cases h2 : p = 0 <;> by_cases h3 : s.size ≤ 256 <;> simp [h1, h2, h3] <;> omega
  · by_cases h1 : s.toList = [] <;> by_cases h2 : 1 ≤ n <;> by_cases h3 : n ≤ 4096 <;> by_cases h4 : 1 ≤ p <;> simp [h1, h2, h3, h4]
theorem textB_size (s : ByteArray) : (textB s).size ≤ s.size + 9 := by
  unfold textB
  rw [ByteArray.size_append, strOfNums_size]
  have := putL_length_le s.size
  omega
def cell_PutValue.f (s : ByteArray) (b : Bool) (t : ByteArray) (n p : Int) : Option (ByteArray × Int) :=
  if s.size ≤ 128 ∧ valOk ⟨b, t, n, p⟩ = true then some (cellB s ⟨b, t, n, p⟩, 0) else some (⟨#[]⟩, 3)
theorem putValue_clean (s : ByteArray) (b : Bool) (t : ByteArray) (n p : Int) : ∃ k, cell_PutValue_raw.f k s b t n p = cell_PutValue.f s b t n p := by
  refine ⟨5, ?_⟩
  unfold cell_PutValue_raw.f cell_PutValue.f
  by_cases hs : s.size ≤ 128
  · have hT0 : cell_text.f s = some (textB s) := by unfold cell_text.f; rw [if_pos (by omega)]
    have hS0 := textB_size s
    rw [if_neg (by omega), cell_Right_ok]
    simp only [Option.bind_some]
    by_cases hv : valOk ⟨b, t, n, p⟩ = true
    · rw [if_pos ⟨hs, hv⟩, hv]
      simp only [cell_PutValue_raw.j0, Bool.not_true, Bool.false_eq_true, if_false, hT0, Option.bind_some]
      cases b
      · have hval : n = 0 ∧ p = 0 ∧ t.size ≤ 256 := by simpa [valOk, and_assoc] using hv
        obtain ⟨rfl, rfl, h256⟩ := hval
        have hT1 : cell_text.f t = some (textB t) := by unfold cell_text.f; rw [if_pos (by omega)]
        have hS1 := textB_size t
        simp only [Bool.false_eq_true, if_false, hT1, Option.bind_some]
        rw [if_pos (by rw [strOfNums_size]; simp; omega), if_pos (by rw [ByteArray.size_append, strOfNums_size]; simp; omega)]
        simp [cellB, valB, ByteArray.append_assoc]
      · have hval : t.toList = [] ∧ 1 ≤ n ∧ n ≤ 4096 ∧ 1 ≤ p ∧ p < 4096 := by simpa [valOk, and_assoc] using hv
        obtain ⟨h1, h2, h3, h4, h5⟩ := hval
        have hP : word_Put.f (IntKind.u64.wrap n) = some (strOfNums (putL n.toNat)) := by
          rw [u64_wrap_id (by omega) (by omega)]
          unfold word_Put.f
          rw [if_pos ⟨by omega, by omega⟩]
        have hF : word_Four.f (p % 4294967296) = some (strOfNums [p % 256, p / 256 % 256, p / 65536 % 256, p / 16777216 % 256]) := by
          rw [Int.emod_eq_of_lt (by omega) (by omega)]
          rfl
        have hl := putL_length_le n.toNat
        simp only [if_true, hP, hF, Option.bind_some]
        rw [if_pos (by rw [strOfNums_size]; simp; omega), if_pos (by rw [ByteArray.size_append, strOfNums_size, strOfNums_size]; simp; omega), if_pos (by rw [ByteArray.size_append, ByteArray.size_append, strOfNums_size, strOfNums_size, strOfNums_size]; simp; omega)]
        simp [cellB, valB, ByteArray.append_assoc]
    · have hv2 : valOk ⟨b, t, n, p⟩ = false := by simpa using hv
      rw [if_neg (by rw [hv2]; simp), hv2]
      simp [cell_PutValue_raw.j0]
  · rw [if_pos (by omega), if_neg (by omega)]
    simp [cell_PutValue_raw.j0]
theorem cell_PutValue.calls (a0 : ByteArray) (a1_0 : Bool) (a1_1 : ByteArray) (a1_2 : Int) (a1_3 : Int) (r1 : ByteArray) (r2 : Int) (w : World) (h : cell_PutValue.f a0 a1_0 a1_1 a1_2 a1_3 = some (r1, r2)) :
    Calls Tryz.prog 143 #[.string a0, .agg #[.bool a1_0, .string a1_1, .int .i64 a1_2, .int .i64 a1_3]] w fun e w' => e = .returned (.tuple #[.string r1, .int .i64 r2]) ∧ Below w.heap.size w w' := by
  obtain ⟨k, hk⟩ := putValue_clean a0 a1_0 a1_1 a1_2 a1_3
  exact cell_PutValue_raw.calls k a0 a1_0 a1_1 a1_2 a1_3 r1 r2 w (hk.trans h)


end Go.Proofs.YtmheajenlhlbhaaGreatDoor.X


namespace Go.Proofs.YtmheajenlhlbhaaGreatDoor.X
open Go.RowKit Go.Proofs.YtmheajenlhlbhaaGreatDoorW.PrintWords Go.Proofs.YtmheajenlhlbhaaGreatDoorW.PrintLast Go.Proofs.YtmheajenlhlbhaaGreatDoorW.PrintMore
attribute [local go_sem] max2_int min2_int max_two min_two max_three min_three max_four min_four   -- for this text's walks alone
set_option linter.unusedVariables false
set_option linter.unusedSimpArgs false

def leaf_number.f (a0 : Int) : Option (Bool) := if a0 ≥ 1 then (some (decide (a0 < 4096))) else (some false)
set_option maxHeartbeats 8000000 in
set_option maxRecDepth 100000 in
theorem leaf_number.calls (a0 : Int) (r : Bool) (w : World) (h : leaf_number.f a0 = some r) :
    Calls Tryz.prog 98 #[.int .i64 a0] w fun e w' => e = .returned (.bool r) ∧ Drawn0 w w' := by
  have H : (if a0 ≥ 1 then (some (decide (a0 < 4096))) else (some false)) = some r := h
  clear h
  by_cases c2 : a0 ≥ 1
  · rw [if_pos c2] at H
    have c2b0 : decide (1 ≤ a0) = true := decide_eq_true c2
    clear c2
    obtain rfl := Option.some.inj H
    go_enter Tryz.func98, Tryz.ntmps98
    go_wp2
    go_ret
    exact ⟨by first | rfl | (simp; done) | (simp [*]; done), by repeat (first | exact Drawn0.refl _ | apply Drawn0.step)⟩
  · rw [if_neg c2] at H
    have c2b0 : decide (1 ≤ a0) = false := decide_eq_false c2
    clear c2
    obtain rfl := Option.some.inj H
    go_enter Tryz.func98, Tryz.ntmps98
    go_wp2
    go_ret
    exact ⟨by first | rfl | (simp; done) | (simp [*]; done), by repeat (first | exact Drawn0.refl _ | apply Drawn0.step)⟩

end Go.Proofs.YtmheajenlhlbhaaGreatDoor.X


namespace Go.Proofs.YtmheajenlhlbhaaGreatDoor.X
open Go.RowKit Go.Proofs.YtmheajenlhlbhaaGreatDoorW.PrintWords Go.Proofs.YtmheajenlhlbhaaGreatDoorW.PrintLast Go.Proofs.YtmheajenlhlbhaaGreatDoorW.PrintMore
attribute [local go_sem] max2_int min2_int max_two min_two max_three min_three max_four min_four   -- for this text's walks alone
set_option linter.unusedVariables false
set_option linter.unusedSimpArgs false

def leaf_value.f (a0_0 : Bool) (a0_1 : ByteArray) (a0_2 : Int) (a0_3 : Int) (a1 : Int) : Option (Bool) := (cell_Right.f a0_0 a0_1 a0_2 a0_3).bind fun t175 => (if t175 = true then (some (a0_0 == (decide ((mx a0_2 (a0_1.size : Int)) > (wrap64 (Int.tdiv a1 4)))))) else (some false))
set_option maxHeartbeats 8000000 in
set_option maxRecDepth 100000 in
theorem leaf_value.calls (a0_0 : Bool) (a0_1 : ByteArray) (a0_2 : Int) (a0_3 : Int) (a1 : Int) (r : Bool) (w : World) (h : leaf_value.f a0_0 a0_1 a0_2 a0_3 a1 = some r) :
    Calls Tryz.prog 99 #[.agg #[.bool a0_0, .string a0_1, .int .i64 a0_2, .int .i64 a0_3], .int .i64 a1] w fun e w' => e = .returned (.bool r) ∧ Below w.heap.size w w' := by
  have hu30 := Tryz.underlying30
  have HB := Aside0.mk (Below.refl w.heap.size w)
  have H : ((cell_Right.f a0_0 a0_1 a0_2 a0_3).bind fun t175 => (if t175 = true then (some (a0_0 == (decide ((mx a0_2 (a0_1.size : Int)) > (wrap64 (Int.tdiv a1 4)))))) else (some false))) = some r := h
  clear h
  replace H := Option.bind_eq_some_iff.mp H
  obtain ⟨t175, A30, H⟩ := H
  replace H : (if t175 = true then (some (a0_0 == (decide ((mx a0_2 (a0_1.size : Int)) > (wrap64 (Int.tdiv a1 4)))))) else (some false)) = some r := H
  have A3 := Aside0.mk A30
  clear A30
  by_cases c4 : t175 = true
  · subst c4
    have H1 : (some (a0_0 == (decide ((mx a0_2 (a0_1.size : Int)) > (wrap64 (Int.tdiv a1 4)))))) = some r := by rw [if_pos rfl] at H; exact H
    clear H
    have H := H1
    clear H1
    obtain ⟨ji5, hji5⟩ : ∃ j_ : Int, (mx a0_2 (a0_1.size : Int)) = j_ := ⟨_, rfl⟩
    replace H : (some (a0_0 == (decide ((ji5) > (wrap64 (Int.tdiv a1 4)))))) = some r := by first | (rw [hji5] at H; exact H) | (simp only [hji5] at H ⊢; exact H)
    (try rw [hji5] at A3)
    (try (have hji5l : 0 ≤ ji5 := by (rw [← hji5]; unfold mx; (repeat' split) <;> omega)))
    (try (have hji5m : 0 ≤ ji5 := by omega))
    have hji5_ : (if a0_2 < (a0_1.size : Int) then (a0_1.size : Int) else a0_2) = ji5 := hji5
    obtain rfl := Option.some.inj H
    go_enter Tryz.func99, Tryz.ntmps99
    go_wp2_with (first | ((with_reducible refine gate_dst (N := 2) rfl ?_); (try (refine gate_guard (by rfl) ?_; dsimp only)); refine box_event ?hg (N := 2) ?hd (cs := #[.bool a0_0, .string a0_1, .int .i64 a0_2, .int .i64 a0_3]) (t := 30) ?hr ?_; (case hd => rfl); (case hg => rfl); (case hr => first | (go_simp; done) | (go_simp; rfl)); intro gb174 hg w6 hbox hb; have n0_ := Aside0.mk (below_step (by repeat (first | (with_reducible first | exact HB.out | apply below_alloc | apply pw_below_drewN | apply below_drew1) | exact HB.out)) hb); have n1_ := Aside0.mk (hbox); have n2_ := Aside0.mk ((by rw [hg]; exact (below_size (by repeat (first | (with_reducible first | exact HB.out | apply below_alloc | apply pw_below_drewN | apply below_drew1) | exact HB.out))) : w.heap.size ≤ gb174)); have n3_ := Aside0.mk ((by rw [hg]; exact (below_size (by repeat (first | (with_reducible first | exact HB.out | apply below_alloc | apply pw_below_drewN | apply below_drew1) | exact HB.out))) : w.heap.size ≤ gb174)); clear HB; have HB := n0_; have BK174 := n1_; have GW174 := n2_; have GE174 := n3_; clear n0_ n1_ n2_ n3_; clear hb hbox hg; have hcz7_0 : w6.cell? ⟨gb174, 0, none⟩ = some (.bool a0_0) := (blk_cell BK174.out 0).trans rfl; have hcz7_1 : w6.cell? ⟨gb174, 1, none⟩ = some (.string a0_1) := (blk_cell BK174.out 1).trans rfl; have hcz7_2 : w6.cell? ⟨gb174, 2, none⟩ = some (.int .i64 a0_2) := (blk_cell BK174.out 2).trans rfl; have hcz7_3 : w6.cell? ⟨gb174, 3, none⟩ = some (.int .i64 a0_3) := (blk_cell BK174.out 3).trans rfl; have hfz7_0 := blk_frozen BK174.out 0; have hfz7_1 := blk_frozen BK174.out 1; have hfz7_2 := blk_frozen BK174.out 2; have hfz7_3 := blk_frozen BK174.out 3) | ((with_reducible refine gate_callee (f := 151) rfl ?_); refine goesL_ (some 6) rfl rfl Tryz.func151 (by kernel_rfl) rfl #[.agg #[.bool a0_0, .string a0_1, .int .i64 a0_2, .int .i64 a0_3]] rfl (by (try simp only [List.map_toArray, List.map_cons, List.map_nil]); first | done | rfl | (simp only [List.length_drop, List.length_take]; rfl)) ?_; (with_reducible refine (cell_Right.calls a0_0 a0_1 a0_2 a0_3 true _ A3.out).mono ?_); rintro e w8 ⟨rfl, hb⟩; refine ⟨_, rfl, ?_⟩; have n0_ := Aside0.mk (blk_below (g := gb174) (o := .cells #[.bool a0_0, .string a0_1, .int .i64 a0_2, .int .i64 a0_3] 30 (0, 0)) (by (with_reducible repeat (first | refine blk_drewN ?_ _ | refine blk_drew ?_ | refine blk_alloc ?_ _)); exact BK174.out) hb); have n1_ := Aside0.mk (below_step (by repeat (first | (with_reducible first | exact HB.out | apply below_alloc | apply pw_below_drewN | apply below_drew1 | refine below_set ?_ GE174.out) | exact HB.out)) hb); clear BK174; clear HB; have BK174 := n0_; have HB := n1_; clear n0_ n1_; (try clear hb); (try clear hb2); (try clear hk); (try clear hi); have hcz9_0 : w8.cell? ⟨gb174, 0, none⟩ = some (.bool a0_0) := (blk_cell BK174.out 0).trans rfl; have hcz9_1 : w8.cell? ⟨gb174, 1, none⟩ = some (.string a0_1) := (blk_cell BK174.out 1).trans rfl; have hcz9_2 : w8.cell? ⟨gb174, 2, none⟩ = some (.int .i64 a0_2) := (blk_cell BK174.out 2).trans rfl; have hcz9_3 : w8.cell? ⟨gb174, 3, none⟩ = some (.int .i64 a0_3) := (blk_cell BK174.out 3).trans rfl; have hfz9_0 := blk_frozen BK174.out 0; have hfz9_1 := blk_frozen BK174.out 1; have hfz9_2 := blk_frozen BK174.out 2; have hfz9_3 := blk_frozen BK174.out 3))
    go_ret
    exact ⟨by first | rfl | (simp [errW_none, errW_some] <;> rfl) | (simp only [← hji5]; first | rfl | (simp [errW_none, errW_some] <;> rfl)) | (simp [*, errW_none, errW_some] <;> rfl), by repeat (first | (with_reducible first | exact HB.out | apply below_alloc | apply pw_below_drewN | apply below_drew1 | refine below_set ?_ GE174.out) | exact HB.out)⟩
  · replace c4 := Bool.eq_false_iff.mpr c4
    subst c4
    have H1 : (some false) = some r := by rw [if_neg (show ¬ (false = true) by decide)] at H; exact H
    clear H
    have H := H1
    clear H1
    obtain rfl := Option.some.inj H
    go_enter Tryz.func99, Tryz.ntmps99
    go_wp2_with (first | ((with_reducible refine gate_dst (N := 2) rfl ?_); (try (refine gate_guard (by rfl) ?_; dsimp only)); refine box_event ?hg (N := 2) ?hd (cs := #[.bool a0_0, .string a0_1, .int .i64 a0_2, .int .i64 a0_3]) (t := 30) ?hr ?_; (case hd => rfl); (case hg => rfl); (case hr => first | (go_simp; done) | (go_simp; rfl)); intro gb174 hg w10 hbox hb; have n0_ := Aside0.mk (below_step (by repeat (first | (with_reducible first | exact HB.out | apply below_alloc | apply pw_below_drewN | apply below_drew1) | exact HB.out)) hb); have n1_ := Aside0.mk (hbox); have n2_ := Aside0.mk ((by rw [hg]; exact (below_size (by repeat (first | (with_reducible first | exact HB.out | apply below_alloc | apply pw_below_drewN | apply below_drew1) | exact HB.out))) : w.heap.size ≤ gb174)); have n3_ := Aside0.mk ((by rw [hg]; exact (below_size (by repeat (first | (with_reducible first | exact HB.out | apply below_alloc | apply pw_below_drewN | apply below_drew1) | exact HB.out))) : w.heap.size ≤ gb174)); clear HB; have HB := n0_; have BK174 := n1_; have GW174 := n2_; have GE174 := n3_; clear n0_ n1_ n2_ n3_; clear hb hbox hg; have hcz11_0 : w10.cell? ⟨gb174, 0, none⟩ = some (.bool a0_0) := (blk_cell BK174.out 0).trans rfl; have hcz11_1 : w10.cell? ⟨gb174, 1, none⟩ = some (.string a0_1) := (blk_cell BK174.out 1).trans rfl; have hcz11_2 : w10.cell? ⟨gb174, 2, none⟩ = some (.int .i64 a0_2) := (blk_cell BK174.out 2).trans rfl; have hcz11_3 : w10.cell? ⟨gb174, 3, none⟩ = some (.int .i64 a0_3) := (blk_cell BK174.out 3).trans rfl; have hfz11_0 := blk_frozen BK174.out 0; have hfz11_1 := blk_frozen BK174.out 1; have hfz11_2 := blk_frozen BK174.out 2; have hfz11_3 := blk_frozen BK174.out 3) | ((with_reducible refine gate_callee (f := 151) rfl ?_); refine goesL_ (some 6) rfl rfl Tryz.func151 (by kernel_rfl) rfl #[.agg #[.bool a0_0, .string a0_1, .int .i64 a0_2, .int .i64 a0_3]] rfl (by (try simp only [List.map_toArray, List.map_cons, List.map_nil]); first | done | rfl | (simp only [List.length_drop, List.length_take]; rfl)) ?_; (with_reducible refine (cell_Right.calls a0_0 a0_1 a0_2 a0_3 false _ A3.out).mono ?_); rintro e w12 ⟨rfl, hb⟩; refine ⟨_, rfl, ?_⟩; have n0_ := Aside0.mk (blk_below (g := gb174) (o := .cells #[.bool a0_0, .string a0_1, .int .i64 a0_2, .int .i64 a0_3] 30 (0, 0)) (by (with_reducible repeat (first | refine blk_drewN ?_ _ | refine blk_drew ?_ | refine blk_alloc ?_ _)); exact BK174.out) hb); have n1_ := Aside0.mk (below_step (by repeat (first | (with_reducible first | exact HB.out | apply below_alloc | apply pw_below_drewN | apply below_drew1 | refine below_set ?_ GE174.out) | exact HB.out)) hb); clear BK174; clear HB; have BK174 := n0_; have HB := n1_; clear n0_ n1_; (try clear hb); (try clear hb2); (try clear hk); (try clear hi)))
    go_ret
    exact ⟨by first | rfl | (simp [errW_none, errW_some] <;> rfl) | (simp [*, errW_none, errW_some] <;> rfl), by repeat (first | (with_reducible first | exact HB.out | apply below_alloc | apply pw_below_drewN | apply below_drew1 | refine below_set ?_ GE174.out) | exact HB.out)⟩

end Go.Proofs.YtmheajenlhlbhaaGreatDoor.X


namespace Go.Proofs.YtmheajenlhlbhaaGreatDoor.X
open Go.RowKit Go.Proofs.YtmheajenlhlbhaaGreatDoorW.PrintWords Go.Proofs.YtmheajenlhlbhaaGreatDoorW.PrintLast Go.Proofs.YtmheajenlhlbhaaGreatDoorW.PrintMore
attribute [local go_sem] max2_int min2_int max_two min_two max_three min_three max_four min_four   -- for this text's walks alone
set_option linter.unusedVariables false
set_option linter.unusedSimpArgs false

def numOk (n : Int) : Bool := decide (1 ≤ n) && decide (n < 4096)
theorem number_ok (n : Int) : leaf_number.f n = some (numOk n) := by
  unfold leaf_number.f numOk
  by_cases h : 1 ≤ n
  · rw [if_pos h]; simp [h]
  · rw [if_neg h]; simp [h]
def mayHead (self right : Int) (high : ByteArray) (p : Int) : Bool :=
  sizeOk p && numOk self && (right == 0 || numOk right) && !(right == self) && ((right == 0) == high.toList.isEmpty) && decide ((high.size : Int) ≤ p / 8)
def valMay (v : S30) (p : Int) : Bool := if valOk v = true then (v.f0 == decide (p / 4 < mx v.f2 (v.f1.size : Int))) else false
def itemAt (right : Int) (high : ByteArray) (p : Int) (l : List S32) (i : Nat) : Bool :=
  decide (((rd_T32 l (i : Int)).f0.size : Int) ≤ p / 8) && valMay (rd_T32 l (i : Int)).f1 p && (decide (i = 0) || Op.bytesLess (rd_T32 l ((i : Int) - 1)).f0.toList (rd_T32 l (i : Int)).f0.toList) && (right == 0 || Op.bytesLess (rd_T32 l (i : Int)).f0.toList high.toList)
def itemsFrom (right : Int) (high : ByteArray) (p : Int) (l : List S32) : Nat → Nat → Bool
  | 0, _ => true
  | d + 1, i => itemAt right high p l i && itemsFrom right high p l d (i + 1)
def mayB (self right : Int) (high : ByteArray) (l : List S32) (p : Int) : Bool := mayHead self right high p && itemsFrom right high p l l.length 0
def leaf_May.f (self right : Int) (high : ByteArray) (l : List S32) (p : Int) : Option Bool := if l.length ≤ 1000000 then some (mayB self right high l p) else none
theorem value_ok (v : S30) (p : Int) (hp : 128 ≤ p ∧ p ≤ 1024) : leaf_value.f v.f0 v.f1 v.f2 v.f3 p = some (valMay v p) := by
  unfold leaf_value.f valMay
  rw [cell_Right_ok]
  have hq : wrap64 (Int.tdiv p 4) = p / 4 := by rw [Int.tdiv_eq_ediv_of_nonneg (by omega)]; exact IntWalk.wrap64_in _ (by omega)
  rw [hq]
  simp only [Option.bind_some]
  by_cases h : valOk v = true
  · rw [if_pos h, if_pos h]
  · rw [if_neg h, if_neg h]
set_option maxRecDepth 100000 in
set_option maxHeartbeats 4000000 in
theorem May_no1 (self right : Int) (high : ByteArray) (p : Int) (A : Option Addr) (c : Nat) (l : List S32) (w : World) (h1 : sizeOk p = false) :
    Calls Tryz.prog 47 #[.agg #[.int .i64 self, .int .i64 right, .string high, .slice A l.length c], .int .i64 p] w fun e w' => e = .returned (.bool false) ∧ Below w.heap.size w w' := by
  have HS := Aside0.mk (show disk_Size.f p = some false by unfold disk_Size.f; exact congrArg some h1)
  clear h1
  go_enter Tryz.func47, Tryz.ntmps47
  go_wp2_with (first | (go_at_call 83; refine (disk_Size.calls p false _ HS.out).mono ?_; rintro e w1 ⟨rfl, hb1⟩; have HB := Aside0.mk (below_step (below_alloc (Below.refl _ _) _) hb1); obtain ⟨hc1, hz1⟩ : (∀ j, w1.cell? ⟨w.heap.size, j, none⟩ = (w.alloc (.cells #[.int .i64 self, .int .i64 right, .string high, .slice A l.length c] 24)).cell? ⟨w.heap.size, j, none⟩) ∧ w.heap.size < w1.heap.size := ⟨fun j => hb1.cell (by simp), by have := hb1.size; simp at this; omega⟩; clear hb1))
  go_ret
  exact ⟨rfl, by repeat (first | exact HB.out | apply pw_below_drewN | apply below_drew)⟩
set_option maxRecDepth 100000 in
set_option maxHeartbeats 4000000 in
theorem May_no2 (self right : Int) (high : ByteArray) (p : Int) (A : Option Addr) (c : Nat) (l : List S32) (w : World) (h1 : sizeOk p = true) (h2 : numOk self = false) :
    Calls Tryz.prog 47 #[.agg #[.int .i64 self, .int .i64 right, .string high, .slice A l.length c], .int .i64 p] w fun e w' => e = .returned (.bool false) ∧ Below w.heap.size w w' := by
  have HS := Aside0.mk (show disk_Size.f p = some true by unfold disk_Size.f; exact congrArg some h1)
  have hpb := sizeOk_bounds h1
  have hp0 := hpb.1
  have hp1 := hpb.2
  have HN := Aside0.mk (show leaf_number.f self = some false by rw [number_ok, h2])
  clear h1 h2
  go_enter Tryz.func47, Tryz.ntmps47
  go_wp2_with (first | (go_at_call 83; refine (disk_Size.calls p true _ HS.out).mono ?_; rintro e w1 ⟨rfl, hb1⟩; have HB := Aside0.mk (below_step (below_alloc (Below.refl _ _) _) hb1); obtain ⟨hc1, hz1⟩ : (∀ j, w1.cell? ⟨w.heap.size, j, none⟩ = (w.alloc (.cells #[.int .i64 self, .int .i64 right, .string high, .slice A l.length c] 24)).cell? ⟨w.heap.size, j, none⟩) ∧ w.heap.size < w1.heap.size := ⟨fun j => hb1.cell (by simp), by have := hb1.size; simp at this; omega⟩; clear hb1) | (go_at_call 98; ((with_reducible refine (leaf_number.calls self false _ HN.out).mono ?_); rintro e w2 ⟨rfl, ⟨nd, rfl⟩⟩)))
  go_ret
  exact ⟨rfl, by repeat (first | exact HB.out | apply pw_below_drewN | apply below_drew)⟩
set_option maxRecDepth 100000 in
set_option maxHeartbeats 4000000 in
theorem May_no3 (self right : Int) (high : ByteArray) (p : Int) (A : Option Addr) (c : Nat) (l : List S32) (w : World) (h1 : sizeOk p = true) (h2 : numOk self = true) (h3 : ¬ right = 0) (h4 : numOk right = false) :
    Calls Tryz.prog 47 #[.agg #[.int .i64 self, .int .i64 right, .string high, .slice A l.length c], .int .i64 p] w fun e w' => e = .returned (.bool false) ∧ Below w.heap.size w w' := by
  have HS := Aside0.mk (show disk_Size.f p = some true by unfold disk_Size.f; exact congrArg some h1)
  have hpb := sizeOk_bounds h1
  have hp0 := hpb.1
  have hp1 := hpb.2
  have HN := Aside0.mk (show leaf_number.f self = some true by rw [number_ok, h2])
  have q1 : (right != 0) = true := by simpa using h3
  have q2 : (right == 0) = false := by simpa using h3
  have HR := Aside0.mk (show leaf_number.f right = some false by rw [number_ok, h4])
  clear h1 h2 h3 h4
  go_enter Tryz.func47, Tryz.ntmps47
  go_wp2_with (first | (go_at_call 83; refine (disk_Size.calls p true _ HS.out).mono ?_; rintro e w1 ⟨rfl, hb1⟩; have HB := Aside0.mk (below_step (below_alloc (Below.refl _ _) _) hb1); obtain ⟨hc1, hz1⟩ : (∀ j, w1.cell? ⟨w.heap.size, j, none⟩ = (w.alloc (.cells #[.int .i64 self, .int .i64 right, .string high, .slice A l.length c] 24)).cell? ⟨w.heap.size, j, none⟩) ∧ w.heap.size < w1.heap.size := ⟨fun j => hb1.cell (by simp), by have := hb1.size; simp at this; omega⟩; clear hb1) | (go_at_call 98; ((with_reducible refine (leaf_number.calls self true _ HN.out).mono ?_); rintro e w2 ⟨rfl, ⟨nd, rfl⟩⟩)) | (go_at_call 98; ((with_reducible refine (leaf_number.calls right false _ HR.out).mono ?_); rintro e w2 ⟨rfl, ⟨nd, rfl⟩⟩)))
  go_ret
  exact ⟨rfl, by repeat (first | exact HB.out | apply pw_below_drewN | apply below_drew)⟩
set_option maxRecDepth 100000 in
set_option maxHeartbeats 4000000 in
theorem May_no40 (self right : Int) (high : ByteArray) (p : Int) (A : Option Addr) (c : Nat) (l : List S32) (w : World) (h1 : sizeOk p = true) (h2 : numOk self = true) (h3 : right = 0) (h5 : right = self) :
    Calls Tryz.prog 47 #[.agg #[.int .i64 self, .int .i64 right, .string high, .slice A l.length c], .int .i64 p] w fun e w' => e = .returned (.bool false) ∧ Below w.heap.size w w' := by
  have HS := Aside0.mk (show disk_Size.f p = some true by unfold disk_Size.f; exact congrArg some h1)
  have hpb := sizeOk_bounds h1
  have hp0 := hpb.1
  have hp1 := hpb.2
  have HN := Aside0.mk (show leaf_number.f self = some true by rw [number_ok, h2])
  have q1 : (right != 0) = false := by simpa using h3
  have q2 : (right == 0) = true := by simpa using h3
  have q3 : (right == self) = true := by simpa using h5
  clear h1 h2 h3 h5
  go_enter Tryz.func47, Tryz.ntmps47
  go_wp2_with (first | (go_at_call 83; refine (disk_Size.calls p true _ HS.out).mono ?_; rintro e w1 ⟨rfl, hb1⟩; have HB := Aside0.mk (below_step (below_alloc (Below.refl _ _) _) hb1); obtain ⟨hc1, hz1⟩ : (∀ j, w1.cell? ⟨w.heap.size, j, none⟩ = (w.alloc (.cells #[.int .i64 self, .int .i64 right, .string high, .slice A l.length c] 24)).cell? ⟨w.heap.size, j, none⟩) ∧ w.heap.size < w1.heap.size := ⟨fun j => hb1.cell (by simp), by have := hb1.size; simp at this; omega⟩; clear hb1) | (go_at_call 98; ((with_reducible refine (leaf_number.calls self true _ HN.out).mono ?_); rintro e w2 ⟨rfl, ⟨nd, rfl⟩⟩)))
  go_ret
  exact ⟨rfl, by repeat (first | exact HB.out | apply pw_below_drewN | apply below_drew)⟩
set_option maxRecDepth 100000 in
set_option maxHeartbeats 4000000 in
theorem May_no50 (self right : Int) (high : ByteArray) (p : Int) (A : Option Addr) (c : Nat) (l : List S32) (w : World) (h1 : sizeOk p = true) (h2 : numOk self = true) (h3 : right = 0) (h5 : ¬ right = self) (h6 : high.toList ≠ []) :
    Calls Tryz.prog 47 #[.agg #[.int .i64 self, .int .i64 right, .string high, .slice A l.length c], .int .i64 p] w fun e w' => e = .returned (.bool false) ∧ Below w.heap.size w w' := by
  have HS := Aside0.mk (show disk_Size.f p = some true by unfold disk_Size.f; exact congrArg some h1)
  have hpb := sizeOk_bounds h1
  have hp0 := hpb.1
  have hp1 := hpb.2
  have HN := Aside0.mk (show leaf_number.f self = some true by rw [number_ok, h2])
  have q1 : (right != 0) = false := by simpa using h3
  have q2 : (right == 0) = true := by simpa using h3
  have q3 : (right == self) = false := by simpa using h5
  have q4 : high.toList.isEmpty = false := by simpa using h6
  have q5 : (high.toList == []) = false := by simpa using h6
  clear h1 h2 h3 h5 h6 hpb
  go_enter Tryz.func47, Tryz.ntmps47
  go_wp2_with (first | (go_at_call 83; refine (disk_Size.calls p true _ HS.out).mono ?_; rintro e w1 ⟨rfl, hb1⟩; have HB := Aside0.mk (below_step (below_alloc (Below.refl _ _) _) hb1); obtain ⟨hc1, hz1⟩ : (∀ j, w1.cell? ⟨w.heap.size, j, none⟩ = (w.alloc (.cells #[.int .i64 self, .int .i64 right, .string high, .slice A l.length c] 24)).cell? ⟨w.heap.size, j, none⟩) ∧ w.heap.size < w1.heap.size := ⟨fun j => hb1.cell (by simp), by have := hb1.size; simp at this; omega⟩; clear hb1) | (go_at_call 98; ((with_reducible refine (leaf_number.calls self true _ HN.out).mono ?_); rintro e w2 ⟨rfl, ⟨nd, rfl⟩⟩)))
  go_ret
  exact ⟨rfl, by repeat (first | exact HB.out | apply pw_below_drewN | apply below_drew)⟩
set_option maxRecDepth 100000 in
set_option maxHeartbeats 4000000 in
theorem May_no60 (self right : Int) (high : ByteArray) (p : Int) (A : Option Addr) (c : Nat) (l : List S32) (w : World) (h1 : sizeOk p = true) (h2 : numOk self = true) (h3 : right = 0) (h5 : ¬ right = self) (h6 : high.toList = []) (h7 : p / 8 < (high.size : Int)) :
    Calls Tryz.prog 47 #[.agg #[.int .i64 self, .int .i64 right, .string high, .slice A l.length c], .int .i64 p] w fun e w' => e = .returned (.bool false) ∧ Below w.heap.size w w' := by
  have HS := Aside0.mk (show disk_Size.f p = some true by unfold disk_Size.f; exact congrArg some h1)
  have hpb := sizeOk_bounds h1
  have hp0 := hpb.1
  have hp1 := hpb.2
  have HN := Aside0.mk (show leaf_number.f self = some true by rw [number_ok, h2])
  have q1 : (right != 0) = false := by simpa using h3
  have q2 : (right == 0) = true := by simpa using h3
  have q3 : (right == self) = false := by simpa using h5
  have q4 : high.toList.isEmpty = true := by simpa using h6
  have q5 : (high.toList == []) = true := by simpa using h6
  have q6 : decide (p / 8 < (high.size : Int)) = true := decide_eq_true h7
  clear h1 h2 h3 h5 h6 h7
  go_enter Tryz.func47, Tryz.ntmps47
  go_wp2_with (first | (go_at_call 83; refine (disk_Size.calls p true _ HS.out).mono ?_; rintro e w1 ⟨rfl, hb1⟩; have HB := Aside0.mk (below_step (below_alloc (Below.refl _ _) _) hb1); obtain ⟨hc1, hz1⟩ : (∀ j, w1.cell? ⟨w.heap.size, j, none⟩ = (w.alloc (.cells #[.int .i64 self, .int .i64 right, .string high, .slice A l.length c] 24)).cell? ⟨w.heap.size, j, none⟩) ∧ w.heap.size < w1.heap.size := ⟨fun j => hb1.cell (by simp), by have := hb1.size; simp at this; omega⟩; clear hb1) | (go_at_call 98; ((with_reducible refine (leaf_number.calls self true _ HN.out).mono ?_); rintro e w2 ⟨rfl, ⟨nd, rfl⟩⟩)))
  go_ret
  exact ⟨rfl, by repeat (first | exact HB.out | apply pw_below_drewN | apply below_drew)⟩
set_option maxRecDepth 100000 in
set_option maxHeartbeats 4000000 in
theorem May_no41 (self right : Int) (high : ByteArray) (p : Int) (A : Option Addr) (c : Nat) (l : List S32) (w : World) (h1 : sizeOk p = true) (h2 : numOk self = true) (h3 : ¬ right = 0) (h4 : numOk right = true) (h5 : right = self) :
    Calls Tryz.prog 47 #[.agg #[.int .i64 self, .int .i64 right, .string high, .slice A l.length c], .int .i64 p] w fun e w' => e = .returned (.bool false) ∧ Below w.heap.size w w' := by
  have HS := Aside0.mk (show disk_Size.f p = some true by unfold disk_Size.f; exact congrArg some h1)
  have hpb := sizeOk_bounds h1
  have hp0 := hpb.1
  have hp1 := hpb.2
  have HN := Aside0.mk (show leaf_number.f self = some true by rw [number_ok, h2])
  have q1 : (right != 0) = true := by simpa using h3
  have q2 : (right == 0) = false := by simpa using h3
  have HR := Aside0.mk (show leaf_number.f right = some true by rw [number_ok, h4])
  have q3 : (right == self) = true := by simpa using h5
  clear h1 h2 h3 h4 h5
  go_enter Tryz.func47, Tryz.ntmps47
  go_wp2_with (first | (go_at_call 83; refine (disk_Size.calls p true _ HS.out).mono ?_; rintro e w1 ⟨rfl, hb1⟩; have HB := Aside0.mk (below_step (below_alloc (Below.refl _ _) _) hb1); obtain ⟨hc1, hz1⟩ : (∀ j, w1.cell? ⟨w.heap.size, j, none⟩ = (w.alloc (.cells #[.int .i64 self, .int .i64 right, .string high, .slice A l.length c] 24)).cell? ⟨w.heap.size, j, none⟩) ∧ w.heap.size < w1.heap.size := ⟨fun j => hb1.cell (by simp), by have := hb1.size; simp at this; omega⟩; clear hb1) | (go_at_call 98; ((with_reducible refine (leaf_number.calls self true _ HN.out).mono ?_); rintro e w2 ⟨rfl, ⟨nd, rfl⟩⟩)) | (go_at_call 98; ((with_reducible refine (leaf_number.calls right true _ HR.out).mono ?_); rintro e w2 ⟨rfl, ⟨nd, rfl⟩⟩)))
  go_ret
  exact ⟨rfl, by repeat (first | exact HB.out | apply pw_below_drewN | apply below_drew)⟩
set_option maxRecDepth 100000 in
set_option maxHeartbeats 4000000 in
theorem May_no51 (self right : Int) (high : ByteArray) (p : Int) (A : Option Addr) (c : Nat) (l : List S32) (w : World) (h1 : sizeOk p = true) (h2 : numOk self = true) (h3 : ¬ right = 0) (h4 : numOk right = true) (h5 : ¬ right = self) (h6 : high.toList = []) :
    Calls Tryz.prog 47 #[.agg #[.int .i64 self, .int .i64 right, .string high, .slice A l.length c], .int .i64 p] w fun e w' => e = .returned (.bool false) ∧ Below w.heap.size w w' := by
  have HS := Aside0.mk (show disk_Size.f p = some true by unfold disk_Size.f; exact congrArg some h1)
  have hpb := sizeOk_bounds h1
  have hp0 := hpb.1
  have hp1 := hpb.2
  have HN := Aside0.mk (show leaf_number.f self = some true by rw [number_ok, h2])
  have q1 : (right != 0) = true := by simpa using h3
  have q2 : (right == 0) = false := by simpa using h3
  have HR := Aside0.mk (show leaf_number.f right = some true by rw [number_ok, h4])
  have q3 : (right == self) = false := by simpa using h5
  have q4 : high.toList.isEmpty = true := by simpa using h6
  have q5 : (high.toList == []) = true := by simpa using h6
  clear h1 h2 h3 h4 h5 h6 hpb
  go_enter Tryz.func47, Tryz.ntmps47
  go_wp2_with (first | (go_at_call 83; refine (disk_Size.calls p true _ HS.out).mono ?_; rintro e w1 ⟨rfl, hb1⟩; have HB := Aside0.mk (below_step (below_alloc (Below.refl _ _) _) hb1); obtain ⟨hc1, hz1⟩ : (∀ j, w1.cell? ⟨w.heap.size, j, none⟩ = (w.alloc (.cells #[.int .i64 self, .int .i64 right, .string high, .slice A l.length c] 24)).cell? ⟨w.heap.size, j, none⟩) ∧ w.heap.size < w1.heap.size := ⟨fun j => hb1.cell (by simp), by have := hb1.size; simp at this; omega⟩; clear hb1) | (go_at_call 98; ((with_reducible refine (leaf_number.calls self true _ HN.out).mono ?_); rintro e w2 ⟨rfl, ⟨nd, rfl⟩⟩)) | (go_at_call 98; ((with_reducible refine (leaf_number.calls right true _ HR.out).mono ?_); rintro e w2 ⟨rfl, ⟨nd, rfl⟩⟩)))
  go_ret
  exact ⟨rfl, by repeat (first | exact HB.out | apply pw_below_drewN | apply below_drew)⟩
set_option maxRecDepth 100000 in
set_option maxHeartbeats 4000000 in
theorem May_no61 (self right : Int) (high : ByteArray) (p : Int) (A : Option Addr) (c : Nat) (l : List S32) (w : World) (h1 : sizeOk p = true) (h2 : numOk self = true) (h3 : ¬ right = 0) (h4 : numOk right = true) (h5 : ¬ right = self) (h6 : high.toList ≠ []) (h7 : p / 8 < (high.size : Int)) :
    Calls Tryz.prog 47 #[.agg #[.int .i64 self, .int .i64 right, .string high, .slice A l.length c], .int .i64 p] w fun e w' => e = .returned (.bool false) ∧ Below w.heap.size w w' := by
  have HS := Aside0.mk (show disk_Size.f p = some true by unfold disk_Size.f; exact congrArg some h1)
  have hpb := sizeOk_bounds h1
  have hp0 := hpb.1
  have hp1 := hpb.2
  have HN := Aside0.mk (show leaf_number.f self = some true by rw [number_ok, h2])
  have q1 : (right != 0) = true := by simpa using h3
  have q2 : (right == 0) = false := by simpa using h3
  have HR := Aside0.mk (show leaf_number.f right = some true by rw [number_ok, h4])
  have q3 : (right == self) = false := by simpa using h5
  have q4 : high.toList.isEmpty = false := by simpa using h6
  have q5 : (high.toList == []) = false := by simpa using h6
  have q6 : decide (p / 8 < (high.size : Int)) = true := decide_eq_true h7
  clear h1 h2 h3 h4 h5 h6 h7
  go_enter Tryz.func47, Tryz.ntmps47
  go_wp2_with (first | (go_at_call 83; refine (disk_Size.calls p true _ HS.out).mono ?_; rintro e w1 ⟨rfl, hb1⟩; have HB := Aside0.mk (below_step (below_alloc (Below.refl _ _) _) hb1); obtain ⟨hc1, hz1⟩ : (∀ j, w1.cell? ⟨w.heap.size, j, none⟩ = (w.alloc (.cells #[.int .i64 self, .int .i64 right, .string high, .slice A l.length c] 24)).cell? ⟨w.heap.size, j, none⟩) ∧ w.heap.size < w1.heap.size := ⟨fun j => hb1.cell (by simp), by have := hb1.size; simp at this; omega⟩; clear hb1) | (go_at_call 98; ((with_reducible refine (leaf_number.calls self true _ HN.out).mono ?_); rintro e w2 ⟨rfl, ⟨nd, rfl⟩⟩)) | (go_at_call 98; ((with_reducible refine (leaf_number.calls right true _ HR.out).mono ?_); rintro e w2 ⟨rfl, ⟨nd, rfl⟩⟩)))
  go_ret
  exact ⟨rfl, by repeat (first | exact HB.out | apply pw_below_drewN | apply below_drew)⟩
def MayS (w : World) (right : Int) (high : ByteArray) (A : Option Addr) (n c : Nat) (W : World) : Prop := (W.cell? ⟨w.heap.size, 1, none⟩ = some (.int .i64 right) ∧ W.cell? ⟨w.heap.size, 2, none⟩ = some (.string high) ∧ W.cell? ⟨w.heap.size, 3, none⟩ = some (.slice A n c)) ∧ Below w.heap.size w W
theorem MayS.step {w W w2 : World} {right : Int} {high : ByteArray} {A : Option Addr} {n c : Nat} (h : MayS w right high A n c W) (hb : Below W.heap.size W w2) : MayS w right high A n c w2 := by
  obtain ⟨⟨h0, h1, h2⟩, hB⟩ := h
  exact ⟨⟨(hb.cell (World.block_lt_of_cell? W _ h0)).trans h0, (hb.cell (World.block_lt_of_cell? W _ h1)).trans h1, (hb.cell (World.block_lt_of_cell? W _ h2)).trans h2⟩, below_step hB hb⟩
theorem MayS.start (w : World) (self right : Int) (high : ByteArray) (A : Option Addr) (n c : Nat) (o : Obj) (h : o = .cells #[.int .i64 self, .int .i64 right, .string high, .slice A n c] 24 (0, 0)) : MayS w right high A n c (w.alloc o) := by
  subst h
  refine ⟨⟨?_, ?_, ?_⟩, below_alloc (Below.refl _ _) _⟩ <;> simp
def MayX (w : World) (right : Int) (high : ByteArray) (A : Option Addr) (n c : Nat) (B : Nat) (x : S32) (ad : Addr) (pk : ByteArray) (W : World) : Prop := W.cell? ⟨B, 0, none⟩ = some (.string x.f0) ∧ W.cell? ⟨B, 1, none⟩ = some (.bool x.f1.f0) ∧ W.cell? ⟨B, 2, none⟩ = some (.string x.f1.f1) ∧ W.cell? ⟨B, 3, none⟩ = some (.int .i64 x.f1.f2) ∧ W.cell? ⟨B, 4, none⟩ = some (.int .i64 x.f1.f3) ∧ W.cell? ad = some (.string pk) ∧ W.cell? ⟨w.heap.size, 1, none⟩ = some (.int .i64 right) ∧ W.cell? ⟨w.heap.size, 2, none⟩ = some (.string high) ∧ W.cell? ⟨w.heap.size, 3, none⟩ = some (.slice A n c) ∧ Below w.heap.size w W
theorem MayX.step {w W w2 : World} {right : Int} {high : ByteArray} {A : Option Addr} {n c B : Nat} {x : S32} {ad : Addr} {pk : ByteArray} (h : MayX w right high A n c B x ad pk W) (hb : Below W.heap.size W w2) : MayX w right high A n c B x ad pk w2 := by
  obtain ⟨h0, h1, h2, h3, h4, h5, h6, h7, h8, hB⟩ := h
  exact ⟨(hb.cell (World.block_lt_of_cell? W _ h0)).trans h0, (hb.cell (World.block_lt_of_cell? W _ h1)).trans h1, (hb.cell (World.block_lt_of_cell? W _ h2)).trans h2, (hb.cell (World.block_lt_of_cell? W _ h3)).trans h3, (hb.cell (World.block_lt_of_cell? W _ h4)).trans h4, (hb.cell (World.block_lt_of_cell? W _ h5)).trans h5, (hb.cell (World.block_lt_of_cell? W _ h6)).trans h6, (hb.cell (World.block_lt_of_cell? W _ h7)).trans h7, (hb.cell (World.block_lt_of_cell? W _ h8)).trans h8, below_step hB hb⟩
theorem MayX.drew {w W : World} {right : Int} {high : ByteArray} {A : Option Addr} {n c B : Nat} {x : S32} {ad : Addr} {pk : ByteArray} (h : MayX w right high A n c B x ad pk W) : MayX w right high A n c B x ad pk W.drew := h.step (below_drew (Below.refl _ _))
theorem MayX.mayS {w W : World} {right : Int} {high : ByteArray} {A : Option Addr} {n c B : Nat} {x : S32} {ad : Addr} {pk : ByteArray} (h : MayX w right high A n c B x ad pk W) : MayS w right high A n c W := ⟨⟨h.2.2.2.2.2.2.1, h.2.2.2.2.2.2.2.1, h.2.2.2.2.2.2.2.2.1⟩, h.2.2.2.2.2.2.2.2.2⟩
theorem itemsFrom_step {right : Int} {high : ByteArray} {p : Int} {l : List S32} {k : Nat} (hk : k < l.length) : itemsFrom right high p l (l.length - k) k = (itemAt right high p l k && itemsFrom right high p l (l.length - (k + 1)) (k + 1)) := by
  rw [show l.length - k = (l.length - (k + 1)) + 1 by omega]
  rfl
set_option maxRecDepth 100000 in
set_option maxHeartbeats 4000000 in
theorem May_loop1 (self right : Int) (high : ByteArray) (p : Int) (A : Option Addr) (c : Nat) (l : List S32) (w : World) (h1 : sizeOk p = true) (h2 : numOk self = true) (h3 : ¬ right = 0) (h4 : numOk right = true) (h5 : ¬ right = self) (h6 : high.toList ≠ []) (h7 : (high.size : Int) ≤ p / 8) (r : Bool) (hr : itemsFrom right high p l l.length 0 = r) (hrow : Kd.C k32 w A l.length l) (hc : l.length ≤ c) (hln : l.length ≤ 1000000) :
    Calls Tryz.prog 47 #[.agg #[.int .i64 self, .int .i64 right, .string high, .slice A l.length c], .int .i64 p] w fun e w' => e = .returned (.bool r) ∧ Below w.heap.size w w' := by
  have HS := Aside0.mk (show disk_Size.f p = some true by unfold disk_Size.f; exact congrArg some h1)
  have hpb := sizeOk_bounds h1
  have hp0 := hpb.1
  have hp1 := hpb.2
  have HN := Aside0.mk (show leaf_number.f self = some true by rw [number_ok, h2])
  have q1 : (right != 0) = true := by simpa using h3
  have q2 : (right == 0) = false := by simpa using h3
  have HR := Aside0.mk (show leaf_number.f right = some true by rw [number_ok, h4])
  have q3 : (right == self) = false := by simpa using h5
  have q4 : high.toList.isEmpty = false := by simpa using h6
  have q5 : (high.toList == []) = false := by simpa using h6
  have q6 : decide (p / 8 < (high.size : Int)) = false := decide_eq_false (by omega)
  have HI := Aside0.mk hr
  have HL := Aside0.mk hrow
  clear h1 h2 h3 h4 h5 h6 h7 hr hrow hc
  go_enter Tryz.func47, Tryz.ntmps47
  go_wp2_with (first | (go_at_call 83; refine (disk_Size.calls p true _ HS.out).mono ?_; rintro e w1 ⟨rfl, hb1⟩; have HB := Aside0.mk (below_step (below_alloc (Below.refl _ _) _) hb1); have hS := (MayS.start w self right high A l.length c _ rfl).step hb1; obtain ⟨hc1, hz1⟩ : (∀ j, w1.cell? ⟨w.heap.size, j, none⟩ = (w.alloc (.cells #[.int .i64 self, .int .i64 right, .string high, .slice A l.length c] 24)).cell? ⟨w.heap.size, j, none⟩) ∧ w.heap.size < w1.heap.size := ⟨fun j => hb1.cell (by simp), by have := hb1.size; simp at this; omega⟩; clear hb1) | (go_at_call 98; ((with_reducible refine (leaf_number.calls self true _ HN.out).mono ?_); rintro e w2 ⟨rfl, ⟨nd, rfl⟩⟩)) | (go_at_call 98; ((with_reducible refine (leaf_number.calls right true _ HR.out).mono ?_); rintro e w2 ⟨rfl, ⟨nd, rfl⟩⟩)))
  go_loopw [54] (fun i wr => ∃ k : Nat, k ≤ l.length ∧ i = .int .i64 k ∧ Aside0 (itemsFrom right high p l (l.length - k) k = r) ∧ Aside0 (MayS w right high A l.length c wr)) (fun i _ => l.length - (intOf i).toNat)
  case atStart => exact ⟨0, by omega, rfl, HI, ⟨by first | exact hS | exact hS.step (pw_below_drewN (Below.refl _ _) _)⟩⟩
  case round =>
    clear HB hS hc1 hz1 HI
    obtain ⟨k, h0, rfl, HI, HM⟩ := hrel
    by_cases hx : k < l.length
    · obtain ⟨ad0, e0, g0, g1, g2, g3, g4⟩ := at_T32 HL.out (k : Int) (by omega) (by omega)
      cases e0
      have hst := (itemsFrom_step hx).symm.trans HI.out
      unfold itemAt at hst
      have hval := value_ok (rd_T32 l (k : Int)).f1 p (by have := hpb; omega)
      obtain ⟨pk, hpk0, hpk⟩ : ∃ pk, (rd_T32 l ((k : Int) - 1)).f0 = pk ∧ (∀ m : Nat, k = m + 1 → wr.cell? (ad0.add (m * 5)) = some (.string pk)) := by
        refine ⟨_, rfl, ?_⟩
        rintro m rfl
        obtain ⟨ad1, e1, p0, _⟩ := at_T32 HL.out (m : Int) (by omega) (by omega)
        cases e1
        rw [show ((m + 1 : Nat) : Int) - 1 = (m : Int) by omega]
        rw [Int.toNat_natCast] at p0
        exact (HM.out.2.cell (World.block_lt_of_cell? w _ p0)).trans p0
      rw [hpk0] at hst
      have eK : (k : Int).toNat = k := Int.toNat_natCast k
      rw [eK] at g0 g1 g2 g3 g4
      replace g0 := (HM.out.2.cell (World.block_lt_of_cell? w _ g0)).trans g0
      replace g1 := (HM.out.2.cell (World.block_lt_of_cell? w _ g1)).trans g1
      replace g2 := (HM.out.2.cell (World.block_lt_of_cell? w _ g2)).trans g2
      replace g3 := (HM.out.2.cell (World.block_lt_of_cell? w _ g3)).trans g3
      replace g4 := (HM.out.2.cell (World.block_lt_of_cell? w _ g4)).trans g4
      clear eK hpk0
      generalize rd_T32 l (k : Int) = x at g0 g1 g2 g3 g4 hst hval
      have hq8 : IntKind.i64.wrap (p.tdiv 8) = p / 8 := by rw [Int.tdiv_eq_ediv_of_nonneg (by omega)]; exact IntWalk.i64_in _ (by omega)
      by_cases hA : (x.f0.size : Int) ≤ p / 8
      · have c1 : decide (p / 8 < (x.f0.size : Int)) = false := decide_eq_false (by omega)
        rw [decide_eq_true hA] at hst
        clear hA
        by_cases hB : valMay x.f1 p = true
        · rw [hB] at hst hval
          clear hB
          by_cases hC : k = 0 ∨ Op.bytesLess pk.toList x.f0.toList = true
          · by_cases hk : k = 0
            · have hC2 : (decide (k = 0) || Op.bytesLess pk.toList x.f0.toList) = true := by simpa using hC
              rw [hC2] at hst
              clear hC2
              clear hC
              have hk0 : decide (0 < (k : Int)) = false := decide_eq_false (by omega)
              have hk1 : decide (0 < k) = false := decide_eq_false (by omega)
              have hpk := g0
              obtain ⟨pk2, hpk2⟩ : ∃ pk2, x.f0 = pk2 := ⟨_, rfl⟩
              rw [hpk2] at hpk
              clear hpk2
              by_cases hD : Op.bytesLess x.f0.toList high.toList = true
              · have HI := Aside0.mk (show itemsFrom right high p l (l.length - (k + 1)) (k + 1) = r by rw [q2, hD] at hst; simpa using hst)
                have HV := Aside0.mk hval
                clear hst hval hk
                go_wp2
                have hX : MayX w right high (some ad0) l.length c wr.heap.size x (ad0.add (k * 5)) pk2 (wr.alloc (.cells #[.string x.f0, .bool x.f1.f0, .string x.f1.f1, .int .i64 x.f1.f2, .int .i64 x.f1.f3] 32)) := ⟨by simp, by simp, by simp, by simp, by simp, ((below_alloc (Below.refl _ _) _).cell (World.block_lt_of_cell? wr _ hpk)).trans hpk, ((below_alloc (Below.refl _ _) _).cell (World.block_lt_of_cell? wr _ HM.out.1.1)).trans HM.out.1.1, ((below_alloc (Below.refl _ _) _).cell (World.block_lt_of_cell? wr _ HM.out.1.2.1)).trans HM.out.1.2.1, ((below_alloc (Below.refl _ _) _).cell (World.block_lt_of_cell? wr _ HM.out.1.2.2)).trans HM.out.1.2.2, below_alloc HM.out.2 _⟩
                clear hpk HM g0 g1 g2 g3 g4
                refine wp_region_class (MayX w right high (some ad0) l.length c wr.heap.size x (ad0.add (k * 5)) pk2) (by kernel_rfl) (by kernel_rfl) hX.drew ?_
                repeat (first | go_big_quiet_skip | (go_big_quiet_want; go_big_quiet_op; first | go_big_quiet_on | (apply Exists.intro; refine ⟨fun W hW => ?_, ?_⟩; (first | (with_reducible exact rfl) | (go_at_call 99; ((with_reducible refine (leaf_value.calls x.f1.f0 x.f1.f1 x.f1.f2 x.f1.f3 p true _ HV.out).mono ?_); rintro e w5 ⟨rfl, hb5⟩; exact ⟨rfl, hW.step hb5⟩)) | (obtain ⟨y0, y1, y2, y3, y4, y5, y6, y7, y8, yB⟩ := hW; clear yB; go_simp; with_reducible rfl)); go_big_quiet_on)))
                refine wpQuiet_nil ?_
                intro W hW
                clear hX
                go_wp2
                go_roundw
                case rel => exact ⟨k + 1, by omega, by go_num, HI, ⟨hW.mayS⟩⟩
                case measure => simp [intOf]; omega
              · have hD : Op.bytesLess x.f0.toList high.toList = false := by simpa using hD
                have HI := Aside0.mk (show false = r by rw [q2, hD] at hst; simpa using hst)
                have HV := Aside0.mk hval
                clear hst hval hk
                go_wp2
                have hX : MayX w right high (some ad0) l.length c wr.heap.size x (ad0.add (k * 5)) pk2 (wr.alloc (.cells #[.string x.f0, .bool x.f1.f0, .string x.f1.f1, .int .i64 x.f1.f2, .int .i64 x.f1.f3] 32)) := ⟨by simp, by simp, by simp, by simp, by simp, ((below_alloc (Below.refl _ _) _).cell (World.block_lt_of_cell? wr _ hpk)).trans hpk, ((below_alloc (Below.refl _ _) _).cell (World.block_lt_of_cell? wr _ HM.out.1.1)).trans HM.out.1.1, ((below_alloc (Below.refl _ _) _).cell (World.block_lt_of_cell? wr _ HM.out.1.2.1)).trans HM.out.1.2.1, ((below_alloc (Below.refl _ _) _).cell (World.block_lt_of_cell? wr _ HM.out.1.2.2)).trans HM.out.1.2.2, below_alloc HM.out.2 _⟩
                clear hpk HM g0 g1 g2 g3 g4
                refine wp_region_class (MayX w right high (some ad0) l.length c wr.heap.size x (ad0.add (k * 5)) pk2) (by kernel_rfl) (by kernel_rfl) hX.drew ?_
                repeat (first | go_big_quiet_skip | (go_big_quiet_want; go_big_quiet_op; first | go_big_quiet_on | (apply Exists.intro; refine ⟨fun W hW => ?_, ?_⟩; (first | (with_reducible exact rfl) | (go_at_call 99; ((with_reducible refine (leaf_value.calls x.f1.f0 x.f1.f1 x.f1.f2 x.f1.f3 p true _ HV.out).mono ?_); rintro e w5 ⟨rfl, hb5⟩; exact ⟨rfl, hW.step hb5⟩)) | (obtain ⟨y0, y1, y2, y3, y4, y5, y6, y7, y8, yB⟩ := hW; clear yB; go_simp; with_reducible rfl)); go_big_quiet_on)))
                refine wpQuiet_nil ?_
                intro W hW
                clear hX
                go_wp2
                go_ret
                exact ⟨by rw [← HI.out]; rfl, hW.2.2.2.2.2.2.2.2.2⟩
            · have hC2 : (decide (k = 0) || Op.bytesLess pk.toList x.f0.toList) = true := by simpa using hC
              rw [hC2] at hst
              clear hC2
              have q7 : Op.bytesLess pk.toList x.f0.toList = true := hC.resolve_left hk
              clear hC
              obtain ⟨m, hm⟩ : ∃ m : Nat, k = m + 1 := ⟨k - 1, by omega⟩
              have hk0 : decide (0 < (k : Int)) = true := decide_eq_true (by omega)
              have hk1 : decide (0 < k) = true := decide_eq_true (by omega)
              replace hpk := hpk m hm
              have hm1 : (k : Int) - 1 = (m : Int) := by omega
              have hm2 : IntKind.i64.wrap (m : Int) = (m : Int) := IntWalk.i64_in _ (by omega)
              have hm3 : IntKind.i64.wrap ((k : Int) - 1) = (m : Int) := by rw [hm1]; exact hm2
              have hm4 : (m : Int) < (l.length : Int) := by omega
              have hm5 : (0 : Int) ≤ (m : Int) := by omega
              clear hm
              by_cases hD : Op.bytesLess x.f0.toList high.toList = true
              · have HI := Aside0.mk (show itemsFrom right high p l (l.length - (k + 1)) (k + 1) = r by rw [q2, hD] at hst; simpa using hst)
                have HV := Aside0.mk hval
                clear hst hval hk
                go_wp2
                have hX : MayX w right high (some ad0) l.length c wr.heap.size x (ad0.add (m * 5)) pk (wr.alloc (.cells #[.string x.f0, .bool x.f1.f0, .string x.f1.f1, .int .i64 x.f1.f2, .int .i64 x.f1.f3] 32)) := ⟨by simp, by simp, by simp, by simp, by simp, ((below_alloc (Below.refl _ _) _).cell (World.block_lt_of_cell? wr _ hpk)).trans hpk, ((below_alloc (Below.refl _ _) _).cell (World.block_lt_of_cell? wr _ HM.out.1.1)).trans HM.out.1.1, ((below_alloc (Below.refl _ _) _).cell (World.block_lt_of_cell? wr _ HM.out.1.2.1)).trans HM.out.1.2.1, ((below_alloc (Below.refl _ _) _).cell (World.block_lt_of_cell? wr _ HM.out.1.2.2)).trans HM.out.1.2.2, below_alloc HM.out.2 _⟩
                clear hpk HM g0 g1 g2 g3 g4
                refine wp_region_class (MayX w right high (some ad0) l.length c wr.heap.size x (ad0.add (m * 5)) pk) (by kernel_rfl) (by kernel_rfl) hX.drew ?_
                repeat (first | go_big_quiet_skip | (go_big_quiet_want; go_big_quiet_op; first | go_big_quiet_on | (apply Exists.intro; refine ⟨fun W hW => ?_, ?_⟩; (first | (with_reducible exact rfl) | (go_at_call 99; ((with_reducible refine (leaf_value.calls x.f1.f0 x.f1.f1 x.f1.f2 x.f1.f3 p true _ HV.out).mono ?_); rintro e w5 ⟨rfl, hb5⟩; exact ⟨rfl, hW.step hb5⟩)) | (obtain ⟨y0, y1, y2, y3, y4, y5, y6, y7, y8, yB⟩ := hW; clear yB; go_simp; with_reducible rfl)); go_big_quiet_on)))
                refine wpQuiet_nil ?_
                intro W hW
                clear hX
                go_wp2
                go_roundw
                case rel => exact ⟨k + 1, by omega, by go_num, HI, ⟨hW.mayS⟩⟩
                case measure => simp [intOf]; omega
              · have hD : Op.bytesLess x.f0.toList high.toList = false := by simpa using hD
                have HI := Aside0.mk (show false = r by rw [q2, hD] at hst; simpa using hst)
                have HV := Aside0.mk hval
                clear hst hval hk
                go_wp2
                have hX : MayX w right high (some ad0) l.length c wr.heap.size x (ad0.add (m * 5)) pk (wr.alloc (.cells #[.string x.f0, .bool x.f1.f0, .string x.f1.f1, .int .i64 x.f1.f2, .int .i64 x.f1.f3] 32)) := ⟨by simp, by simp, by simp, by simp, by simp, ((below_alloc (Below.refl _ _) _).cell (World.block_lt_of_cell? wr _ hpk)).trans hpk, ((below_alloc (Below.refl _ _) _).cell (World.block_lt_of_cell? wr _ HM.out.1.1)).trans HM.out.1.1, ((below_alloc (Below.refl _ _) _).cell (World.block_lt_of_cell? wr _ HM.out.1.2.1)).trans HM.out.1.2.1, ((below_alloc (Below.refl _ _) _).cell (World.block_lt_of_cell? wr _ HM.out.1.2.2)).trans HM.out.1.2.2, below_alloc HM.out.2 _⟩
                clear hpk HM g0 g1 g2 g3 g4
                refine wp_region_class (MayX w right high (some ad0) l.length c wr.heap.size x (ad0.add (m * 5)) pk) (by kernel_rfl) (by kernel_rfl) hX.drew ?_
                repeat (first | go_big_quiet_skip | (go_big_quiet_want; go_big_quiet_op; first | go_big_quiet_on | (apply Exists.intro; refine ⟨fun W hW => ?_, ?_⟩; (first | (with_reducible exact rfl) | (go_at_call 99; ((with_reducible refine (leaf_value.calls x.f1.f0 x.f1.f1 x.f1.f2 x.f1.f3 p true _ HV.out).mono ?_); rintro e w5 ⟨rfl, hb5⟩; exact ⟨rfl, hW.step hb5⟩)) | (obtain ⟨y0, y1, y2, y3, y4, y5, y6, y7, y8, yB⟩ := hW; clear yB; go_simp; with_reducible rfl)); go_big_quiet_on)))
                refine wpQuiet_nil ?_
                intro W hW
                clear hX
                go_wp2
                go_ret
                exact ⟨by rw [← HI.out]; rfl, hW.2.2.2.2.2.2.2.2.2⟩
          · have hk : ¬ k = 0 := fun h => hC (.inl h)
            have q7 : Op.bytesLess pk.toList x.f0.toList = false := by simpa using fun h => hC (.inr h)
            have HI := Aside0.mk (show false = r by simpa [hk, q7] using hst)
            clear hC
            obtain ⟨m, hm⟩ : ∃ m : Nat, k = m + 1 := ⟨k - 1, by omega⟩
            have hk0 : decide (0 < (k : Int)) = true := decide_eq_true (by omega)
            have hk1 : decide (0 < k) = true := decide_eq_true (by omega)
            replace hpk := hpk m hm
            have hm1 : (k : Int) - 1 = (m : Int) := by omega
            have hm2 : IntKind.i64.wrap (m : Int) = (m : Int) := IntWalk.i64_in _ (by omega)
            have hm3 : IntKind.i64.wrap ((k : Int) - 1) = (m : Int) := by rw [hm1]; exact hm2
            have hm4 : (m : Int) < (l.length : Int) := by omega
            have hm5 : (0 : Int) ≤ (m : Int) := by omega
            clear hm
            have HV := Aside0.mk hval
            clear hst hval hk
            go_wp2
            have hX : MayX w right high (some ad0) l.length c wr.heap.size x (ad0.add (m * 5)) pk (wr.alloc (.cells #[.string x.f0, .bool x.f1.f0, .string x.f1.f1, .int .i64 x.f1.f2, .int .i64 x.f1.f3] 32)) := ⟨by simp, by simp, by simp, by simp, by simp, ((below_alloc (Below.refl _ _) _).cell (World.block_lt_of_cell? wr _ hpk)).trans hpk, ((below_alloc (Below.refl _ _) _).cell (World.block_lt_of_cell? wr _ HM.out.1.1)).trans HM.out.1.1, ((below_alloc (Below.refl _ _) _).cell (World.block_lt_of_cell? wr _ HM.out.1.2.1)).trans HM.out.1.2.1, ((below_alloc (Below.refl _ _) _).cell (World.block_lt_of_cell? wr _ HM.out.1.2.2)).trans HM.out.1.2.2, below_alloc HM.out.2 _⟩
            clear hpk HM g0 g1 g2 g3 g4
            refine wp_region_class (MayX w right high (some ad0) l.length c wr.heap.size x (ad0.add (m * 5)) pk) (by kernel_rfl) (by kernel_rfl) hX.drew ?_
            repeat (first | go_big_quiet_skip | (go_big_quiet_want; go_big_quiet_op; first | go_big_quiet_on | (apply Exists.intro; refine ⟨fun W hW => ?_, ?_⟩; (first | (with_reducible exact rfl) | (go_at_call 99; ((with_reducible refine (leaf_value.calls x.f1.f0 x.f1.f1 x.f1.f2 x.f1.f3 p true _ HV.out).mono ?_); rintro e w5 ⟨rfl, hb5⟩; exact ⟨rfl, hW.step hb5⟩)) | (obtain ⟨y0, y1, y2, y3, y4, y5, y6, y7, y8, yB⟩ := hW; clear yB; go_simp; with_reducible rfl)); go_big_quiet_on)))
            refine wpQuiet_nil ?_
            intro W hW
            clear hX
            go_wp2
            go_ret
            exact ⟨by rw [← HI.out]; rfl, hW.2.2.2.2.2.2.2.2.2⟩
        · have hB : valMay x.f1 p = false := by simpa using hB
          rw [hB] at hst hval
          have HI := Aside0.mk (show false = r by simpa using hst)
          have HV := Aside0.mk hval
          replace hpk := g0
          clear hst hval hB
          obtain ⟨pk2, hpk2⟩ : ∃ pk2, x.f0 = pk2 := ⟨_, rfl⟩
          rw [hpk2] at hpk
          clear hpk2
          go_wp2
          have hX : MayX w right high (some ad0) l.length c wr.heap.size x (ad0.add (k * 5)) pk2 (wr.alloc (.cells #[.string x.f0, .bool x.f1.f0, .string x.f1.f1, .int .i64 x.f1.f2, .int .i64 x.f1.f3] 32)) := ⟨by simp, by simp, by simp, by simp, by simp, ((below_alloc (Below.refl _ _) _).cell (World.block_lt_of_cell? wr _ hpk)).trans hpk, ((below_alloc (Below.refl _ _) _).cell (World.block_lt_of_cell? wr _ HM.out.1.1)).trans HM.out.1.1, ((below_alloc (Below.refl _ _) _).cell (World.block_lt_of_cell? wr _ HM.out.1.2.1)).trans HM.out.1.2.1, ((below_alloc (Below.refl _ _) _).cell (World.block_lt_of_cell? wr _ HM.out.1.2.2)).trans HM.out.1.2.2, below_alloc HM.out.2 _⟩
          clear hpk HM g0 g1 g2 g3 g4
          refine wp_region_class (MayX w right high (some ad0) l.length c wr.heap.size x (ad0.add (k * 5)) pk2) (by kernel_rfl) (by kernel_rfl) hX.drew ?_
          repeat (first | go_big_quiet_skip | (go_big_quiet_want; go_big_quiet_op; first | go_big_quiet_on | (apply Exists.intro; refine ⟨fun W hW => ?_, ?_⟩; (first | (with_reducible exact rfl) | (go_at_call 99; ((with_reducible refine (leaf_value.calls x.f1.f0 x.f1.f1 x.f1.f2 x.f1.f3 p false _ HV.out).mono ?_); rintro e w5 ⟨rfl, hb5⟩; exact ⟨rfl, hW.step hb5⟩)) | (obtain ⟨y0, y1, y2, y3, y4, y5, y6, y7, y8, yB⟩ := hW; clear yB; go_simp; with_reducible rfl)); go_big_quiet_on)))
          refine wpQuiet_nil ?_
          intro W hW
          clear hX
          go_wp2
          go_ret
          exact ⟨by rw [← HI.out]; rfl, hW.2.2.2.2.2.2.2.2.2⟩
      · have c1 : decide (p / 8 < (x.f0.size : Int)) = true := decide_eq_true (by omega)
        rw [decide_eq_false hA] at hst
        have HI := Aside0.mk (show false = r by simpa using hst)
        have HV := Aside0.mk hval
        replace hpk := g0
        clear hst hval hA
        obtain ⟨pk2, hpk2⟩ : ∃ pk2, x.f0 = pk2 := ⟨_, rfl⟩
        rw [hpk2] at hpk
        clear hpk2
        go_wp2
        have hX : MayX w right high (some ad0) l.length c wr.heap.size x (ad0.add (k * 5)) pk2 (wr.alloc (.cells #[.string x.f0, .bool x.f1.f0, .string x.f1.f1, .int .i64 x.f1.f2, .int .i64 x.f1.f3] 32)) := ⟨by simp, by simp, by simp, by simp, by simp, ((below_alloc (Below.refl _ _) _).cell (World.block_lt_of_cell? wr _ hpk)).trans hpk, ((below_alloc (Below.refl _ _) _).cell (World.block_lt_of_cell? wr _ HM.out.1.1)).trans HM.out.1.1, ((below_alloc (Below.refl _ _) _).cell (World.block_lt_of_cell? wr _ HM.out.1.2.1)).trans HM.out.1.2.1, ((below_alloc (Below.refl _ _) _).cell (World.block_lt_of_cell? wr _ HM.out.1.2.2)).trans HM.out.1.2.2, below_alloc HM.out.2 _⟩
        clear hpk HM g0 g1 g2 g3 g4
        refine wp_region_class (MayX w right high (some ad0) l.length c wr.heap.size x (ad0.add (k * 5)) pk2) (by kernel_rfl) (by kernel_rfl) hX.drew ?_
        repeat (first | go_big_quiet_skip | (go_big_quiet_want; go_big_quiet_op; first | go_big_quiet_on | (apply Exists.intro; refine ⟨fun W hW => ?_, ?_⟩; (first | (with_reducible exact rfl) | (go_at_call 99; ((with_reducible refine (leaf_value.calls x.f1.f0 x.f1.f1 x.f1.f2 x.f1.f3 p true _ HV.out).mono ?_); rintro e w5 ⟨rfl, hb5⟩; exact ⟨rfl, hW.step hb5⟩)) | (obtain ⟨y0, y1, y2, y3, y4, y5, y6, y7, y8, yB⟩ := hW; clear yB; go_simp; with_reducible rfl)); go_big_quiet_on)))
        refine wpQuiet_nil ?_
        intro W hW
        clear hX
        go_wp2
        go_ret
        exact ⟨by rw [← HI.out]; rfl, hW.2.2.2.2.2.2.2.2.2⟩
    · have hk : k = l.length := by omega
      have HE := Aside0.mk (show true = r by have := HI.out; rw [hk, Nat.sub_self] at this; exact this)
      have hlt : decide ((k : Int) < (l.length : Int)) = false := decide_eq_false (by omega)
      clear hk h0
      go_wp2
      go_ret
      exact ⟨by rw [← HE.out]; rfl, HM.out.2⟩
set_option maxRecDepth 100000 in
set_option maxHeartbeats 4000000 in
theorem May_loop0 (self right : Int) (high : ByteArray) (p : Int) (A : Option Addr) (c : Nat) (l : List S32) (w : World) (h1 : sizeOk p = true) (h2 : numOk self = true) (h3 : right = 0) (h5 : ¬ right = self) (h6 : high.toList = []) (h7 : (high.size : Int) ≤ p / 8) (r : Bool) (hr : itemsFrom right high p l l.length 0 = r) (hrow : Kd.C k32 w A l.length l) (hc : l.length ≤ c) (hln : l.length ≤ 1000000) :
    Calls Tryz.prog 47 #[.agg #[.int .i64 self, .int .i64 right, .string high, .slice A l.length c], .int .i64 p] w fun e w' => e = .returned (.bool r) ∧ Below w.heap.size w w' := by
  have HS := Aside0.mk (show disk_Size.f p = some true by unfold disk_Size.f; exact congrArg some h1)
  have hpb := sizeOk_bounds h1
  have hp0 := hpb.1
  have hp1 := hpb.2
  have HN := Aside0.mk (show leaf_number.f self = some true by rw [number_ok, h2])
  have q1 : (right != 0) = false := by simpa using h3
  have q2 : (right == 0) = true := by simpa using h3
  have q3 : (right == self) = false := by simpa using h5
  have q4 : high.toList.isEmpty = true := by simpa using h6
  have q5 : (high.toList == []) = true := by simpa using h6
  have q6 : decide (p / 8 < (high.size : Int)) = false := decide_eq_false (by omega)
  have HI := Aside0.mk hr
  have HL := Aside0.mk hrow
  clear h1 h2 h3 h5 h6 h7 hr hrow hc
  go_enter Tryz.func47, Tryz.ntmps47
  go_wp2_with (first | (go_at_call 83; refine (disk_Size.calls p true _ HS.out).mono ?_; rintro e w1 ⟨rfl, hb1⟩; have HB := Aside0.mk (below_step (below_alloc (Below.refl _ _) _) hb1); have hS := (MayS.start w self right high A l.length c _ rfl).step hb1; obtain ⟨hc1, hz1⟩ : (∀ j, w1.cell? ⟨w.heap.size, j, none⟩ = (w.alloc (.cells #[.int .i64 self, .int .i64 right, .string high, .slice A l.length c] 24)).cell? ⟨w.heap.size, j, none⟩) ∧ w.heap.size < w1.heap.size := ⟨fun j => hb1.cell (by simp), by have := hb1.size; simp at this; omega⟩; clear hb1) | (go_at_call 98; ((with_reducible refine (leaf_number.calls self true _ HN.out).mono ?_); rintro e w2 ⟨rfl, ⟨nd, rfl⟩⟩)))
  go_loopw [54] (fun i wr => ∃ k : Nat, k ≤ l.length ∧ i = .int .i64 k ∧ Aside0 (itemsFrom right high p l (l.length - k) k = r) ∧ Aside0 (MayS w right high A l.length c wr)) (fun i _ => l.length - (intOf i).toNat)
  case atStart => exact ⟨0, by omega, rfl, HI, ⟨by first | exact hS | exact hS.step (pw_below_drewN (Below.refl _ _) _)⟩⟩
  case round =>
    clear HB hS hc1 hz1 HI
    obtain ⟨k, h0, rfl, HI, HM⟩ := hrel
    by_cases hx : k < l.length
    · obtain ⟨ad0, e0, g0, g1, g2, g3, g4⟩ := at_T32 HL.out (k : Int) (by omega) (by omega)
      cases e0
      have hst := (itemsFrom_step hx).symm.trans HI.out
      unfold itemAt at hst
      have hval := value_ok (rd_T32 l (k : Int)).f1 p (by have := hpb; omega)
      obtain ⟨pk, hpk0, hpk⟩ : ∃ pk, (rd_T32 l ((k : Int) - 1)).f0 = pk ∧ (∀ m : Nat, k = m + 1 → wr.cell? (ad0.add (m * 5)) = some (.string pk)) := by
        refine ⟨_, rfl, ?_⟩
        rintro m rfl
        obtain ⟨ad1, e1, p0, _⟩ := at_T32 HL.out (m : Int) (by omega) (by omega)
        cases e1
        rw [show ((m + 1 : Nat) : Int) - 1 = (m : Int) by omega]
        rw [Int.toNat_natCast] at p0
        exact (HM.out.2.cell (World.block_lt_of_cell? w _ p0)).trans p0
      rw [hpk0] at hst
      have eK : (k : Int).toNat = k := Int.toNat_natCast k
      rw [eK] at g0 g1 g2 g3 g4
      replace g0 := (HM.out.2.cell (World.block_lt_of_cell? w _ g0)).trans g0
      replace g1 := (HM.out.2.cell (World.block_lt_of_cell? w _ g1)).trans g1
      replace g2 := (HM.out.2.cell (World.block_lt_of_cell? w _ g2)).trans g2
      replace g3 := (HM.out.2.cell (World.block_lt_of_cell? w _ g3)).trans g3
      replace g4 := (HM.out.2.cell (World.block_lt_of_cell? w _ g4)).trans g4
      clear eK hpk0
      generalize rd_T32 l (k : Int) = x at g0 g1 g2 g3 g4 hst hval
      have hq8 : IntKind.i64.wrap (p.tdiv 8) = p / 8 := by rw [Int.tdiv_eq_ediv_of_nonneg (by omega)]; exact IntWalk.i64_in _ (by omega)
      by_cases hA : (x.f0.size : Int) ≤ p / 8
      · have c1 : decide (p / 8 < (x.f0.size : Int)) = false := decide_eq_false (by omega)
        rw [decide_eq_true hA] at hst
        clear hA
        by_cases hB : valMay x.f1 p = true
        · rw [hB] at hst hval
          clear hB
          by_cases hC : k = 0 ∨ Op.bytesLess pk.toList x.f0.toList = true
          · by_cases hk : k = 0
            · have hC2 : (decide (k = 0) || Op.bytesLess pk.toList x.f0.toList) = true := by simpa using hC
              rw [hC2] at hst
              clear hC2
              clear hC
              have hk0 : decide (0 < (k : Int)) = false := decide_eq_false (by omega)
              have hk1 : decide (0 < k) = false := decide_eq_false (by omega)
              have hpk := g0
              obtain ⟨pk2, hpk2⟩ : ∃ pk2, x.f0 = pk2 := ⟨_, rfl⟩
              rw [hpk2] at hpk
              clear hpk2
              have HI := Aside0.mk (show itemsFrom right high p l (l.length - (k + 1)) (k + 1) = r by rw [q2] at hst; simpa using hst)
              have HV := Aside0.mk hval
              clear hst hval hk
              go_wp2
              have hX : MayX w right high (some ad0) l.length c wr.heap.size x (ad0.add (k * 5)) pk2 (wr.alloc (.cells #[.string x.f0, .bool x.f1.f0, .string x.f1.f1, .int .i64 x.f1.f2, .int .i64 x.f1.f3] 32)) := ⟨by simp, by simp, by simp, by simp, by simp, ((below_alloc (Below.refl _ _) _).cell (World.block_lt_of_cell? wr _ hpk)).trans hpk, ((below_alloc (Below.refl _ _) _).cell (World.block_lt_of_cell? wr _ HM.out.1.1)).trans HM.out.1.1, ((below_alloc (Below.refl _ _) _).cell (World.block_lt_of_cell? wr _ HM.out.1.2.1)).trans HM.out.1.2.1, ((below_alloc (Below.refl _ _) _).cell (World.block_lt_of_cell? wr _ HM.out.1.2.2)).trans HM.out.1.2.2, below_alloc HM.out.2 _⟩
              clear hpk HM g0 g1 g2 g3 g4
              refine wp_region_class (MayX w right high (some ad0) l.length c wr.heap.size x (ad0.add (k * 5)) pk2) (by kernel_rfl) (by kernel_rfl) hX.drew ?_
              repeat (first | go_big_quiet_skip | (go_big_quiet_want; go_big_quiet_op; first | go_big_quiet_on | (apply Exists.intro; refine ⟨fun W hW => ?_, ?_⟩; (first | (with_reducible exact rfl) | (go_at_call 99; ((with_reducible refine (leaf_value.calls x.f1.f0 x.f1.f1 x.f1.f2 x.f1.f3 p true _ HV.out).mono ?_); rintro e w5 ⟨rfl, hb5⟩; exact ⟨rfl, hW.step hb5⟩)) | (obtain ⟨y0, y1, y2, y3, y4, y5, y6, y7, y8, yB⟩ := hW; clear yB; go_simp; with_reducible rfl)); go_big_quiet_on)))
              refine wpQuiet_nil ?_
              intro W hW
              clear hX
              go_wp2
              go_roundw
              case rel => exact ⟨k + 1, by omega, by go_num, HI, ⟨hW.mayS⟩⟩
              case measure => simp [intOf]; omega
            · have hC2 : (decide (k = 0) || Op.bytesLess pk.toList x.f0.toList) = true := by simpa using hC
              rw [hC2] at hst
              clear hC2
              have q7 : Op.bytesLess pk.toList x.f0.toList = true := hC.resolve_left hk
              clear hC
              obtain ⟨m, hm⟩ : ∃ m : Nat, k = m + 1 := ⟨k - 1, by omega⟩
              have hk0 : decide (0 < (k : Int)) = true := decide_eq_true (by omega)
              have hk1 : decide (0 < k) = true := decide_eq_true (by omega)
              replace hpk := hpk m hm
              have hm1 : (k : Int) - 1 = (m : Int) := by omega
              have hm2 : IntKind.i64.wrap (m : Int) = (m : Int) := IntWalk.i64_in _ (by omega)
              have hm3 : IntKind.i64.wrap ((k : Int) - 1) = (m : Int) := by rw [hm1]; exact hm2
              have hm4 : (m : Int) < (l.length : Int) := by omega
              have hm5 : (0 : Int) ≤ (m : Int) := by omega
              clear hm
              have HI := Aside0.mk (show itemsFrom right high p l (l.length - (k + 1)) (k + 1) = r by rw [q2] at hst; simpa using hst)
              have HV := Aside0.mk hval
              clear hst hval hk
              go_wp2
              have hX : MayX w right high (some ad0) l.length c wr.heap.size x (ad0.add (m * 5)) pk (wr.alloc (.cells #[.string x.f0, .bool x.f1.f0, .string x.f1.f1, .int .i64 x.f1.f2, .int .i64 x.f1.f3] 32)) := ⟨by simp, by simp, by simp, by simp, by simp, ((below_alloc (Below.refl _ _) _).cell (World.block_lt_of_cell? wr _ hpk)).trans hpk, ((below_alloc (Below.refl _ _) _).cell (World.block_lt_of_cell? wr _ HM.out.1.1)).trans HM.out.1.1, ((below_alloc (Below.refl _ _) _).cell (World.block_lt_of_cell? wr _ HM.out.1.2.1)).trans HM.out.1.2.1, ((below_alloc (Below.refl _ _) _).cell (World.block_lt_of_cell? wr _ HM.out.1.2.2)).trans HM.out.1.2.2, below_alloc HM.out.2 _⟩
              clear hpk HM g0 g1 g2 g3 g4
              refine wp_region_class (MayX w right high (some ad0) l.length c wr.heap.size x (ad0.add (m * 5)) pk) (by kernel_rfl) (by kernel_rfl) hX.drew ?_
              repeat (first | go_big_quiet_skip | (go_big_quiet_want; go_big_quiet_op; first | go_big_quiet_on | (apply Exists.intro; refine ⟨fun W hW => ?_, ?_⟩; (first | (with_reducible exact rfl) | (go_at_call 99; ((with_reducible refine (leaf_value.calls x.f1.f0 x.f1.f1 x.f1.f2 x.f1.f3 p true _ HV.out).mono ?_); rintro e w5 ⟨rfl, hb5⟩; exact ⟨rfl, hW.step hb5⟩)) | (obtain ⟨y0, y1, y2, y3, y4, y5, y6, y7, y8, yB⟩ := hW; clear yB; go_simp; with_reducible rfl)); go_big_quiet_on)))
              refine wpQuiet_nil ?_
              intro W hW
              clear hX
              go_wp2
              go_roundw
              case rel => exact ⟨k + 1, by omega, by go_num, HI, ⟨hW.mayS⟩⟩
              case measure => simp [intOf]; omega
          · have hk : ¬ k = 0 := fun h => hC (.inl h)
            have q7 : Op.bytesLess pk.toList x.f0.toList = false := by simpa using fun h => hC (.inr h)
            have HI := Aside0.mk (show false = r by simpa [hk, q7] using hst)
            clear hC
            obtain ⟨m, hm⟩ : ∃ m : Nat, k = m + 1 := ⟨k - 1, by omega⟩
            have hk0 : decide (0 < (k : Int)) = true := decide_eq_true (by omega)
            have hk1 : decide (0 < k) = true := decide_eq_true (by omega)
            replace hpk := hpk m hm
            have hm1 : (k : Int) - 1 = (m : Int) := by omega
            have hm2 : IntKind.i64.wrap (m : Int) = (m : Int) := IntWalk.i64_in _ (by omega)
            have hm3 : IntKind.i64.wrap ((k : Int) - 1) = (m : Int) := by rw [hm1]; exact hm2
            have hm4 : (m : Int) < (l.length : Int) := by omega
            have hm5 : (0 : Int) ≤ (m : Int) := by omega
            clear hm
            have HV := Aside0.mk hval
            clear hst hval hk
            go_wp2
            have hX : MayX w right high (some ad0) l.length c wr.heap.size x (ad0.add (m * 5)) pk (wr.alloc (.cells #[.string x.f0, .bool x.f1.f0, .string x.f1.f1, .int .i64 x.f1.f2, .int .i64 x.f1.f3] 32)) := ⟨by simp, by simp, by simp, by simp, by simp, ((below_alloc (Below.refl _ _) _).cell (World.block_lt_of_cell? wr _ hpk)).trans hpk, ((below_alloc (Below.refl _ _) _).cell (World.block_lt_of_cell? wr _ HM.out.1.1)).trans HM.out.1.1, ((below_alloc (Below.refl _ _) _).cell (World.block_lt_of_cell? wr _ HM.out.1.2.1)).trans HM.out.1.2.1, ((below_alloc (Below.refl _ _) _).cell (World.block_lt_of_cell? wr _ HM.out.1.2.2)).trans HM.out.1.2.2, below_alloc HM.out.2 _⟩
            clear hpk HM g0 g1 g2 g3 g4
            refine wp_region_class (MayX w right high (some ad0) l.length c wr.heap.size x (ad0.add (m * 5)) pk) (by kernel_rfl) (by kernel_rfl) hX.drew ?_
            repeat (first | go_big_quiet_skip | (go_big_quiet_want; go_big_quiet_op; first | go_big_quiet_on | (apply Exists.intro; refine ⟨fun W hW => ?_, ?_⟩; (first | (with_reducible exact rfl) | (go_at_call 99; ((with_reducible refine (leaf_value.calls x.f1.f0 x.f1.f1 x.f1.f2 x.f1.f3 p true _ HV.out).mono ?_); rintro e w5 ⟨rfl, hb5⟩; exact ⟨rfl, hW.step hb5⟩)) | (obtain ⟨y0, y1, y2, y3, y4, y5, y6, y7, y8, yB⟩ := hW; clear yB; go_simp; with_reducible rfl)); go_big_quiet_on)))
            refine wpQuiet_nil ?_
            intro W hW
            clear hX
            go_wp2
            go_ret
            exact ⟨by rw [← HI.out]; rfl, hW.2.2.2.2.2.2.2.2.2⟩
        · have hB : valMay x.f1 p = false := by simpa using hB
          rw [hB] at hst hval
          have HI := Aside0.mk (show false = r by simpa using hst)
          have HV := Aside0.mk hval
          replace hpk := g0
          clear hst hval hB
          obtain ⟨pk2, hpk2⟩ : ∃ pk2, x.f0 = pk2 := ⟨_, rfl⟩
          rw [hpk2] at hpk
          clear hpk2
          go_wp2
          have hX : MayX w right high (some ad0) l.length c wr.heap.size x (ad0.add (k * 5)) pk2 (wr.alloc (.cells #[.string x.f0, .bool x.f1.f0, .string x.f1.f1, .int .i64 x.f1.f2, .int .i64 x.f1.f3] 32)) := ⟨by simp, by simp, by simp, by simp, by simp, ((below_alloc (Below.refl _ _) _).cell (World.block_lt_of_cell? wr _ hpk)).trans hpk, ((below_alloc (Below.refl _ _) _).cell (World.block_lt_of_cell? wr _ HM.out.1.1)).trans HM.out.1.1, ((below_alloc (Below.refl _ _) _).cell (World.block_lt_of_cell? wr _ HM.out.1.2.1)).trans HM.out.1.2.1, ((below_alloc (Below.refl _ _) _).cell (World.block_lt_of_cell? wr _ HM.out.1.2.2)).trans HM.out.1.2.2, below_alloc HM.out.2 _⟩
          clear hpk HM g0 g1 g2 g3 g4
          refine wp_region_class (MayX w right high (some ad0) l.length c wr.heap.size x (ad0.add (k * 5)) pk2) (by kernel_rfl) (by kernel_rfl) hX.drew ?_
          repeat (first | go_big_quiet_skip | (go_big_quiet_want; go_big_quiet_op; first | go_big_quiet_on | (apply Exists.intro; refine ⟨fun W hW => ?_, ?_⟩; (first | (with_reducible exact rfl) | (go_at_call 99; ((with_reducible refine (leaf_value.calls x.f1.f0 x.f1.f1 x.f1.f2 x.f1.f3 p false _ HV.out).mono ?_); rintro e w5 ⟨rfl, hb5⟩; exact ⟨rfl, hW.step hb5⟩)) | (obtain ⟨y0, y1, y2, y3, y4, y5, y6, y7, y8, yB⟩ := hW; clear yB; go_simp; with_reducible rfl)); go_big_quiet_on)))
          refine wpQuiet_nil ?_
          intro W hW
          clear hX
          go_wp2
          go_ret
          exact ⟨by rw [← HI.out]; rfl, hW.2.2.2.2.2.2.2.2.2⟩
      · have c1 : decide (p / 8 < (x.f0.size : Int)) = true := decide_eq_true (by omega)
        rw [decide_eq_false hA] at hst
        have HI := Aside0.mk (show false = r by simpa using hst)
        have HV := Aside0.mk hval
        replace hpk := g0
        clear hst hval hA
        obtain ⟨pk2, hpk2⟩ : ∃ pk2, x.f0 = pk2 := ⟨_, rfl⟩
        rw [hpk2] at hpk
        clear hpk2
        go_wp2
        have hX : MayX w right high (some ad0) l.length c wr.heap.size x (ad0.add (k * 5)) pk2 (wr.alloc (.cells #[.string x.f0, .bool x.f1.f0, .string x.f1.f1, .int .i64 x.f1.f2, .int .i64 x.f1.f3] 32)) := ⟨by simp, by simp, by simp, by simp, by simp, ((below_alloc (Below.refl _ _) _).cell (World.block_lt_of_cell? wr _ hpk)).trans hpk, ((below_alloc (Below.refl _ _) _).cell (World.block_lt_of_cell? wr _ HM.out.1.1)).trans HM.out.1.1, ((below_alloc (Below.refl _ _) _).cell (World.block_lt_of_cell? wr _ HM.out.1.2.1)).trans HM.out.1.2.1, ((below_alloc (Below.refl _ _) _).cell (World.block_lt_of_cell? wr _ HM.out.1.2.2)).trans HM.out.1.2.2, below_alloc HM.out.2 _⟩
        clear hpk HM g0 g1 g2 g3 g4
        refine wp_region_class (MayX w right high (some ad0) l.length c wr.heap.size x (ad0.add (k * 5)) pk2) (by kernel_rfl) (by kernel_rfl) hX.drew ?_
        repeat (first | go_big_quiet_skip | (go_big_quiet_want; go_big_quiet_op; first | go_big_quiet_on | (apply Exists.intro; refine ⟨fun W hW => ?_, ?_⟩; (first | (with_reducible exact rfl) | (go_at_call 99; ((with_reducible refine (leaf_value.calls x.f1.f0 x.f1.f1 x.f1.f2 x.f1.f3 p true _ HV.out).mono ?_); rintro e w5 ⟨rfl, hb5⟩; exact ⟨rfl, hW.step hb5⟩)) | (obtain ⟨y0, y1, y2, y3, y4, y5, y6, y7, y8, yB⟩ := hW; clear yB; go_simp; with_reducible rfl)); go_big_quiet_on)))
        refine wpQuiet_nil ?_
        intro W hW
        clear hX
        go_wp2
        go_ret
        exact ⟨by rw [← HI.out]; rfl, hW.2.2.2.2.2.2.2.2.2⟩
    · have hk : k = l.length := by omega
      have HE := Aside0.mk (show true = r by have := HI.out; rw [hk, Nat.sub_self] at this; exact this)
      have hlt : decide ((k : Int) < (l.length : Int)) = false := decide_eq_false (by omega)
      clear hk h0
      go_wp2
      go_ret
      exact ⟨by rw [← HE.out]; rfl, HM.out.2⟩
theorem mayHead_no {self right : Int} {high : ByteArray} {l : List S32} {p : Int} (h : mayHead self right high p = false) : mayB self right high l p = false := by unfold mayB; rw [h]; rfl
theorem leaf_May.calls (a0_0 : Int) (a0_1 : Int) (a0_2 : ByteArray) (A0_3 : Option Addr) (c0_3 : Nat) (l0_3 : List S32) (a1 : Int) (r : Bool) (w : World) (hr0_3 : Kd.C k32 w A0_3 l0_3.length l0_3) (hc0_3 : l0_3.length ≤ c0_3) (h : leaf_May.f a0_0 a0_1 a0_2 l0_3 a1 = some r) :
    Calls Tryz.prog 47 #[.agg #[.int .i64 a0_0, .int .i64 a0_1, .string a0_2, .slice A0_3 l0_3.length c0_3], .int .i64 a1] w fun e w' => e = .returned (.bool r) ∧ Below w.heap.size w w' := by
  unfold leaf_May.f at h
  by_cases hn : l0_3.length ≤ 1000000
  · rw [if_pos hn] at h
    obtain rfl := Option.some.inj h
    clear h
    have no : mayHead a0_0 a0_1 a0_2 a1 = false → mayB a0_0 a0_1 a0_2 l0_3 a1 = false := mayHead_no
    have yes : mayHead a0_0 a0_1 a0_2 a1 = true → itemsFrom a0_1 a0_2 a1 l0_3 l0_3.length 0 = mayB a0_0 a0_1 a0_2 l0_3 a1 := by intro h; unfold mayB; rw [h]; rfl
    cases h1 : sizeOk a1 with
    | false => rw [no (by unfold mayHead; rw [h1]; rfl)]; exact May_no1 a0_0 a0_1 a0_2 a1 A0_3 c0_3 l0_3 w h1
    | true =>
      cases h2 : numOk a0_0 with
      | false => rw [no (by unfold mayHead; rw [h1, h2]; rfl)]; exact May_no2 a0_0 a0_1 a0_2 a1 A0_3 c0_3 l0_3 w h1 h2
      | true =>
        by_cases h3 : a0_1 = 0
        · have e3 : (a0_1 == 0) = true := by simpa using h3
          by_cases h5 : a0_1 = a0_0
          · rw [no (by unfold mayHead; rw [h1, h2, e3, show (a0_1 == a0_0) = true by simpa using h5]; rfl)]; exact May_no40 a0_0 a0_1 a0_2 a1 A0_3 c0_3 l0_3 w h1 h2 h3 h5
          · have e5 : (a0_1 == a0_0) = false := by simpa using h5
            by_cases h6 : a0_2.toList = []
            · have e6 : a0_2.toList.isEmpty = true := by simpa using h6
              by_cases h7 : (a0_2.size : Int) ≤ a1 / 8
              · exact May_loop0 a0_0 a0_1 a0_2 a1 A0_3 c0_3 l0_3 w h1 h2 h3 h5 h6 h7 _ (yes (by unfold mayHead; rw [h1, h2, e3, e5, e6, decide_eq_true h7]; rfl)) hr0_3 hc0_3 hn
              · rw [no (by unfold mayHead; rw [h1, h2, e3, e5, e6, decide_eq_false h7]; rfl)]; exact May_no60 a0_0 a0_1 a0_2 a1 A0_3 c0_3 l0_3 w h1 h2 h3 h5 h6 (by omega)
            · have e6 : a0_2.toList.isEmpty = false := by simpa using h6
              rw [no (by unfold mayHead; rw [h1, h2, e3, e5, e6]; rfl)]; exact May_no50 a0_0 a0_1 a0_2 a1 A0_3 c0_3 l0_3 w h1 h2 h3 h5 h6
        · have e3 : (a0_1 == 0) = false := by simpa using h3
          cases h4 : numOk a0_1 with
          | false => rw [no (by unfold mayHead; rw [h1, h2, e3, h4]; rfl)]; exact May_no3 a0_0 a0_1 a0_2 a1 A0_3 c0_3 l0_3 w h1 h2 h3 h4
          | true =>
            by_cases h5 : a0_1 = a0_0
            · rw [no (by unfold mayHead; rw [h1, h2, e3, h4, show (a0_1 == a0_0) = true by simpa using h5]; rfl)]; exact May_no41 a0_0 a0_1 a0_2 a1 A0_3 c0_3 l0_3 w h1 h2 h3 h4 h5
            · have e5 : (a0_1 == a0_0) = false := by simpa using h5
              by_cases h6 : a0_2.toList = []
              · have e6 : a0_2.toList.isEmpty = true := by simpa using h6
                rw [no (by unfold mayHead; rw [h1, h2, e3, h4, e5, e6]; rfl)]; exact May_no51 a0_0 a0_1 a0_2 a1 A0_3 c0_3 l0_3 w h1 h2 h3 h4 h5 h6
              · have e6 : a0_2.toList.isEmpty = false := by simpa using h6
                by_cases h7 : (a0_2.size : Int) ≤ a1 / 8
                · exact May_loop1 a0_0 a0_1 a0_2 a1 A0_3 c0_3 l0_3 w h1 h2 h3 h4 h5 h6 h7 _ (yes (by unfold mayHead; rw [h1, h2, e3, h4, e5, e6, decide_eq_true h7]; rfl)) hr0_3 hc0_3 hn
                · rw [no (by unfold mayHead; rw [h1, h2, e3, h4, e5, e6, decide_eq_false h7]; rfl)]; exact May_no61 a0_0 a0_1 a0_2 a1 A0_3 c0_3 l0_3 w h1 h2 h3 h4 h5 h6 (by omega)
  · rw [if_neg hn] at h
    cases h


end Go.Proofs.YtmheajenlhlbhaaGreatDoor.X

