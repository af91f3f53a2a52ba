/- What functions of the given program compute, step by step: the walks that the law PackRoom leans on, part 9. No conditions. -/
import Derived.Test.YtmheajenlhlbhaaUPackRoom01
import Derived.Test.YtmheajenlhlbhaaUPackRoom06
import Derived.Test.YtmheajenlhlbhaaUPackRoom07
import Derived.Test.YtmheajenlhlbhaaUPackRoom08
import Derived.Deep.QuietTactic
import Derived.BigQuiet
import Derived.Test.YtmheajenlhlbhaaVPackRoomShelf
namespace Go.Proofs.Ytmheajenlhlbhaa.X
open Go.RowKit Go.Proofs.YtmheajenlhlbhaaW.PrintWords Go.Proofs.YtmheajenlhlbhaaW.PrintLast Go.Proofs.YtmheajenlhlbhaaW.PrintMore
attribute [local go_sem] max2_int min2_int max_two min_two max_three min_three max_four min_four   -- for this text's walks alone
set_option linter.unusedVariables false
set_option linter.unusedSimpArgs false

--GIVEN-- withy/leaf.May
/-! ### leaf_May: function 27 -/
def numOk (n : Int) : Bool := decide (1 ≤ n) && decide (n < 4096)
theorem number_ok (n : Int) : leaf_number.f n = some (numOk n) := by
  unfold leaf_number.f numOk
  by_cases h : 1 ≤ n
  · rw [if_pos h]; simp [h]
  · rw [if_neg h]; simp [h]
def mayHead (self right : Int) (high : ByteArray) (p : Int) : Bool :=
  sizeOk p && numOk self && (right == 0 || numOk right) && !(right == self) && ((right == 0) == high.toList.isEmpty) && decide ((high.size : Int) ≤ p / 8)
def valMay (v : S32) (p : Int) : Bool := if valOk v = true then (v.f0 == decide (p / 4 < mx v.f2 (v.f1.size : Int))) else false
/-- May the item at a place be, behind the one ahead? -/
def itemAt (right : Int) (high : ByteArray) (p : Int) (l : List S35) (i : Nat) : Bool :=
  decide (((rd_T35 l (i : Int)).f0.size : Int) ≤ p / 8) && valMay (rd_T35 l (i : Int)).f1 p && (decide (i = 0) || Op.bytesLess (rd_T35 l ((i : Int) - 1)).f0.toList (rd_T35 l (i : Int)).f0.toList) && (right == 0 || Op.bytesLess (rd_T35 l (i : Int)).f0.toList high.toList)
def itemsFrom (right : Int) (high : ByteArray) (p : Int) (l : List S35) : Nat → Nat → Bool
  | 0, _ => true
  | d + 1, i => itemAt right high p l i && itemsFrom right high p l d (i + 1)
def mayB (self right : Int) (high : ByteArray) (l : List S35) (p : Int) : Bool := mayHead self right high p && itemsFrom right high p l l.length 0
def leaf_May.f (self right : Int) (high : ByteArray) (l : List S35) (p : Int) : Option Bool := if l.length ≤ 1000000 then some (mayB self right high l p) else none
theorem value_ok (v : S32) (p : Int) (hp : 128 ≤ p ∧ p ≤ 1024) : leaf_value.f v.f0 v.f1 v.f2 v.f3 p = some (valMay v p) := by
  unfold leaf_value.f valMay
  rw [cell_Right_ok]
  have hq : wrap64 (Int.tdiv p 4) = p / 4 := by rw [Int.tdiv_eq_ediv_of_nonneg (by omega)]; exact IntWalk.wrap64_in _ (by omega)
  rw [hq]
  simp only [Option.bind_some]
  by_cases h : valOk v = true
  · rw [if_pos h, if_pos h]
  · rw [if_neg h, if_neg h]
set_option maxRecDepth 100000 in
set_option maxHeartbeats 4000000 in
theorem May_no1 (self right : Int) (high : ByteArray) (p : Int) (A : Option Addr) (c : Nat) (l : List S35) (w : World) (h1 : sizeOk p = false) :
    Calls Try.prog 27 #[.agg #[.int .i64 self, .int .i64 right, .string high, .slice A l.length c], .int .i64 p] w fun e w' => e = .returned (.bool false) ∧ Below w.heap.size w w' := by
  have HS := Aside0.mk (show disk_Size.f p = some false by unfold disk_Size.f; exact congrArg some h1)
  clear h1
  go_enter Try.func27, Try.ntmps27
  go_wp2_with (first | (go_at_call 25; refine (disk_Size.calls p false _ HS.out).mono ?_; rintro e w1 ⟨rfl, hb1⟩; have HB := Aside0.mk (below_step (below_alloc (Below.refl _ _) _) hb1); obtain ⟨hc1, hz1⟩ : (∀ j, w1.cell? ⟨w.heap.size, j, none⟩ = (w.alloc (.cells #[.int .i64 self, .int .i64 right, .string high, .slice A l.length c] 46)).cell? ⟨w.heap.size, j, none⟩) ∧ w.heap.size < w1.heap.size := ⟨fun j => hb1.cell (by simp), by have := hb1.size; simp at this; omega⟩; clear hb1))
  go_ret
  exact ⟨rfl, by repeat (first | exact HB.out | apply pw_below_drewN | apply below_drew)⟩
set_option maxRecDepth 100000 in
set_option maxHeartbeats 4000000 in
theorem May_no2 (self right : Int) (high : ByteArray) (p : Int) (A : Option Addr) (c : Nat) (l : List S35) (w : World) (h1 : sizeOk p = true) (h2 : numOk self = false) :
    Calls Try.prog 27 #[.agg #[.int .i64 self, .int .i64 right, .string high, .slice A l.length c], .int .i64 p] w fun e w' => e = .returned (.bool false) ∧ Below w.heap.size w w' := by
  have HS := Aside0.mk (show disk_Size.f p = some true by unfold disk_Size.f; exact congrArg some h1)
  have hpb := sizeOk_bounds h1
  have hp0 := hpb.1
  have hp1 := hpb.2
  have HN := Aside0.mk (show leaf_number.f self = some false by rw [number_ok, h2])
  clear h1 h2
  go_enter Try.func27, Try.ntmps27
  go_wp2_with (first | (go_at_call 25; refine (disk_Size.calls p true _ HS.out).mono ?_; rintro e w1 ⟨rfl, hb1⟩; have HB := Aside0.mk (below_step (below_alloc (Below.refl _ _) _) hb1); obtain ⟨hc1, hz1⟩ : (∀ j, w1.cell? ⟨w.heap.size, j, none⟩ = (w.alloc (.cells #[.int .i64 self, .int .i64 right, .string high, .slice A l.length c] 46)).cell? ⟨w.heap.size, j, none⟩) ∧ w.heap.size < w1.heap.size := ⟨fun j => hb1.cell (by simp), by have := hb1.size; simp at this; omega⟩; clear hb1) | (go_at_call 37; ((with_reducible refine (leaf_number.calls self false _ HN.out).mono ?_); rintro e w2 ⟨rfl, ⟨nd, rfl⟩⟩)))
  go_ret
  exact ⟨rfl, by repeat (first | exact HB.out | apply pw_below_drewN | apply below_drew)⟩
set_option maxRecDepth 100000 in
set_option maxHeartbeats 4000000 in
theorem May_no3 (self right : Int) (high : ByteArray) (p : Int) (A : Option Addr) (c : Nat) (l : List S35) (w : World) (h1 : sizeOk p = true) (h2 : numOk self = true) (h3 : ¬ right = 0) (h4 : numOk right = false) :
    Calls Try.prog 27 #[.agg #[.int .i64 self, .int .i64 right, .string high, .slice A l.length c], .int .i64 p] w fun e w' => e = .returned (.bool false) ∧ Below w.heap.size w w' := by
  have HS := Aside0.mk (show disk_Size.f p = some true by unfold disk_Size.f; exact congrArg some h1)
  have hpb := sizeOk_bounds h1
  have hp0 := hpb.1
  have hp1 := hpb.2
  have HN := Aside0.mk (show leaf_number.f self = some true by rw [number_ok, h2])
  have q1 : (right != 0) = true := by simpa using h3
  have q2 : (right == 0) = false := by simpa using h3
  have HR := Aside0.mk (show leaf_number.f right = some false by rw [number_ok, h4])
  clear h1 h2 h3 h4
  go_enter Try.func27, Try.ntmps27
  go_wp2_with (first | (go_at_call 25; refine (disk_Size.calls p true _ HS.out).mono ?_; rintro e w1 ⟨rfl, hb1⟩; have HB := Aside0.mk (below_step (below_alloc (Below.refl _ _) _) hb1); obtain ⟨hc1, hz1⟩ : (∀ j, w1.cell? ⟨w.heap.size, j, none⟩ = (w.alloc (.cells #[.int .i64 self, .int .i64 right, .string high, .slice A l.length c] 46)).cell? ⟨w.heap.size, j, none⟩) ∧ w.heap.size < w1.heap.size := ⟨fun j => hb1.cell (by simp), by have := hb1.size; simp at this; omega⟩; clear hb1) | (go_at_call 37; ((with_reducible refine (leaf_number.calls self true _ HN.out).mono ?_); rintro e w2 ⟨rfl, ⟨nd, rfl⟩⟩)) | (go_at_call 37; ((with_reducible refine (leaf_number.calls right false _ HR.out).mono ?_); rintro e w2 ⟨rfl, ⟨nd, rfl⟩⟩)))
  go_ret
  exact ⟨rfl, by repeat (first | exact HB.out | apply pw_below_drewN | apply below_drew)⟩
set_option maxRecDepth 100000 in
set_option maxHeartbeats 4000000 in
theorem May_no40 (self right : Int) (high : ByteArray) (p : Int) (A : Option Addr) (c : Nat) (l : List S35) (w : World) (h1 : sizeOk p = true) (h2 : numOk self = true) (h3 : right = 0) (h5 : right = self) :
    Calls Try.prog 27 #[.agg #[.int .i64 self, .int .i64 right, .string high, .slice A l.length c], .int .i64 p] w fun e w' => e = .returned (.bool false) ∧ Below w.heap.size w w' := by
  have HS := Aside0.mk (show disk_Size.f p = some true by unfold disk_Size.f; exact congrArg some h1)
  have hpb := sizeOk_bounds h1
  have hp0 := hpb.1
  have hp1 := hpb.2
  have HN := Aside0.mk (show leaf_number.f self = some true by rw [number_ok, h2])
  have q1 : (right != 0) = false := by simpa using h3
  have q2 : (right == 0) = true := by simpa using h3
  have q3 : (right == self) = true := by simpa using h5
  clear h1 h2 h3 h5
  go_enter Try.func27, Try.ntmps27
  go_wp2_with (first | (go_at_call 25; refine (disk_Size.calls p true _ HS.out).mono ?_; rintro e w1 ⟨rfl, hb1⟩; have HB := Aside0.mk (below_step (below_alloc (Below.refl _ _) _) hb1); obtain ⟨hc1, hz1⟩ : (∀ j, w1.cell? ⟨w.heap.size, j, none⟩ = (w.alloc (.cells #[.int .i64 self, .int .i64 right, .string high, .slice A l.length c] 46)).cell? ⟨w.heap.size, j, none⟩) ∧ w.heap.size < w1.heap.size := ⟨fun j => hb1.cell (by simp), by have := hb1.size; simp at this; omega⟩; clear hb1) | (go_at_call 37; ((with_reducible refine (leaf_number.calls self true _ HN.out).mono ?_); rintro e w2 ⟨rfl, ⟨nd, rfl⟩⟩)))
  go_ret
  exact ⟨rfl, by repeat (first | exact HB.out | apply pw_below_drewN | apply below_drew)⟩
set_option maxRecDepth 100000 in
set_option maxHeartbeats 4000000 in
theorem May_no50 (self right : Int) (high : ByteArray) (p : Int) (A : Option Addr) (c : Nat) (l : List S35) (w : World) (h1 : sizeOk p = true) (h2 : numOk self = true) (h3 : right = 0) (h5 : ¬ right = self) (h6 : high.toList ≠ []) :
    Calls Try.prog 27 #[.agg #[.int .i64 self, .int .i64 right, .string high, .slice A l.length c], .int .i64 p] w fun e w' => e = .returned (.bool false) ∧ Below w.heap.size w w' := by
  have HS := Aside0.mk (show disk_Size.f p = some true by unfold disk_Size.f; exact congrArg some h1)
  have hpb := sizeOk_bounds h1
  have hp0 := hpb.1
  have hp1 := hpb.2
  have HN := Aside0.mk (show leaf_number.f self = some true by rw [number_ok, h2])
  have q1 : (right != 0) = false := by simpa using h3
  have q2 : (right == 0) = true := by simpa using h3
  have q3 : (right == self) = false := by simpa using h5
  have q4 : high.toList.isEmpty = false := by simpa using h6
  have q5 : (high.toList == []) = false := by simpa using h6
  clear h1 h2 h3 h5 h6 hpb
  go_enter Try.func27, Try.ntmps27
  go_wp2_with (first | (go_at_call 25; refine (disk_Size.calls p true _ HS.out).mono ?_; rintro e w1 ⟨rfl, hb1⟩; have HB := Aside0.mk (below_step (below_alloc (Below.refl _ _) _) hb1); obtain ⟨hc1, hz1⟩ : (∀ j, w1.cell? ⟨w.heap.size, j, none⟩ = (w.alloc (.cells #[.int .i64 self, .int .i64 right, .string high, .slice A l.length c] 46)).cell? ⟨w.heap.size, j, none⟩) ∧ w.heap.size < w1.heap.size := ⟨fun j => hb1.cell (by simp), by have := hb1.size; simp at this; omega⟩; clear hb1) | (go_at_call 37; ((with_reducible refine (leaf_number.calls self true _ HN.out).mono ?_); rintro e w2 ⟨rfl, ⟨nd, rfl⟩⟩)))
  go_ret
  exact ⟨rfl, by repeat (first | exact HB.out | apply pw_below_drewN | apply below_drew)⟩
set_option maxRecDepth 100000 in
set_option maxHeartbeats 4000000 in
theorem May_no60 (self right : Int) (high : ByteArray) (p : Int) (A : Option Addr) (c : Nat) (l : List S35) (w : World) (h1 : sizeOk p = true) (h2 : numOk self = true) (h3 : right = 0) (h5 : ¬ right = self) (h6 : high.toList = []) (h7 : p / 8 < (high.size : Int)) :
    Calls Try.prog 27 #[.agg #[.int .i64 self, .int .i64 right, .string high, .slice A l.length c], .int .i64 p] w fun e w' => e = .returned (.bool false) ∧ Below w.heap.size w w' := by
  have HS := Aside0.mk (show disk_Size.f p = some true by unfold disk_Size.f; exact congrArg some h1)
  have hpb := sizeOk_bounds h1
  have hp0 := hpb.1
  have hp1 := hpb.2
  have HN := Aside0.mk (show leaf_number.f self = some true by rw [number_ok, h2])
  have q1 : (right != 0) = false := by simpa using h3
  have q2 : (right == 0) = true := by simpa using h3
  have q3 : (right == self) = false := by simpa using h5
  have q4 : high.toList.isEmpty = true := by simpa using h6
  have q5 : (high.toList == []) = true := by simpa using h6
  have q6 : decide (p / 8 < (high.size : Int)) = true := decide_eq_true h7
  clear h1 h2 h3 h5 h6 h7
  go_enter Try.func27, Try.ntmps27
  go_wp2_with (first | (go_at_call 25; refine (disk_Size.calls p true _ HS.out).mono ?_; rintro e w1 ⟨rfl, hb1⟩; have HB := Aside0.mk (below_step (below_alloc (Below.refl _ _) _) hb1); obtain ⟨hc1, hz1⟩ : (∀ j, w1.cell? ⟨w.heap.size, j, none⟩ = (w.alloc (.cells #[.int .i64 self, .int .i64 right, .string high, .slice A l.length c] 46)).cell? ⟨w.heap.size, j, none⟩) ∧ w.heap.size < w1.heap.size := ⟨fun j => hb1.cell (by simp), by have := hb1.size; simp at this; omega⟩; clear hb1) | (go_at_call 37; ((with_reducible refine (leaf_number.calls self true _ HN.out).mono ?_); rintro e w2 ⟨rfl, ⟨nd, rfl⟩⟩)))
  go_ret
  exact ⟨rfl, by repeat (first | exact HB.out | apply pw_below_drewN | apply below_drew)⟩
set_option maxRecDepth 100000 in
set_option maxHeartbeats 4000000 in
theorem May_no41 (self right : Int) (high : ByteArray) (p : Int) (A : Option Addr) (c : Nat) (l : List S35) (w : World) (h1 : sizeOk p = true) (h2 : numOk self = true) (h3 : ¬ right = 0) (h4 : numOk right = true) (h5 : right = self) :
    Calls Try.prog 27 #[.agg #[.int .i64 self, .int .i64 right, .string high, .slice A l.length c], .int .i64 p] w fun e w' => e = .returned (.bool false) ∧ Below w.heap.size w w' := by
  have HS := Aside0.mk (show disk_Size.f p = some true by unfold disk_Size.f; exact congrArg some h1)
  have hpb := sizeOk_bounds h1
  have hp0 := hpb.1
  have hp1 := hpb.2
  have HN := Aside0.mk (show leaf_number.f self = some true by rw [number_ok, h2])
  have q1 : (right != 0) = true := by simpa using h3
  have q2 : (right == 0) = false := by simpa using h3
  have HR := Aside0.mk (show leaf_number.f right = some true by rw [number_ok, h4])
  have q3 : (right == self) = true := by simpa using h5
  clear h1 h2 h3 h4 h5
  go_enter Try.func27, Try.ntmps27
  go_wp2_with (first | (go_at_call 25; refine (disk_Size.calls p true _ HS.out).mono ?_; rintro e w1 ⟨rfl, hb1⟩; have HB := Aside0.mk (below_step (below_alloc (Below.refl _ _) _) hb1); obtain ⟨hc1, hz1⟩ : (∀ j, w1.cell? ⟨w.heap.size, j, none⟩ = (w.alloc (.cells #[.int .i64 self, .int .i64 right, .string high, .slice A l.length c] 46)).cell? ⟨w.heap.size, j, none⟩) ∧ w.heap.size < w1.heap.size := ⟨fun j => hb1.cell (by simp), by have := hb1.size; simp at this; omega⟩; clear hb1) | (go_at_call 37; ((with_reducible refine (leaf_number.calls self true _ HN.out).mono ?_); rintro e w2 ⟨rfl, ⟨nd, rfl⟩⟩)) | (go_at_call 37; ((with_reducible refine (leaf_number.calls right true _ HR.out).mono ?_); rintro e w2 ⟨rfl, ⟨nd, rfl⟩⟩)))
  go_ret
  exact ⟨rfl, by repeat (first | exact HB.out | apply pw_below_drewN | apply below_drew)⟩
set_option maxRecDepth 100000 in
set_option maxHeartbeats 4000000 in
theorem May_no51 (self right : Int) (high : ByteArray) (p : Int) (A : Option Addr) (c : Nat) (l : List S35) (w : World) (h1 : sizeOk p = true) (h2 : numOk self = true) (h3 : ¬ right = 0) (h4 : numOk right = true) (h5 : ¬ right = self) (h6 : high.toList = []) :
    Calls Try.prog 27 #[.agg #[.int .i64 self, .int .i64 right, .string high, .slice A l.length c], .int .i64 p] w fun e w' => e = .returned (.bool false) ∧ Below w.heap.size w w' := by
  have HS := Aside0.mk (show disk_Size.f p = some true by unfold disk_Size.f; exact congrArg some h1)
  have hpb := sizeOk_bounds h1
  have hp0 := hpb.1
  have hp1 := hpb.2
  have HN := Aside0.mk (show leaf_number.f self = some true by rw [number_ok, h2])
  have q1 : (right != 0) = true := by simpa using h3
  have q2 : (right == 0) = false := by simpa using h3
  have HR := Aside0.mk (show leaf_number.f right = some true by rw [number_ok, h4])
  have q3 : (right == self) = false := by simpa using h5
  have q4 : high.toList.isEmpty = true := by simpa using h6
  have q5 : (high.toList == []) = true := by simpa using h6
  clear h1 h2 h3 h4 h5 h6 hpb
  go_enter Try.func27, Try.ntmps27
  go_wp2_with (first | (go_at_call 25; refine (disk_Size.calls p true _ HS.out).mono ?_; rintro e w1 ⟨rfl, hb1⟩; have HB := Aside0.mk (below_step (below_alloc (Below.refl _ _) _) hb1); obtain ⟨hc1, hz1⟩ : (∀ j, w1.cell? ⟨w.heap.size, j, none⟩ = (w.alloc (.cells #[.int .i64 self, .int .i64 right, .string high, .slice A l.length c] 46)).cell? ⟨w.heap.size, j, none⟩) ∧ w.heap.size < w1.heap.size := ⟨fun j => hb1.cell (by simp), by have := hb1.size; simp at this; omega⟩; clear hb1) | (go_at_call 37; ((with_reducible refine (leaf_number.calls self true _ HN.out).mono ?_); rintro e w2 ⟨rfl, ⟨nd, rfl⟩⟩)) | (go_at_call 37; ((with_reducible refine (leaf_number.calls right true _ HR.out).mono ?_); rintro e w2 ⟨rfl, ⟨nd, rfl⟩⟩)))
  go_ret
  exact ⟨rfl, by repeat (first | exact HB.out | apply pw_below_drewN | apply below_drew)⟩
set_option maxRecDepth 100000 in
set_option maxHeartbeats 4000000 in
theorem May_no61 (self right : Int) (high : ByteArray) (p : Int) (A : Option Addr) (c : Nat) (l : List S35) (w : World) (h1 : sizeOk p = true) (h2 : numOk self = true) (h3 : ¬ right = 0) (h4 : numOk right = true) (h5 : ¬ right = self) (h6 : high.toList ≠ []) (h7 : p / 8 < (high.size : Int)) :
    Calls Try.prog 27 #[.agg #[.int .i64 self, .int .i64 right, .string high, .slice A l.length c], .int .i64 p] w fun e w' => e = .returned (.bool false) ∧ Below w.heap.size w w' := by
  have HS := Aside0.mk (show disk_Size.f p = some true by unfold disk_Size.f; exact congrArg some h1)
  have hpb := sizeOk_bounds h1
  have hp0 := hpb.1
  have hp1 := hpb.2
  have HN := Aside0.mk (show leaf_number.f self = some true by rw [number_ok, h2])
  have q1 : (right != 0) = true := by simpa using h3
  have q2 : (right == 0) = false := by simpa using h3
  have HR := Aside0.mk (show leaf_number.f right = some true by rw [number_ok, h4])
  have q3 : (right == self) = false := by simpa using h5
  have q4 : high.toList.isEmpty = false := by simpa using h6
  have q5 : (high.toList == []) = false := by simpa using h6
  have q6 : decide (p / 8 < (high.size : Int)) = true := decide_eq_true h7
  clear h1 h2 h3 h4 h5 h6 h7
  go_enter Try.func27, Try.ntmps27
  go_wp2_with (first | (go_at_call 25; refine (disk_Size.calls p true _ HS.out).mono ?_; rintro e w1 ⟨rfl, hb1⟩; have HB := Aside0.mk (below_step (below_alloc (Below.refl _ _) _) hb1); obtain ⟨hc1, hz1⟩ : (∀ j, w1.cell? ⟨w.heap.size, j, none⟩ = (w.alloc (.cells #[.int .i64 self, .int .i64 right, .string high, .slice A l.length c] 46)).cell? ⟨w.heap.size, j, none⟩) ∧ w.heap.size < w1.heap.size := ⟨fun j => hb1.cell (by simp), by have := hb1.size; simp at this; omega⟩; clear hb1) | (go_at_call 37; ((with_reducible refine (leaf_number.calls self true _ HN.out).mono ?_); rintro e w2 ⟨rfl, ⟨nd, rfl⟩⟩)) | (go_at_call 37; ((with_reducible refine (leaf_number.calls right true _ HR.out).mono ?_); rintro e w2 ⟨rfl, ⟨nd, rfl⟩⟩)))
  go_ret
  exact ⟨rfl, by repeat (first | exact HB.out | apply pw_below_drewN | apply below_drew)⟩
/-- What a round must keep: the leaf's box, the item's box, and the key ahead. -/
def MayS (w : World) (right : Int) (high : ByteArray) (A : Option Addr) (n c : Nat) (W : World) : Prop := (W.cell? ⟨w.heap.size, 1, none⟩ = some (.int .i64 right) ∧ W.cell? ⟨w.heap.size, 2, none⟩ = some (.string high) ∧ W.cell? ⟨w.heap.size, 3, none⟩ = some (.slice A n c)) ∧ Below w.heap.size w W
theorem MayS.step {w W w2 : World} {right : Int} {high : ByteArray} {A : Option Addr} {n c : Nat} (h : MayS w right high A n c W) (hb : Below W.heap.size W w2) : MayS w right high A n c w2 := by
  obtain ⟨⟨h0, h1, h2⟩, hB⟩ := h
  exact ⟨⟨(hb.cell (World.block_lt_of_cell? W _ h0)).trans h0, (hb.cell (World.block_lt_of_cell? W _ h1)).trans h1, (hb.cell (World.block_lt_of_cell? W _ h2)).trans h2⟩, below_step hB hb⟩
theorem MayS.start (w : World) (self right : Int) (high : ByteArray) (A : Option Addr) (n c : Nat) (o : Obj) (h : o = .cells #[.int .i64 self, .int .i64 right, .string high, .slice A n c] 46 (0, 0)) : MayS w right high A n c (w.alloc o) := by
  subst h
  refine ⟨⟨?_, ?_, ?_⟩, below_alloc (Below.refl _ _) _⟩ <;> simp
def MayX (w : World) (right : Int) (high : ByteArray) (A : Option Addr) (n c : Nat) (B : Nat) (x : S35) (ad : Addr) (pk : ByteArray) (W : World) : Prop := W.cell? ⟨B, 0, none⟩ = some (.string x.f0) ∧ W.cell? ⟨B, 1, none⟩ = some (.bool x.f1.f0) ∧ W.cell? ⟨B, 2, none⟩ = some (.string x.f1.f1) ∧ W.cell? ⟨B, 3, none⟩ = some (.int .i64 x.f1.f2) ∧ W.cell? ⟨B, 4, none⟩ = some (.int .i64 x.f1.f3) ∧ W.cell? ad = some (.string pk) ∧ W.cell? ⟨w.heap.size, 1, none⟩ = some (.int .i64 right) ∧ W.cell? ⟨w.heap.size, 2, none⟩ = some (.string high) ∧ W.cell? ⟨w.heap.size, 3, none⟩ = some (.slice A n c) ∧ Below w.heap.size w W
theorem MayX.step {w W w2 : World} {right : Int} {high : ByteArray} {A : Option Addr} {n c B : Nat} {x : S35} {ad : Addr} {pk : ByteArray} (h : MayX w right high A n c B x ad pk W) (hb : Below W.heap.size W w2) : MayX w right high A n c B x ad pk w2 := by
  obtain ⟨h0, h1, h2, h3, h4, h5, h6, h7, h8, hB⟩ := h
  exact ⟨(hb.cell (World.block_lt_of_cell? W _ h0)).trans h0, (hb.cell (World.block_lt_of_cell? W _ h1)).trans h1, (hb.cell (World.block_lt_of_cell? W _ h2)).trans h2, (hb.cell (World.block_lt_of_cell? W _ h3)).trans h3, (hb.cell (World.block_lt_of_cell? W _ h4)).trans h4, (hb.cell (World.block_lt_of_cell? W _ h5)).trans h5, (hb.cell (World.block_lt_of_cell? W _ h6)).trans h6, (hb.cell (World.block_lt_of_cell? W _ h7)).trans h7, (hb.cell (World.block_lt_of_cell? W _ h8)).trans h8, below_step hB hb⟩
theorem MayX.drew {w W : World} {right : Int} {high : ByteArray} {A : Option Addr} {n c B : Nat} {x : S35} {ad : Addr} {pk : ByteArray} (h : MayX w right high A n c B x ad pk W) : MayX w right high A n c B x ad pk W.drew := h.step (below_drew (Below.refl _ _))
theorem MayX.mayS {w W : World} {right : Int} {high : ByteArray} {A : Option Addr} {n c B : Nat} {x : S35} {ad : Addr} {pk : ByteArray} (h : MayX w right high A n c B x ad pk W) : MayS w right high A n c W := ⟨⟨h.2.2.2.2.2.2.1, h.2.2.2.2.2.2.2.1, h.2.2.2.2.2.2.2.2.1⟩, h.2.2.2.2.2.2.2.2.2⟩
theorem itemsFrom_step {right : Int} {high : ByteArray} {p : Int} {l : List S35} {k : Nat} (hk : k < l.length) : itemsFrom right high p l (l.length - k) k = (itemAt right high p l k && itemsFrom right high p l (l.length - (k + 1)) (k + 1)) := by
  rw [show l.length - k = (l.length - (k + 1)) + 1 by omega]
  rfl
theorem wp_region_class {P : Program} (C : World → Prop) {id : Nat} {Q : Exit → Act → World → Prop} {a : Act} {w : World} {l : List Oper} (hm : P.follows .mixedOrders = true) (hB : Region.lexB .any l.toArray = true) (hC : C w.drew)
    (h : wpQuiet P l.toArray C (fun a' => ∀ w', C w' → Q .normal a' w') l a) : (Code.region id l.toArray true).wp P Q a w :=
  wp_region_quiet (C := C) hm hB hC (by simpa using h)
set_option maxRecDepth 100000 in
set_option maxHeartbeats 4000000 in
theorem May_loop1 (self right : Int) (high : ByteArray) (p : Int) (A : Option Addr) (c : Nat) (l : List S35) (w : World) (h1 : sizeOk p = true) (h2 : numOk self = true) (h3 : ¬ right = 0) (h4 : numOk right = true) (h5 : ¬ right = self) (h6 : high.toList ≠ []) (h7 : (high.size : Int) ≤ p / 8) (r : Bool) (hr : itemsFrom right high p l l.length 0 = r) (hrow : Kd.C k35 w A l.length l) (hc : l.length ≤ c) (hln : l.length ≤ 1000000) :
    Calls Try.prog 27 #[.agg #[.int .i64 self, .int .i64 right, .string high, .slice A l.length c], .int .i64 p] w fun e w' => e = .returned (.bool r) ∧ Below w.heap.size w w' := by
  have HS := Aside0.mk (show disk_Size.f p = some true by unfold disk_Size.f; exact congrArg some h1)
  have hpb := sizeOk_bounds h1
  have hp0 := hpb.1
  have hp1 := hpb.2
  have HN := Aside0.mk (show leaf_number.f self = some true by rw [number_ok, h2])
  have q1 : (right != 0) = true := by simpa using h3
  have q2 : (right == 0) = false := by simpa using h3
  have HR := Aside0.mk (show leaf_number.f right = some true by rw [number_ok, h4])
  have q3 : (right == self) = false := by simpa using h5
  have q4 : high.toList.isEmpty = false := by simpa using h6
  have q5 : (high.toList == []) = false := by simpa using h6
  have q6 : decide (p / 8 < (high.size : Int)) = false := decide_eq_false (by omega)
  have HI := Aside0.mk hr
  have HL := Aside0.mk hrow
  clear h1 h2 h3 h4 h5 h6 h7 hr hrow hc
  go_enter Try.func27, Try.ntmps27
  go_wp2_with (first | (go_at_call 25; refine (disk_Size.calls p true _ HS.out).mono ?_; rintro e w1 ⟨rfl, hb1⟩; have HB := Aside0.mk (below_step (below_alloc (Below.refl _ _) _) hb1); have hS := (MayS.start w self right high A l.length c _ rfl).step hb1; obtain ⟨hc1, hz1⟩ : (∀ j, w1.cell? ⟨w.heap.size, j, none⟩ = (w.alloc (.cells #[.int .i64 self, .int .i64 right, .string high, .slice A l.length c] 46)).cell? ⟨w.heap.size, j, none⟩) ∧ w.heap.size < w1.heap.size := ⟨fun j => hb1.cell (by simp), by have := hb1.size; simp at this; omega⟩; clear hb1) | (go_at_call 37; ((with_reducible refine (leaf_number.calls self true _ HN.out).mono ?_); rintro e w2 ⟨rfl, ⟨nd, rfl⟩⟩)) | (go_at_call 37; ((with_reducible refine (leaf_number.calls right true _ HR.out).mono ?_); rintro e w2 ⟨rfl, ⟨nd, rfl⟩⟩)))
  go_loopw [54] (fun i wr => ∃ k : Nat, k ≤ l.length ∧ i = .int .i64 k ∧ Aside0 (itemsFrom right high p l (l.length - k) k = r) ∧ Aside0 (MayS w right high A l.length c wr)) (fun i _ => l.length - (intOf i).toNat)
  case atStart => exact ⟨0, by omega, rfl, HI, ⟨by first | exact hS | exact hS.step (pw_below_drewN (Below.refl _ _) _)⟩⟩
  case round =>
    clear HB hS hc1 hz1 HI
    obtain ⟨k, h0, rfl, HI, HM⟩ := hrel
    by_cases hx : k < l.length
    · obtain ⟨ad0, e0, g0, g1, g2, g3, g4⟩ := at_T35 HL.out (k : Int) (by omega) (by omega)
      cases e0
      have hst := (itemsFrom_step hx).symm.trans HI.out
      unfold itemAt at hst
      have hval := value_ok (rd_T35 l (k : Int)).f1 p (by have := hpb; omega)
      obtain ⟨pk, hpk0, hpk⟩ : ∃ pk, (rd_T35 l ((k : Int) - 1)).f0 = pk ∧ (∀ m : Nat, k = m + 1 → wr.cell? (ad0.add (m * 5)) = some (.string pk)) := by
        refine ⟨_, rfl, ?_⟩
        rintro m rfl
        obtain ⟨ad1, e1, p0, _⟩ := at_T35 HL.out (m : Int) (by omega) (by omega)
        cases e1
        rw [show ((m + 1 : Nat) : Int) - 1 = (m : Int) by omega]
        rw [Int.toNat_natCast] at p0
        exact (HM.out.2.cell (World.block_lt_of_cell? w _ p0)).trans p0
      rw [hpk0] at hst
      have eK : (k : Int).toNat = k := Int.toNat_natCast k
      rw [eK] at g0 g1 g2 g3 g4
      replace g0 := (HM.out.2.cell (World.block_lt_of_cell? w _ g0)).trans g0
      replace g1 := (HM.out.2.cell (World.block_lt_of_cell? w _ g1)).trans g1
      replace g2 := (HM.out.2.cell (World.block_lt_of_cell? w _ g2)).trans g2
      replace g3 := (HM.out.2.cell (World.block_lt_of_cell? w _ g3)).trans g3
      replace g4 := (HM.out.2.cell (World.block_lt_of_cell? w _ g4)).trans g4
      clear eK hpk0
      generalize rd_T35 l (k : Int) = x at g0 g1 g2 g3 g4 hst hval
      have hq8 : IntKind.i64.wrap (p.tdiv 8) = p / 8 := by rw [Int.tdiv_eq_ediv_of_nonneg (by omega)]; exact IntWalk.i64_in _ (by omega)
      by_cases hA : (x.f0.size : Int) ≤ p / 8
      · have c1 : decide (p / 8 < (x.f0.size : Int)) = false := decide_eq_false (by omega)
        rw [decide_eq_true hA] at hst
        clear hA
        by_cases hB : valMay x.f1 p = true
        · rw [hB] at hst hval
          clear hB
          by_cases hC : k = 0 ∨ Op.bytesLess pk.toList x.f0.toList = true
          · by_cases hk : k = 0
            · have hC2 : (decide (k = 0) || Op.bytesLess pk.toList x.f0.toList) = true := by simpa using hC
              rw [hC2] at hst
              clear hC2
              clear hC
              have hk0 : decide (0 < (k : Int)) = false := decide_eq_false (by omega)
              have hk1 : decide (0 < k) = false := decide_eq_false (by omega)
              have hpk := g0
              obtain ⟨pk2, hpk2⟩ : ∃ pk2, x.f0 = pk2 := ⟨_, rfl⟩
              rw [hpk2] at hpk
              clear hpk2
              by_cases hD : Op.bytesLess x.f0.toList high.toList = true
              · have HI := Aside0.mk (show itemsFrom right high p l (l.length - (k + 1)) (k + 1) = r by rw [q2, hD] at hst; simpa using hst)
                have HV := Aside0.mk hval
                clear hst hval hk
                go_wp2
                have hX : MayX w right high (some ad0) l.length c wr.heap.size x (ad0.add (k * 5)) pk2 (wr.alloc (.cells #[.string x.f0, .bool x.f1.f0, .string x.f1.f1, .int .i64 x.f1.f2, .int .i64 x.f1.f3] 35)) := ⟨by simp, by simp, by simp, by simp, by simp, ((below_alloc (Below.refl _ _) _).cell (World.block_lt_of_cell? wr _ hpk)).trans hpk, ((below_alloc (Below.refl _ _) _).cell (World.block_lt_of_cell? wr _ HM.out.1.1)).trans HM.out.1.1, ((below_alloc (Below.refl _ _) _).cell (World.block_lt_of_cell? wr _ HM.out.1.2.1)).trans HM.out.1.2.1, ((below_alloc (Below.refl _ _) _).cell (World.block_lt_of_cell? wr _ HM.out.1.2.2)).trans HM.out.1.2.2, below_alloc HM.out.2 _⟩
                clear hpk HM g0 g1 g2 g3 g4
                refine wp_region_class (MayX w right high (some ad0) l.length c wr.heap.size x (ad0.add (k * 5)) pk2) (by kernel_rfl) (by kernel_rfl) hX.drew ?_
                repeat (first | go_big_quiet_skip | (go_big_quiet_want; go_big_quiet_op; first | go_big_quiet_on | (apply Exists.intro; refine ⟨fun W hW => ?_, ?_⟩; (first | (with_reducible exact rfl) | (go_at_call 38; ((with_reducible refine (leaf_value.calls x.f1.f0 x.f1.f1 x.f1.f2 x.f1.f3 p true _ HV.out).mono ?_); rintro e w5 ⟨rfl, hb5⟩; exact ⟨rfl, hW.step hb5⟩)) | (obtain ⟨y0, y1, y2, y3, y4, y5, y6, y7, y8, yB⟩ := hW; clear yB; go_simp; with_reducible rfl)); go_big_quiet_on)))
                refine wpQuiet_nil ?_
                intro W hW
                clear hX
                go_wp2
                go_roundw
                case rel => exact ⟨k + 1, by omega, by go_num, HI, ⟨hW.mayS⟩⟩
                case measure => simp [intOf]; omega
              · have hD : Op.bytesLess x.f0.toList high.toList = false := by simpa using hD
                have HI := Aside0.mk (show false = r by rw [q2, hD] at hst; simpa using hst)
                have HV := Aside0.mk hval
                clear hst hval hk
                go_wp2
                have hX : MayX w right high (some ad0) l.length c wr.heap.size x (ad0.add (k * 5)) pk2 (wr.alloc (.cells #[.string x.f0, .bool x.f1.f0, .string x.f1.f1, .int .i64 x.f1.f2, .int .i64 x.f1.f3] 35)) := ⟨by simp, by simp, by simp, by simp, by simp, ((below_alloc (Below.refl _ _) _).cell (World.block_lt_of_cell? wr _ hpk)).trans hpk, ((below_alloc (Below.refl _ _) _).cell (World.block_lt_of_cell? wr _ HM.out.1.1)).trans HM.out.1.1, ((below_alloc (Below.refl _ _) _).cell (World.block_lt_of_cell? wr _ HM.out.1.2.1)).trans HM.out.1.2.1, ((below_alloc (Below.refl _ _) _).cell (World.block_lt_of_cell? wr _ HM.out.1.2.2)).trans HM.out.1.2.2, below_alloc HM.out.2 _⟩
                clear hpk HM g0 g1 g2 g3 g4
                refine wp_region_class (MayX w right high (some ad0) l.length c wr.heap.size x (ad0.add (k * 5)) pk2) (by kernel_rfl) (by kernel_rfl) hX.drew ?_
                repeat (first | go_big_quiet_skip | (go_big_quiet_want; go_big_quiet_op; first | go_big_quiet_on | (apply Exists.intro; refine ⟨fun W hW => ?_, ?_⟩; (first | (with_reducible exact rfl) | (go_at_call 38; ((with_reducible refine (leaf_value.calls x.f1.f0 x.f1.f1 x.f1.f2 x.f1.f3 p true _ HV.out).mono ?_); rintro e w5 ⟨rfl, hb5⟩; exact ⟨rfl, hW.step hb5⟩)) | (obtain ⟨y0, y1, y2, y3, y4, y5, y6, y7, y8, yB⟩ := hW; clear yB; go_simp; with_reducible rfl)); go_big_quiet_on)))
                refine wpQuiet_nil ?_
                intro W hW
                clear hX
                go_wp2
                go_ret
                exact ⟨by rw [← HI.out]; rfl, hW.2.2.2.2.2.2.2.2.2⟩
            · have hC2 : (decide (k = 0) || Op.bytesLess pk.toList x.f0.toList) = true := by simpa using hC
              rw [hC2] at hst
              clear hC2
              have q7 : Op.bytesLess pk.toList x.f0.toList = true := hC.resolve_left hk
              clear hC
              obtain ⟨m, hm⟩ : ∃ m : Nat, k = m + 1 := ⟨k - 1, by omega⟩
              have hk0 : decide (0 < (k : Int)) = true := decide_eq_true (by omega)
              have hk1 : decide (0 < k) = true := decide_eq_true (by omega)
              replace hpk := hpk m hm
              have hm1 : (k : Int) - 1 = (m : Int) := by omega
              have hm2 : IntKind.i64.wrap (m : Int) = (m : Int) := IntWalk.i64_in _ (by omega)
              have hm3 : IntKind.i64.wrap ((k : Int) - 1) = (m : Int) := by rw [hm1]; exact hm2
              have hm4 : (m : Int) < (l.length : Int) := by omega
              have hm5 : (0 : Int) ≤ (m : Int) := by omega
              clear hm
              by_cases hD : Op.bytesLess x.f0.toList high.toList = true
              · have HI := Aside0.mk (show itemsFrom right high p l (l.length - (k + 1)) (k + 1) = r by rw [q2, hD] at hst; simpa using hst)
                have HV := Aside0.mk hval
                clear hst hval hk
                go_wp2
                have hX : MayX w right high (some ad0) l.length c wr.heap.size x (ad0.add (m * 5)) pk (wr.alloc (.cells #[.string x.f0, .bool x.f1.f0, .string x.f1.f1, .int .i64 x.f1.f2, .int .i64 x.f1.f3] 35)) := ⟨by simp, by simp, by simp, by simp, by simp, ((below_alloc (Below.refl _ _) _).cell (World.block_lt_of_cell? wr _ hpk)).trans hpk, ((below_alloc (Below.refl _ _) _).cell (World.block_lt_of_cell? wr _ HM.out.1.1)).trans HM.out.1.1, ((below_alloc (Below.refl _ _) _).cell (World.block_lt_of_cell? wr _ HM.out.1.2.1)).trans HM.out.1.2.1, ((below_alloc (Below.refl _ _) _).cell (World.block_lt_of_cell? wr _ HM.out.1.2.2)).trans HM.out.1.2.2, below_alloc HM.out.2 _⟩
                clear hpk HM g0 g1 g2 g3 g4
                refine wp_region_class (MayX w right high (some ad0) l.length c wr.heap.size x (ad0.add (m * 5)) pk) (by kernel_rfl) (by kernel_rfl) hX.drew ?_
                repeat (first | go_big_quiet_skip | (go_big_quiet_want; go_big_quiet_op; first | go_big_quiet_on | (apply Exists.intro; refine ⟨fun W hW => ?_, ?_⟩; (first | (with_reducible exact rfl) | (go_at_call 38; ((with_reducible refine (leaf_value.calls x.f1.f0 x.f1.f1 x.f1.f2 x.f1.f3 p true _ HV.out).mono ?_); rintro e w5 ⟨rfl, hb5⟩; exact ⟨rfl, hW.step hb5⟩)) | (obtain ⟨y0, y1, y2, y3, y4, y5, y6, y7, y8, yB⟩ := hW; clear yB; go_simp; with_reducible rfl)); go_big_quiet_on)))
                refine wpQuiet_nil ?_
                intro W hW
                clear hX
                go_wp2
                go_roundw
                case rel => exact ⟨k + 1, by omega, by go_num, HI, ⟨hW.mayS⟩⟩
                case measure => simp [intOf]; omega
              · have hD : Op.bytesLess x.f0.toList high.toList = false := by simpa using hD
                have HI := Aside0.mk (show false = r by rw [q2, hD] at hst; simpa using hst)
                have HV := Aside0.mk hval
                clear hst hval hk
                go_wp2
                have hX : MayX w right high (some ad0) l.length c wr.heap.size x (ad0.add (m * 5)) pk (wr.alloc (.cells #[.string x.f0, .bool x.f1.f0, .string x.f1.f1, .int .i64 x.f1.f2, .int .i64 x.f1.f3] 35)) := ⟨by simp, by simp, by simp, by simp, by simp, ((below_alloc (Below.refl _ _) _).cell (World.block_lt_of_cell? wr _ hpk)).trans hpk, ((below_alloc (Below.refl _ _) _).cell (World.block_lt_of_cell? wr _ HM.out.1.1)).trans HM.out.1.1, ((below_alloc (Below.refl _ _) _).cell (World.block_lt_of_cell? wr _ HM.out.1.2.1)).trans HM.out.1.2.1, ((below_alloc (Below.refl _ _) _).cell (World.block_lt_of_cell? wr _ HM.out.1.2.2)).trans HM.out.1.2.2, below_alloc HM.out.2 _⟩
                clear hpk HM g0 g1 g2 g3 g4
                refine wp_region_class (MayX w right high (some ad0) l.length c wr.heap.size x (ad0.add (m * 5)) pk) (by kernel_rfl) (by kernel_rfl) hX.drew ?_
                repeat (first | go_big_quiet_skip | (go_big_quiet_want; go_big_quiet_op; first | go_big_quiet_on | (apply Exists.intro; refine ⟨fun W hW => ?_, ?_⟩; (first | (with_reducible exact rfl) | (go_at_call 38; ((with_reducible refine (leaf_value.calls x.f1.f0 x.f1.f1 x.f1.f2 x.f1.f3 p true _ HV.out).mono ?_); rintro e w5 ⟨rfl, hb5⟩; exact ⟨rfl, hW.step hb5⟩)) | (obtain ⟨y0, y1, y2, y3, y4, y5, y6, y7, y8, yB⟩ := hW; clear yB; go_simp; with_reducible rfl)); go_big_quiet_on)))
                refine wpQuiet_nil ?_
                intro W hW
                clear hX
                go_wp2
                go_ret
                exact ⟨by rw [← HI.out]; rfl, hW.2.2.2.2.2.2.2.2.2⟩
          · have hk : ¬ k = 0 := fun h => hC (.inl h)
            have q7 : Op.bytesLess pk.toList x.f0.toList = false := by simpa using fun h => hC (.inr h)
            have HI := Aside0.mk (show false = r by simpa [hk, q7] using hst)
            clear hC
            obtain ⟨m, hm⟩ : ∃ m : Nat, k = m + 1 := ⟨k - 1, by omega⟩
            have hk0 : decide (0 < (k : Int)) = true := decide_eq_true (by omega)
            have hk1 : decide (0 < k) = true := decide_eq_true (by omega)
            replace hpk := hpk m hm
            have hm1 : (k : Int) - 1 = (m : Int) := by omega
            have hm2 : IntKind.i64.wrap (m : Int) = (m : Int) := IntWalk.i64_in _ (by omega)
            have hm3 : IntKind.i64.wrap ((k : Int) - 1) = (m : Int) := by rw [hm1]; exact hm2
            have hm4 : (m : Int) < (l.length : Int) := by omega
            have hm5 : (0 : Int) ≤ (m : Int) := by omega
            clear hm
            have HV := Aside0.mk hval
            clear hst hval hk
            go_wp2
            have hX : MayX w right high (some ad0) l.length c wr.heap.size x (ad0.add (m * 5)) pk (wr.alloc (.cells #[.string x.f0, .bool x.f1.f0, .string x.f1.f1, .int .i64 x.f1.f2, .int .i64 x.f1.f3] 35)) := ⟨by simp, by simp, by simp, by simp, by simp, ((below_alloc (Below.refl _ _) _).cell (World.block_lt_of_cell? wr _ hpk)).trans hpk, ((below_alloc (Below.refl _ _) _).cell (World.block_lt_of_cell? wr _ HM.out.1.1)).trans HM.out.1.1, ((below_alloc (Below.refl _ _) _).cell (World.block_lt_of_cell? wr _ HM.out.1.2.1)).trans HM.out.1.2.1, ((below_alloc (Below.refl _ _) _).cell (World.block_lt_of_cell? wr _ HM.out.1.2.2)).trans HM.out.1.2.2, below_alloc HM.out.2 _⟩
            clear hpk HM g0 g1 g2 g3 g4
            refine wp_region_class (MayX w right high (some ad0) l.length c wr.heap.size x (ad0.add (m * 5)) pk) (by kernel_rfl) (by kernel_rfl) hX.drew ?_
            repeat (first | go_big_quiet_skip | (go_big_quiet_want; go_big_quiet_op; first | go_big_quiet_on | (apply Exists.intro; refine ⟨fun W hW => ?_, ?_⟩; (first | (with_reducible exact rfl) | (go_at_call 38; ((with_reducible refine (leaf_value.calls x.f1.f0 x.f1.f1 x.f1.f2 x.f1.f3 p true _ HV.out).mono ?_); rintro e w5 ⟨rfl, hb5⟩; exact ⟨rfl, hW.step hb5⟩)) | (obtain ⟨y0, y1, y2, y3, y4, y5, y6, y7, y8, yB⟩ := hW; clear yB; go_simp; with_reducible rfl)); go_big_quiet_on)))
            refine wpQuiet_nil ?_
            intro W hW
            clear hX
            go_wp2
            go_ret
            exact ⟨by rw [← HI.out]; rfl, hW.2.2.2.2.2.2.2.2.2⟩
        · have hB : valMay x.f1 p = false := by simpa using hB
          rw [hB] at hst hval
          have HI := Aside0.mk (show false = r by simpa using hst)
          have HV := Aside0.mk hval
          replace hpk := g0
          clear hst hval hB
          obtain ⟨pk2, hpk2⟩ : ∃ pk2, x.f0 = pk2 := ⟨_, rfl⟩
          rw [hpk2] at hpk
          clear hpk2
          go_wp2
          have hX : MayX w right high (some ad0) l.length c wr.heap.size x (ad0.add (k * 5)) pk2 (wr.alloc (.cells #[.string x.f0, .bool x.f1.f0, .string x.f1.f1, .int .i64 x.f1.f2, .int .i64 x.f1.f3] 35)) := ⟨by simp, by simp, by simp, by simp, by simp, ((below_alloc (Below.refl _ _) _).cell (World.block_lt_of_cell? wr _ hpk)).trans hpk, ((below_alloc (Below.refl _ _) _).cell (World.block_lt_of_cell? wr _ HM.out.1.1)).trans HM.out.1.1, ((below_alloc (Below.refl _ _) _).cell (World.block_lt_of_cell? wr _ HM.out.1.2.1)).trans HM.out.1.2.1, ((below_alloc (Below.refl _ _) _).cell (World.block_lt_of_cell? wr _ HM.out.1.2.2)).trans HM.out.1.2.2, below_alloc HM.out.2 _⟩
          clear hpk HM g0 g1 g2 g3 g4
          refine wp_region_class (MayX w right high (some ad0) l.length c wr.heap.size x (ad0.add (k * 5)) pk2) (by kernel_rfl) (by kernel_rfl) hX.drew ?_
          repeat (first | go_big_quiet_skip | (go_big_quiet_want; go_big_quiet_op; first | go_big_quiet_on | (apply Exists.intro; refine ⟨fun W hW => ?_, ?_⟩; (first | (with_reducible exact rfl) | (go_at_call 38; ((with_reducible refine (leaf_value.calls x.f1.f0 x.f1.f1 x.f1.f2 x.f1.f3 p false _ HV.out).mono ?_); rintro e w5 ⟨rfl, hb5⟩; exact ⟨rfl, hW.step hb5⟩)) | (obtain ⟨y0, y1, y2, y3, y4, y5, y6, y7, y8, yB⟩ := hW; clear yB; go_simp; with_reducible rfl)); go_big_quiet_on)))
          refine wpQuiet_nil ?_
          intro W hW
          clear hX
          go_wp2
          go_ret
          exact ⟨by rw [← HI.out]; rfl, hW.2.2.2.2.2.2.2.2.2⟩
      · have c1 : decide (p / 8 < (x.f0.size : Int)) = true := decide_eq_true (by omega)
        rw [decide_eq_false hA] at hst
        have HI := Aside0.mk (show false = r by simpa using hst)
        have HV := Aside0.mk hval
        replace hpk := g0
        clear hst hval hA
        obtain ⟨pk2, hpk2⟩ : ∃ pk2, x.f0 = pk2 := ⟨_, rfl⟩
        rw [hpk2] at hpk
        clear hpk2
        go_wp2
        have hX : MayX w right high (some ad0) l.length c wr.heap.size x (ad0.add (k * 5)) pk2 (wr.alloc (.cells #[.string x.f0, .bool x.f1.f0, .string x.f1.f1, .int .i64 x.f1.f2, .int .i64 x.f1.f3] 35)) := ⟨by simp, by simp, by simp, by simp, by simp, ((below_alloc (Below.refl _ _) _).cell (World.block_lt_of_cell? wr _ hpk)).trans hpk, ((below_alloc (Below.refl _ _) _).cell (World.block_lt_of_cell? wr _ HM.out.1.1)).trans HM.out.1.1, ((below_alloc (Below.refl _ _) _).cell (World.block_lt_of_cell? wr _ HM.out.1.2.1)).trans HM.out.1.2.1, ((below_alloc (Below.refl _ _) _).cell (World.block_lt_of_cell? wr _ HM.out.1.2.2)).trans HM.out.1.2.2, below_alloc HM.out.2 _⟩
        clear hpk HM g0 g1 g2 g3 g4
        refine wp_region_class (MayX w right high (some ad0) l.length c wr.heap.size x (ad0.add (k * 5)) pk2) (by kernel_rfl) (by kernel_rfl) hX.drew ?_
        repeat (first | go_big_quiet_skip | (go_big_quiet_want; go_big_quiet_op; first | go_big_quiet_on | (apply Exists.intro; refine ⟨fun W hW => ?_, ?_⟩; (first | (with_reducible exact rfl) | (go_at_call 38; ((with_reducible refine (leaf_value.calls x.f1.f0 x.f1.f1 x.f1.f2 x.f1.f3 p true _ HV.out).mono ?_); rintro e w5 ⟨rfl, hb5⟩; exact ⟨rfl, hW.step hb5⟩)) | (obtain ⟨y0, y1, y2, y3, y4, y5, y6, y7, y8, yB⟩ := hW; clear yB; go_simp; with_reducible rfl)); go_big_quiet_on)))
        refine wpQuiet_nil ?_
        intro W hW
        clear hX
        go_wp2
        go_ret
        exact ⟨by rw [← HI.out]; rfl, hW.2.2.2.2.2.2.2.2.2⟩
    · have hk : k = l.length := by omega
      have HE := Aside0.mk (show true = r by have := HI.out; rw [hk, Nat.sub_self] at this; exact this)
      have hlt : decide ((k : Int) < (l.length : Int)) = false := decide_eq_false (by omega)
      clear hk h0
      go_wp2
      go_ret
      exact ⟨by rw [← HE.out]; rfl, HM.out.2⟩
set_option maxRecDepth 100000 in
set_option maxHeartbeats 4000000 in
theorem May_loop0 (self right : Int) (high : ByteArray) (p : Int) (A : Option Addr) (c : Nat) (l : List S35) (w : World) (h1 : sizeOk p = true) (h2 : numOk self = true) (h3 : right = 0) (h5 : ¬ right = self) (h6 : high.toList = []) (h7 : (high.size : Int) ≤ p / 8) (r : Bool) (hr : itemsFrom right high p l l.length 0 = r) (hrow : Kd.C k35 w A l.length l) (hc : l.length ≤ c) (hln : l.length ≤ 1000000) :
    Calls Try.prog 27 #[.agg #[.int .i64 self, .int .i64 right, .string high, .slice A l.length c], .int .i64 p] w fun e w' => e = .returned (.bool r) ∧ Below w.heap.size w w' := by
  have HS := Aside0.mk (show disk_Size.f p = some true by unfold disk_Size.f; exact congrArg some h1)
  have hpb := sizeOk_bounds h1
  have hp0 := hpb.1
  have hp1 := hpb.2
  have HN := Aside0.mk (show leaf_number.f self = some true by rw [number_ok, h2])
  have q1 : (right != 0) = false := by simpa using h3
  have q2 : (right == 0) = true := by simpa using h3
  have q3 : (right == self) = false := by simpa using h5
  have q4 : high.toList.isEmpty = true := by simpa using h6
  have q5 : (high.toList == []) = true := by simpa using h6
  have q6 : decide (p / 8 < (high.size : Int)) = false := decide_eq_false (by omega)
  have HI := Aside0.mk hr
  have HL := Aside0.mk hrow
  clear h1 h2 h3 h5 h6 h7 hr hrow hc
  go_enter Try.func27, Try.ntmps27
  go_wp2_with (first | (go_at_call 25; refine (disk_Size.calls p true _ HS.out).mono ?_; rintro e w1 ⟨rfl, hb1⟩; have HB := Aside0.mk (below_step (below_alloc (Below.refl _ _) _) hb1); have hS := (MayS.start w self right high A l.length c _ rfl).step hb1; obtain ⟨hc1, hz1⟩ : (∀ j, w1.cell? ⟨w.heap.size, j, none⟩ = (w.alloc (.cells #[.int .i64 self, .int .i64 right, .string high, .slice A l.length c] 46)).cell? ⟨w.heap.size, j, none⟩) ∧ w.heap.size < w1.heap.size := ⟨fun j => hb1.cell (by simp), by have := hb1.size; simp at this; omega⟩; clear hb1) | (go_at_call 37; ((with_reducible refine (leaf_number.calls self true _ HN.out).mono ?_); rintro e w2 ⟨rfl, ⟨nd, rfl⟩⟩)))
  go_loopw [54] (fun i wr => ∃ k : Nat, k ≤ l.length ∧ i = .int .i64 k ∧ Aside0 (itemsFrom right high p l (l.length - k) k = r) ∧ Aside0 (MayS w right high A l.length c wr)) (fun i _ => l.length - (intOf i).toNat)
  case atStart => exact ⟨0, by omega, rfl, HI, ⟨by first | exact hS | exact hS.step (pw_below_drewN (Below.refl _ _) _)⟩⟩
  case round =>
    clear HB hS hc1 hz1 HI
    obtain ⟨k, h0, rfl, HI, HM⟩ := hrel
    by_cases hx : k < l.length
    · obtain ⟨ad0, e0, g0, g1, g2, g3, g4⟩ := at_T35 HL.out (k : Int) (by omega) (by omega)
      cases e0
      have hst := (itemsFrom_step hx).symm.trans HI.out
      unfold itemAt at hst
      have hval := value_ok (rd_T35 l (k : Int)).f1 p (by have := hpb; omega)
      obtain ⟨pk, hpk0, hpk⟩ : ∃ pk, (rd_T35 l ((k : Int) - 1)).f0 = pk ∧ (∀ m : Nat, k = m + 1 → wr.cell? (ad0.add (m * 5)) = some (.string pk)) := by
        refine ⟨_, rfl, ?_⟩
        rintro m rfl
        obtain ⟨ad1, e1, p0, _⟩ := at_T35 HL.out (m : Int) (by omega) (by omega)
        cases e1
        rw [show ((m + 1 : Nat) : Int) - 1 = (m : Int) by omega]
        rw [Int.toNat_natCast] at p0
        exact (HM.out.2.cell (World.block_lt_of_cell? w _ p0)).trans p0
      rw [hpk0] at hst
      have eK : (k : Int).toNat = k := Int.toNat_natCast k
      rw [eK] at g0 g1 g2 g3 g4
      replace g0 := (HM.out.2.cell (World.block_lt_of_cell? w _ g0)).trans g0
      replace g1 := (HM.out.2.cell (World.block_lt_of_cell? w _ g1)).trans g1
      replace g2 := (HM.out.2.cell (World.block_lt_of_cell? w _ g2)).trans g2
      replace g3 := (HM.out.2.cell (World.block_lt_of_cell? w _ g3)).trans g3
      replace g4 := (HM.out.2.cell (World.block_lt_of_cell? w _ g4)).trans g4
      clear eK hpk0
      generalize rd_T35 l (k : Int) = x at g0 g1 g2 g3 g4 hst hval
      have hq8 : IntKind.i64.wrap (p.tdiv 8) = p / 8 := by rw [Int.tdiv_eq_ediv_of_nonneg (by omega)]; exact IntWalk.i64_in _ (by omega)
      by_cases hA : (x.f0.size : Int) ≤ p / 8
      · have c1 : decide (p / 8 < (x.f0.size : Int)) = false := decide_eq_false (by omega)
        rw [decide_eq_true hA] at hst
        clear hA
        by_cases hB : valMay x.f1 p = true
        · rw [hB] at hst hval
          clear hB
          by_cases hC : k = 0 ∨ Op.bytesLess pk.toList x.f0.toList = true
          · by_cases hk : k = 0
            · have hC2 : (decide (k = 0) || Op.bytesLess pk.toList x.f0.toList) = true := by simpa using hC
              rw [hC2] at hst
              clear hC2
              clear hC
              have hk0 : decide (0 < (k : Int)) = false := decide_eq_false (by omega)
              have hk1 : decide (0 < k) = false := decide_eq_false (by omega)
              have hpk := g0
              obtain ⟨pk2, hpk2⟩ : ∃ pk2, x.f0 = pk2 := ⟨_, rfl⟩
              rw [hpk2] at hpk
              clear hpk2
              have HI := Aside0.mk (show itemsFrom right high p l (l.length - (k + 1)) (k + 1) = r by rw [q2] at hst; simpa using hst)
              have HV := Aside0.mk hval
              clear hst hval hk
              go_wp2
              have hX : MayX w right high (some ad0) l.length c wr.heap.size x (ad0.add (k * 5)) pk2 (wr.alloc (.cells #[.string x.f0, .bool x.f1.f0, .string x.f1.f1, .int .i64 x.f1.f2, .int .i64 x.f1.f3] 35)) := ⟨by simp, by simp, by simp, by simp, by simp, ((below_alloc (Below.refl _ _) _).cell (World.block_lt_of_cell? wr _ hpk)).trans hpk, ((below_alloc (Below.refl _ _) _).cell (World.block_lt_of_cell? wr _ HM.out.1.1)).trans HM.out.1.1, ((below_alloc (Below.refl _ _) _).cell (World.block_lt_of_cell? wr _ HM.out.1.2.1)).trans HM.out.1.2.1, ((below_alloc (Below.refl _ _) _).cell (World.block_lt_of_cell? wr _ HM.out.1.2.2)).trans HM.out.1.2.2, below_alloc HM.out.2 _⟩
              clear hpk HM g0 g1 g2 g3 g4
              refine wp_region_class (MayX w right high (some ad0) l.length c wr.heap.size x (ad0.add (k * 5)) pk2) (by kernel_rfl) (by kernel_rfl) hX.drew ?_
              repeat (first | go_big_quiet_skip | (go_big_quiet_want; go_big_quiet_op; first | go_big_quiet_on | (apply Exists.intro; refine ⟨fun W hW => ?_, ?_⟩; (first | (with_reducible exact rfl) | (go_at_call 38; ((with_reducible refine (leaf_value.calls x.f1.f0 x.f1.f1 x.f1.f2 x.f1.f3 p true _ HV.out).mono ?_); rintro e w5 ⟨rfl, hb5⟩; exact ⟨rfl, hW.step hb5⟩)) | (obtain ⟨y0, y1, y2, y3, y4, y5, y6, y7, y8, yB⟩ := hW; clear yB; go_simp; with_reducible rfl)); go_big_quiet_on)))
              refine wpQuiet_nil ?_
              intro W hW
              clear hX
              go_wp2
              go_roundw
              case rel => exact ⟨k + 1, by omega, by go_num, HI, ⟨hW.mayS⟩⟩
              case measure => simp [intOf]; omega
            · have hC2 : (decide (k = 0) || Op.bytesLess pk.toList x.f0.toList) = true := by simpa using hC
              rw [hC2] at hst
              clear hC2
              have q7 : Op.bytesLess pk.toList x.f0.toList = true := hC.resolve_left hk
              clear hC
              obtain ⟨m, hm⟩ : ∃ m : Nat, k = m + 1 := ⟨k - 1, by omega⟩
              have hk0 : decide (0 < (k : Int)) = true := decide_eq_true (by omega)
              have hk1 : decide (0 < k) = true := decide_eq_true (by omega)
              replace hpk := hpk m hm
              have hm1 : (k : Int) - 1 = (m : Int) := by omega
              have hm2 : IntKind.i64.wrap (m : Int) = (m : Int) := IntWalk.i64_in _ (by omega)
              have hm3 : IntKind.i64.wrap ((k : Int) - 1) = (m : Int) := by rw [hm1]; exact hm2
              have hm4 : (m : Int) < (l.length : Int) := by omega
              have hm5 : (0 : Int) ≤ (m : Int) := by omega
              clear hm
              have HI := Aside0.mk (show itemsFrom right high p l (l.length - (k + 1)) (k + 1) = r by rw [q2] at hst; simpa using hst)
              have HV := Aside0.mk hval
              clear hst hval hk
              go_wp2
              have hX : MayX w right high (some ad0) l.length c wr.heap.size x (ad0.add (m * 5)) pk (wr.alloc (.cells #[.string x.f0, .bool x.f1.f0, .string x.f1.f1, .int .i64 x.f1.f2, .int .i64 x.f1.f3] 35)) := ⟨by simp, by simp, by simp, by simp, by simp, ((below_alloc (Below.refl _ _) _).cell (World.block_lt_of_cell? wr _ hpk)).trans hpk, ((below_alloc (Below.refl _ _) _).cell (World.block_lt_of_cell? wr _ HM.out.1.1)).trans HM.out.1.1, ((below_alloc (Below.refl _ _) _).cell (World.block_lt_of_cell? wr _ HM.out.1.2.1)).trans HM.out.1.2.1, ((below_alloc (Below.refl _ _) _).cell (World.block_lt_of_cell? wr _ HM.out.1.2.2)).trans HM.out.1.2.2, below_alloc HM.out.2 _⟩
              clear hpk HM g0 g1 g2 g3 g4
              refine wp_region_class (MayX w right high (some ad0) l.length c wr.heap.size x (ad0.add (m * 5)) pk) (by kernel_rfl) (by kernel_rfl) hX.drew ?_
              repeat (first | go_big_quiet_skip | (go_big_quiet_want; go_big_quiet_op; first | go_big_quiet_on | (apply Exists.intro; refine ⟨fun W hW => ?_, ?_⟩; (first | (with_reducible exact rfl) | (go_at_call 38; ((with_reducible refine (leaf_value.calls x.f1.f0 x.f1.f1 x.f1.f2 x.f1.f3 p true _ HV.out).mono ?_); rintro e w5 ⟨rfl, hb5⟩; exact ⟨rfl, hW.step hb5⟩)) | (obtain ⟨y0, y1, y2, y3, y4, y5, y6, y7, y8, yB⟩ := hW; clear yB; go_simp; with_reducible rfl)); go_big_quiet_on)))
              refine wpQuiet_nil ?_
              intro W hW
              clear hX
              go_wp2
              go_roundw
              case rel => exact ⟨k + 1, by omega, by go_num, HI, ⟨hW.mayS⟩⟩
              case measure => simp [intOf]; omega
          · have hk : ¬ k = 0 := fun h => hC (.inl h)
            have q7 : Op.bytesLess pk.toList x.f0.toList = false := by simpa using fun h => hC (.inr h)
            have HI := Aside0.mk (show false = r by simpa [hk, q7] using hst)
            clear hC
            obtain ⟨m, hm⟩ : ∃ m : Nat, k = m + 1 := ⟨k - 1, by omega⟩
            have hk0 : decide (0 < (k : Int)) = true := decide_eq_true (by omega)
            have hk1 : decide (0 < k) = true := decide_eq_true (by omega)
            replace hpk := hpk m hm
            have hm1 : (k : Int) - 1 = (m : Int) := by omega
            have hm2 : IntKind.i64.wrap (m : Int) = (m : Int) := IntWalk.i64_in _ (by omega)
            have hm3 : IntKind.i64.wrap ((k : Int) - 1) = (m : Int) := by rw [hm1]; exact hm2
            have hm4 : (m : Int) < (l.length : Int) := by omega
            have hm5 : (0 : Int) ≤ (m : Int) := by omega
            clear hm
            have HV := Aside0.mk hval
            clear hst hval hk
            go_wp2
            have hX : MayX w right high (some ad0) l.length c wr.heap.size x (ad0.add (m * 5)) pk (wr.alloc (.cells #[.string x.f0, .bool x.f1.f0, .string x.f1.f1, .int .i64 x.f1.f2, .int .i64 x.f1.f3] 35)) := ⟨by simp, by simp, by simp, by simp, by simp, ((below_alloc (Below.refl _ _) _).cell (World.block_lt_of_cell? wr _ hpk)).trans hpk, ((below_alloc (Below.refl _ _) _).cell (World.block_lt_of_cell? wr _ HM.out.1.1)).trans HM.out.1.1, ((below_alloc (Below.refl _ _) _).cell (World.block_lt_of_cell? wr _ HM.out.1.2.1)).trans HM.out.1.2.1, ((below_alloc (Below.refl _ _) _).cell (World.block_lt_of_cell? wr _ HM.out.1.2.2)).trans HM.out.1.2.2, below_alloc HM.out.2 _⟩
            clear hpk HM g0 g1 g2 g3 g4
            refine wp_region_class (MayX w right high (some ad0) l.length c wr.heap.size x (ad0.add (m * 5)) pk) (by kernel_rfl) (by kernel_rfl) hX.drew ?_
            repeat (first | go_big_quiet_skip | (go_big_quiet_want; go_big_quiet_op; first | go_big_quiet_on | (apply Exists.intro; refine ⟨fun W hW => ?_, ?_⟩; (first | (with_reducible exact rfl) | (go_at_call 38; ((with_reducible refine (leaf_value.calls x.f1.f0 x.f1.f1 x.f1.f2 x.f1.f3 p true _ HV.out).mono ?_); rintro e w5 ⟨rfl, hb5⟩; exact ⟨rfl, hW.step hb5⟩)) | (obtain ⟨y0, y1, y2, y3, y4, y5, y6, y7, y8, yB⟩ := hW; clear yB; go_simp; with_reducible rfl)); go_big_quiet_on)))
            refine wpQuiet_nil ?_
            intro W hW
            clear hX
            go_wp2
            go_ret
            exact ⟨by rw [← HI.out]; rfl, hW.2.2.2.2.2.2.2.2.2⟩
        · have hB : valMay x.f1 p = false := by simpa using hB
          rw [hB] at hst hval
          have HI := Aside0.mk (show false = r by simpa using hst)
          have HV := Aside0.mk hval
          replace hpk := g0
          clear hst hval hB
          obtain ⟨pk2, hpk2⟩ : ∃ pk2, x.f0 = pk2 := ⟨_, rfl⟩
          rw [hpk2] at hpk
          clear hpk2
          go_wp2
          have hX : MayX w right high (some ad0) l.length c wr.heap.size x (ad0.add (k * 5)) pk2 (wr.alloc (.cells #[.string x.f0, .bool x.f1.f0, .string x.f1.f1, .int .i64 x.f1.f2, .int .i64 x.f1.f3] 35)) := ⟨by simp, by simp, by simp, by simp, by simp, ((below_alloc (Below.refl _ _) _).cell (World.block_lt_of_cell? wr _ hpk)).trans hpk, ((below_alloc (Below.refl _ _) _).cell (World.block_lt_of_cell? wr _ HM.out.1.1)).trans HM.out.1.1, ((below_alloc (Below.refl _ _) _).cell (World.block_lt_of_cell? wr _ HM.out.1.2.1)).trans HM.out.1.2.1, ((below_alloc (Below.refl _ _) _).cell (World.block_lt_of_cell? wr _ HM.out.1.2.2)).trans HM.out.1.2.2, below_alloc HM.out.2 _⟩
          clear hpk HM g0 g1 g2 g3 g4
          refine wp_region_class (MayX w right high (some ad0) l.length c wr.heap.size x (ad0.add (k * 5)) pk2) (by kernel_rfl) (by kernel_rfl) hX.drew ?_
          repeat (first | go_big_quiet_skip | (go_big_quiet_want; go_big_quiet_op; first | go_big_quiet_on | (apply Exists.intro; refine ⟨fun W hW => ?_, ?_⟩; (first | (with_reducible exact rfl) | (go_at_call 38; ((with_reducible refine (leaf_value.calls x.f1.f0 x.f1.f1 x.f1.f2 x.f1.f3 p false _ HV.out).mono ?_); rintro e w5 ⟨rfl, hb5⟩; exact ⟨rfl, hW.step hb5⟩)) | (obtain ⟨y0, y1, y2, y3, y4, y5, y6, y7, y8, yB⟩ := hW; clear yB; go_simp; with_reducible rfl)); go_big_quiet_on)))
          refine wpQuiet_nil ?_
          intro W hW
          clear hX
          go_wp2
          go_ret
          exact ⟨by rw [← HI.out]; rfl, hW.2.2.2.2.2.2.2.2.2⟩
      · have c1 : decide (p / 8 < (x.f0.size : Int)) = true := decide_eq_true (by omega)
        rw [decide_eq_false hA] at hst
        have HI := Aside0.mk (show false = r by simpa using hst)
        have HV := Aside0.mk hval
        replace hpk := g0
        clear hst hval hA
        obtain ⟨pk2, hpk2⟩ : ∃ pk2, x.f0 = pk2 := ⟨_, rfl⟩
        rw [hpk2] at hpk
        clear hpk2
        go_wp2
        have hX : MayX w right high (some ad0) l.length c wr.heap.size x (ad0.add (k * 5)) pk2 (wr.alloc (.cells #[.string x.f0, .bool x.f1.f0, .string x.f1.f1, .int .i64 x.f1.f2, .int .i64 x.f1.f3] 35)) := ⟨by simp, by simp, by simp, by simp, by simp, ((below_alloc (Below.refl _ _) _).cell (World.block_lt_of_cell? wr _ hpk)).trans hpk, ((below_alloc (Below.refl _ _) _).cell (World.block_lt_of_cell? wr _ HM.out.1.1)).trans HM.out.1.1, ((below_alloc (Below.refl _ _) _).cell (World.block_lt_of_cell? wr _ HM.out.1.2.1)).trans HM.out.1.2.1, ((below_alloc (Below.refl _ _) _).cell (World.block_lt_of_cell? wr _ HM.out.1.2.2)).trans HM.out.1.2.2, below_alloc HM.out.2 _⟩
        clear hpk HM g0 g1 g2 g3 g4
        refine wp_region_class (MayX w right high (some ad0) l.length c wr.heap.size x (ad0.add (k * 5)) pk2) (by kernel_rfl) (by kernel_rfl) hX.drew ?_
        repeat (first | go_big_quiet_skip | (go_big_quiet_want; go_big_quiet_op; first | go_big_quiet_on | (apply Exists.intro; refine ⟨fun W hW => ?_, ?_⟩; (first | (with_reducible exact rfl) | (go_at_call 38; ((with_reducible refine (leaf_value.calls x.f1.f0 x.f1.f1 x.f1.f2 x.f1.f3 p true _ HV.out).mono ?_); rintro e w5 ⟨rfl, hb5⟩; exact ⟨rfl, hW.step hb5⟩)) | (obtain ⟨y0, y1, y2, y3, y4, y5, y6, y7, y8, yB⟩ := hW; clear yB; go_simp; with_reducible rfl)); go_big_quiet_on)))
        refine wpQuiet_nil ?_
        intro W hW
        clear hX
        go_wp2
        go_ret
        exact ⟨by rw [← HI.out]; rfl, hW.2.2.2.2.2.2.2.2.2⟩
    · have hk : k = l.length := by omega
      have HE := Aside0.mk (show true = r by have := HI.out; rw [hk, Nat.sub_self] at this; exact this)
      have hlt : decide ((k : Int) < (l.length : Int)) = false := decide_eq_false (by omega)
      clear hk h0
      go_wp2
      go_ret
      exact ⟨by rw [← HE.out]; rfl, HM.out.2⟩
theorem mayHead_no {self right : Int} {high : ByteArray} {l : List S35} {p : Int} (h : mayHead self right high p = false) : mayB self right high l p = false := by unfold mayB; rw [h]; rfl
theorem leaf_May.calls (a0_0 : Int) (a0_1 : Int) (a0_2 : ByteArray) (A0_3 : Option Addr) (c0_3 : Nat) (l0_3 : List S35) (a1 : Int) (r : Bool) (w : World) (hr0_3 : Kd.C k35 w A0_3 l0_3.length l0_3) (hc0_3 : l0_3.length ≤ c0_3) (h : leaf_May.f a0_0 a0_1 a0_2 l0_3 a1 = some r) :
    Calls Try.prog 27 #[.agg #[.int .i64 a0_0, .int .i64 a0_1, .string a0_2, .slice A0_3 l0_3.length c0_3], .int .i64 a1] w fun e w' => e = .returned (.bool r) ∧ Below w.heap.size w w' := by
  unfold leaf_May.f at h
  by_cases hn : l0_3.length ≤ 1000000
  · rw [if_pos hn] at h
    obtain rfl := Option.some.inj h
    clear h
    have no : mayHead a0_0 a0_1 a0_2 a1 = false → mayB a0_0 a0_1 a0_2 l0_3 a1 = false := mayHead_no
    have yes : mayHead a0_0 a0_1 a0_2 a1 = true → itemsFrom a0_1 a0_2 a1 l0_3 l0_3.length 0 = mayB a0_0 a0_1 a0_2 l0_3 a1 := by intro h; unfold mayB; rw [h]; rfl
    cases h1 : sizeOk a1 with
    | false => rw [no (by unfold mayHead; rw [h1]; rfl)]; exact May_no1 a0_0 a0_1 a0_2 a1 A0_3 c0_3 l0_3 w h1
    | true =>
      cases h2 : numOk a0_0 with
      | false => rw [no (by unfold mayHead; rw [h1, h2]; rfl)]; exact May_no2 a0_0 a0_1 a0_2 a1 A0_3 c0_3 l0_3 w h1 h2
      | true =>
        by_cases h3 : a0_1 = 0
        · have e3 : (a0_1 == 0) = true := by simpa using h3
          by_cases h5 : a0_1 = a0_0
          · rw [no (by unfold mayHead; rw [h1, h2, e3, show (a0_1 == a0_0) = true by simpa using h5]; rfl)]; exact May_no40 a0_0 a0_1 a0_2 a1 A0_3 c0_3 l0_3 w h1 h2 h3 h5
          · have e5 : (a0_1 == a0_0) = false := by simpa using h5
            by_cases h6 : a0_2.toList = []
            · have e6 : a0_2.toList.isEmpty = true := by simpa using h6
              by_cases h7 : (a0_2.size : Int) ≤ a1 / 8
              · exact May_loop0 a0_0 a0_1 a0_2 a1 A0_3 c0_3 l0_3 w h1 h2 h3 h5 h6 h7 _ (yes (by unfold mayHead; rw [h1, h2, e3, e5, e6, decide_eq_true h7]; rfl)) hr0_3 hc0_3 hn
              · rw [no (by unfold mayHead; rw [h1, h2, e3, e5, e6, decide_eq_false h7]; rfl)]; exact May_no60 a0_0 a0_1 a0_2 a1 A0_3 c0_3 l0_3 w h1 h2 h3 h5 h6 (by omega)
            · have e6 : a0_2.toList.isEmpty = false := by simpa using h6
              rw [no (by unfold mayHead; rw [h1, h2, e3, e5, e6]; rfl)]; exact May_no50 a0_0 a0_1 a0_2 a1 A0_3 c0_3 l0_3 w h1 h2 h3 h5 h6
        · have e3 : (a0_1 == 0) = false := by simpa using h3
          cases h4 : numOk a0_1 with
          | false => rw [no (by unfold mayHead; rw [h1, h2, e3, h4]; rfl)]; exact May_no3 a0_0 a0_1 a0_2 a1 A0_3 c0_3 l0_3 w h1 h2 h3 h4
          | true =>
            by_cases h5 : a0_1 = a0_0
            · rw [no (by unfold mayHead; rw [h1, h2, e3, h4, show (a0_1 == a0_0) = true by simpa using h5]; rfl)]; exact May_no41 a0_0 a0_1 a0_2 a1 A0_3 c0_3 l0_3 w h1 h2 h3 h4 h5
            · have e5 : (a0_1 == a0_0) = false := by simpa using h5
              by_cases h6 : a0_2.toList = []
              · have e6 : a0_2.toList.isEmpty = true := by simpa using h6
                rw [no (by unfold mayHead; rw [h1, h2, e3, h4, e5, e6]; rfl)]; exact May_no51 a0_0 a0_1 a0_2 a1 A0_3 c0_3 l0_3 w h1 h2 h3 h4 h5 h6
              · have e6 : a0_2.toList.isEmpty = false := by simpa using h6
                by_cases h7 : (a0_2.size : Int) ≤ a1 / 8
                · exact May_loop1 a0_0 a0_1 a0_2 a1 A0_3 c0_3 l0_3 w h1 h2 h3 h4 h5 h6 h7 _ (yes (by unfold mayHead; rw [h1, h2, e3, h4, e5, e6, decide_eq_true h7]; rfl)) hr0_3 hc0_3 hn
                · rw [no (by unfold mayHead; rw [h1, h2, e3, h4, e5, e6, decide_eq_false h7]; rfl)]; exact May_no61 a0_0 a0_1 a0_2 a1 A0_3 c0_3 l0_3 w h1 h2 h3 h4 h5 h6 (by omega)
  · rw [if_neg hn] at h
    cases h


end Go.Proofs.Ytmheajenlhlbhaa.X


namespace Go.Proofs.Ytmheajenlhlbhaa.X
open Go.RowKit Go.Proofs.YtmheajenlhlbhaaW.PrintWords Go.Proofs.YtmheajenlhlbhaaW.PrintLast Go.Proofs.YtmheajenlhlbhaaW.PrintMore
attribute [local go_sem] max2_int min2_int max_two min_two max_three min_three max_four min_four   -- for this text's walks alone
set_option linter.unusedVariables false
set_option linter.unusedSimpArgs false

/-! ### slot_place: function 44 -/
def slot_place.f (a0 : Int) : Option (ByteArray) := some (strOfNums (([(a0) % 256, (a0 / 256) % 256] : List Int)))
set_option maxHeartbeats 8000000 in
set_option maxRecDepth 100000 in
theorem slot_place.calls (a0 : Int) (r : ByteArray) (w : World) (h : slot_place.f a0 = some r) :
    Calls Try.prog 44 #[.int .i64 a0] w fun e w' => e = .returned (.string r) ∧ Below w.heap.size w w' := by
  have HB := Aside0.mk (Below.refl w.heap.size w)
  have H : (some (strOfNums (([(a0) % 256, (a0 / 256) % 256] : List Int)))) = some r := h
  clear h
  obtain ⟨y323, hy323⟩ : ∃ y_ : List Int, y_ = (([(a0) % 256, (a0 / 256) % 256] : List Int)) := ⟨_, rfl⟩
  replace H : (some (strOfNums y323)) = some r := by first | (rw [hy323]; with_reducible exact H) | (have H2_ := (Option.bind_some _ _).symm.trans H; rw [hy323]; with_reducible exact H2_) | (have H2_ := (Option.bind_some _ _).symm.trans H; with_reducible exact H2_) | with_reducible exact H | (rw [hy323]; exact H) | exact H
  have Ny323 := Aside0.mk hy323
  clear hy323
  obtain rfl := Option.some.inj H
  go_enter Try.func44, Try.ntmps44
  go_wp2_with (first | ((with_reducible refine gate_dst (N := 8) rfl ?_); refine Kd.R_lit (Kd.int .u8) _ 5 ?hg (N := 8) ?hd (xs := ([(a0) % 256, (a0 / 256) % 256] : List Int)) (inner := [.int .u8 ((a0) % 256), .int .u8 ((a0 / 256) % 256)]) (ok := fun _ => True) (okp := fun _ => True) ?hr ?hp (fun _ hk => hk) trivial (Below.refl _ _) (Nat.le_refl _) (by simp) ?_; (case hd => rfl); (case hg => rfl); (case hr => first | (go_simp; done) | (go_simp; rfl)); (case hp => exact (Reps.one (show Kd.M (Kd.int .u8) _ _ _ ((a0) % 256) [.int .u8 ((a0) % 256)] from rfl) (Reps.one (show Kd.M (Kd.int .u8) _ _ _ ((a0 / 256) % 256) [.int .u8 ((a0 / 256) % 256)] from rfl) (Reps.none _ _)))); intro v324 w2 ho3 hb hg_ hnew_; clear hg_ hnew_; (first | rw [← Ny323.out] at ho3 | (simp only [Int.reduceToNat] at ho3; rw [← Ny323.out] at ho3)); have n0_ := Aside0.mk (Kd.R_lower ho3 (below_size (by repeat (first | (with_reducible first | exact HB.out | apply below_alloc | apply pw_below_drewN | apply below_drew1) | exact HB.out)))); have n1_ := Aside0.mk (below_step (by repeat (first | (with_reducible first | exact HB.out | apply below_alloc | apply pw_below_drewN | apply below_drew1) | exact HB.out)) hb); clear HB; have HO325 := n0_; have HB := n1_; clear n0_ n1_; clear hb ho3; have hcv4 := own_string (P := Try.prog) Try.underlying67 Try.underlying5 Try.underlying9 (Kd.own_of_R HO325.out)))
  go_ret
  exact ⟨by first | rfl | (simp [errW_none, errW_some] <;> rfl) | (simp [*, errW_none, errW_some] <;> rfl), by repeat (first | (with_reducible first | exact HB.out | apply below_alloc | apply pw_below_drewN | apply below_drew1) | exact HB.out)⟩

end Go.Proofs.Ytmheajenlhlbhaa.X


namespace Go.Proofs.Ytmheajenlhlbhaa.X
open Go.RowKit Go.Proofs.YtmheajenlhlbhaaW.PrintWords Go.Proofs.YtmheajenlhlbhaaW.PrintLast Go.Proofs.YtmheajenlhlbhaaW.PrintMore
attribute [local go_sem] max2_int min2_int max_two min_two max_three min_three max_four min_four   -- for this text's walks alone
set_option linter.unusedVariables false
set_option linter.unusedSimpArgs false

--GIVEN-- strings.Repeat
/-! ### strings_Repeat: function 45 -/
def zeroB (n : Nat) : ByteArray := ⟨(Lib.repeatL (⟨#[0]⟩ : ByteArray).data.toList n).toArray⟩
theorem zeroB_size (n : Nat) : (zeroB n).size = n := by
  unfold zeroB
  show (Lib.repeatL _ n).length = n
  induction n with
  | zero => rfl
  | succ n ih => simp [Lib.repeatL] at ih ⊢; omega
def strings_Repeat.f (s : ByteArray) (c : Int) : Option ByteArray :=
  if 0 ≤ c ∧ c ≤ 9223372036854775807 ∧ s.size * c.toNat ≤ 140737488355328 then some ⟨(Lib.repeatL s.data.toList c.toNat).toArray⟩ else none
theorem strings_Repeat.calls (a0 : ByteArray) (a1 : Int) (r : ByteArray) (w : World) (h : strings_Repeat.f a0 a1 = some r) :
    Calls Try.prog 45 #[.string a0, .int .i64 a1] w fun e w' => e = .returned (.string r) ∧ Below w.heap.size w w' := by
  unfold strings_Repeat.f at h
  by_cases hs : 0 ≤ a1 ∧ a1 ≤ 9223372036854775807 ∧ a0.size * a1.toNat ≤ 140737488355328
  · rw [if_pos hs] at h
    obtain rfl := Option.some.inj h
    obtain ⟨n, rfl⟩ := Int.eq_ofNat_of_zero_le hs.1
    rw [Int.toNat_natCast] at hs ⊢
    exact Try.strings_Repeat a0 n w (by omega) hs.2.2
  · rw [if_neg hs] at h
    exact absurd h (by simp)


end Go.Proofs.Ytmheajenlhlbhaa.X


namespace Go.Proofs.Ytmheajenlhlbhaa.X
open Go.RowKit Go.Proofs.YtmheajenlhlbhaaW.PrintWords Go.Proofs.YtmheajenlhlbhaaW.PrintLast Go.Proofs.YtmheajenlhlbhaaW.PrintMore
attribute [local go_sem] max2_int min2_int max_two min_two max_three min_three max_four min_four   -- for this text's walks alone
set_option linter.unusedVariables false
set_option linter.unusedSimpArgs false

/-! ### slot_Pack_raw: function 29 -/
mutual
def slot_Pack_raw.j0 : Nat → Int → ByteArray → List ByteArray → Bool → Option (ByteArray × Int)
  | 0, _, _, _, _ => none
  | k + 1, x0, x1, x2, x17 => if x17 = true then (some ((⟨#[]⟩ : ByteArray), 4)) else ((slot_Size.f x1 x2).bind fun t326 => (if t326 > x0 then (some ((⟨#[]⟩ : ByteArray), 8)) else (slot_Pack_raw.l0 k x0 x1 (⟨#[]⟩ : ByteArray) x2 (x2.length : Int) 0)))
def slot_Pack_raw.l0 : Nat → Int → ByteArray → ByteArray → List ByteArray → Int → Int → Option (ByteArray × Int)
  | 0, _, _, _, _, _, _ => none
  | k + 1, x0, x8, x9, x24, x25, x26 => if x26 < x25 then (if 0 ≤ x26 then (if x26 < (x24.length : Int) then ((slot_place.f (x8.size : Int)).bind fun t328 => (if t328.size + x9.size ≤ 9223372036854775807 then (if x8.size + (rdOf ByteArray.empty x24 x26).size ≤ 9223372036854775807 then (slot_Pack_raw.l0 k x0 (x8 ++ (rdOf ByteArray.empty x24 x26)) (t328 ++ x9) x24 x25 (wrap64 (x26 + 1))) else (none)) else (none))) else (none)) else (none)) else ((slot_place.f (x8.size : Int)).bind fun t329 => (if t329.size + x9.size ≤ 9223372036854775807 then ((strings_Repeat.f (⟨#[0]⟩ : ByteArray) (wrap64 ((wrap64 (x0 - (x8.size : Int))) - ((t329 ++ x9).size : Int)))).bind fun t330 => (if x8.size + t330.size ≤ 9223372036854775807 then (if (x8 ++ t330).size + (t329 ++ x9).size ≤ 9223372036854775807 then (some ((x8 ++ t330) ++ (t329 ++ x9), 0)) else (none)) else (none))) else (none)))
end
def slot_Pack_raw.f (k : Nat) (a0 : Int) (a1 : ByteArray) (l2 : List ByteArray) : Option (ByteArray × Int) := if a0 < 0 then (slot_Pack_raw.j0 k a0 a1 l2 true) else (slot_Pack_raw.j0 k a0 a1 l2 (decide (a0 > 65535)))
set_option maxHeartbeats 8000000 in
set_option maxRecDepth 100000 in
theorem slot_Pack_raw.calls (k : Nat) (a0 : Int) (a1 : ByteArray) (A2 : Option Addr) (c2 : Nat) (l2 : List ByteArray) (r1 : ByteArray) (r2 : Int) (w : World) (hr2 : Kd.C Kd.string w A2 l2.length l2) (hc2 : l2.length ≤ c2) (h : slot_Pack_raw.f k a0 a1 l2 = some (r1, r2)) :
    Calls Try.prog 29 #[.int .i64 a0, .string a1, .slice A2 l2.length c2] w fun e w' => e = .returned (.tuple #[.string r1, .int .i64 r2]) ∧ Below w.heap.size w w' := by
  have HR2 := Aside0.mk hr2
  have HC2 := Aside0.mk hc2
  clear hr2 hc2
  have HB := Aside0.mk (Below.refl w.heap.size w)
  have H : (if a0 < 0 then (slot_Pack_raw.j0 k a0 a1 l2 true) else (slot_Pack_raw.j0 k a0 a1 l2 (decide (a0 > 65535)))) = some (r1, r2) := h
  clear h
  have HC4 := Aside0.mk H
  clear H
  go_enter Try.func29, Try.ntmps29
  go_upto_region 1 with (fail)
  go_cut [17] (fun v17 wc => ∃ (kq : Nat) (x17_3 : Bool), v17 = .bool x17_3 ∧ Aside0 (slot_Pack_raw.j0 kq a0 a1 l2 x17_3 = some (r1, r2)) ∧ Aside0 (kq ≤ k) ∧ Aside0 (Below w.heap.size w wc))
  case first =>
    have H := HC4.out
    clear HC4
    by_cases c5 : a0 < 0
    · rw [if_pos c5] at H
      have c5b0 : decide (a0 < 0) = true := decide_eq_true c5
      clear c5
      (first | rw [c5b0] | (simp only [i64_w, i32_w]; rw [c5b0]) | skip)
      have H' := Aside0.mk H
      clear H
      go_wp2
      go_meet
      case rel => exact ⟨_, (true), (by first | rfl | (simp; done) | (simp [*]; done)), H', ⟨by first | omega | exact Nat.le_refl _⟩, ⟨by repeat (first | (with_reducible first | exact HB.out | apply below_alloc | apply pw_below_drewN | apply below_drew1) | exact HB.out)⟩⟩
    · rw [if_neg c5] at H
      have c5b0 : decide (a0 < 0) = false := decide_eq_false c5
      clear c5
      (first | rw [c5b0] | (simp only [i64_w, i32_w]; rw [c5b0]) | skip)
      have H' := Aside0.mk H
      clear H
      go_wp2
      go_meet
      case rel => exact ⟨_, (decide (a0 > 65535)), (by first | rfl | (simp; done) | (simp [*]; done)), H', ⟨by first | omega | exact Nat.le_refl _⟩, ⟨by repeat (first | (with_reducible first | exact HB.out | apply below_alloc | apply pw_below_drewN | apply below_drew1) | exact HB.out)⟩⟩
  case rest =>
    clear HC4
    try clear c2
    try clear p2
    try clear c5
    try clear c5b0
    obtain ⟨kq, x17_3, rfl, HA, HJ3, HB⟩ := hcut
    cases kq with
    | zero => exact absurd HA.out (by simp [slot_Pack_raw.j0])
    | succ kj3 =>
      have H := HA.out
      clear HA
      simp only [slot_Pack_raw.j0] at H
      by_cases c6 : x17_3 = true
      · subst c6
        have H1 : (some ((⟨#[]⟩ : ByteArray), 4)) = some (r1, r2) := by rw [if_pos rfl] at H; exact H
        clear H
        have H := H1
        clear H1
        simp only [Option.some.injEq, Prod.mk.injEq] at H
        obtain ⟨rfl, rfl⟩ := H
        go_wp2
        go_ret2
        exact ⟨by first | rfl | (simp [errW_none, errW_some] <;> rfl) | (simp [*, errW_none, errW_some] <;> rfl), by repeat (first | (with_reducible first | exact HB.out | apply below_alloc | apply pw_below_drewN | apply below_drew1) | exact HB.out)⟩
      · replace c6 := Bool.eq_false_iff.mpr c6
        subst c6
        have H1 : ((slot_Size.f a1 l2).bind fun t326 => (if t326 > a0 then (some ((⟨#[]⟩ : ByteArray), 8)) else (slot_Pack_raw.l0 kj3 a0 a1 (⟨#[]⟩ : ByteArray) l2 (l2.length : Int) 0))) = some (r1, r2) := by rw [if_neg (show ¬ (false = true) by decide)] at H; exact H
        clear H
        have H := H1
        clear H1
        replace H := Option.bind_eq_some_iff.mp H
        obtain ⟨t326, A70, H⟩ := H
        replace H : (if t326 > a0 then (some ((⟨#[]⟩ : ByteArray), 8)) else (slot_Pack_raw.l0 kj3 a0 a1 (⟨#[]⟩ : ByteArray) l2 (l2.length : Int) 0)) = some (r1, r2) := H
        try simp only [ByteArray.size_append, Int.natCast_add] at A70
        have A7 := Aside0.mk A70
        clear A70
        by_cases c8 : t326 > a0
        · rw [if_pos c8] at H
          have c8b0 : decide (a0 < t326) = true := decide_eq_true c8
          clear c8
          simp only [Option.some.injEq, Prod.mk.injEq] at H
          obtain ⟨rfl, rfl⟩ := H
          go_wp2_with (first | ((with_reducible refine gate_callee (f := 43) rfl ?_); refine goesL_ (some 20) rfl rfl Try.func43 (by kernel_rfl) rfl #[.string a1, .slice A2 l2.length c2] rfl (by (try simp only [List.map_toArray, List.map_cons, List.map_nil]); first | done | rfl | (simp only [List.length_drop, List.length_take]; rfl)) ?_; (with_reducible refine (slot_Size.calls a1 _ _ l2 t326 _ ?side1 ?side2 A7.out).mono ?_); (case side1 => repeat (first | exact (Kd.C_below HR2.out HB.out) | (with_reducible refine Kd.C_alloc ?_ _) | (with_reducible refine Kd.C_drewN ?_ _) | (with_reducible refine Kd.C_drew ?_))); (case side2 => exact HC2.out); rintro e w9 ⟨rfl, hb⟩; refine ⟨_, rfl, ?_⟩; have n0_ := Aside0.mk (below_step (by repeat (first | (with_reducible first | exact HB.out | apply below_alloc | apply pw_below_drewN | apply below_drew1) | exact HB.out)) hb); clear HB; have HB := n0_; clear n0_; (try clear hb); (try clear hb2); (try clear hk); (try clear hi)))
          go_ret2
          exact ⟨by first | rfl | (simp [errW_none, errW_some] <;> rfl) | (simp [*, errW_none, errW_some] <;> rfl), by repeat (first | (with_reducible first | exact HB.out | apply below_alloc | apply pw_below_drewN | apply below_drew1) | exact HB.out)⟩
        · rw [if_neg c8] at H
          have c8b0 : decide (a0 < t326) = false := decide_eq_false c8
          clear c8
          have H' := Aside0.mk H
          clear H
          go_wp2_with (first | ((with_reducible refine gate_callee (f := 43) rfl ?_); refine goesL_ (some 20) rfl rfl Try.func43 (by kernel_rfl) rfl #[.string a1, .slice A2 l2.length c2] rfl (by (try simp only [List.map_toArray, List.map_cons, List.map_nil]); first | done | rfl | (simp only [List.length_drop, List.length_take]; rfl)) ?_; (with_reducible refine (slot_Size.calls a1 _ _ l2 t326 _ ?side1 ?side2 A7.out).mono ?_); (case side1 => repeat (first | exact (Kd.C_below HR2.out HB.out) | (with_reducible refine Kd.C_alloc ?_ _) | (with_reducible refine Kd.C_drewN ?_ _) | (with_reducible refine Kd.C_drew ?_))); (case side2 => exact HC2.out); rintro e w10 ⟨rfl, hb⟩; refine ⟨_, rfl, ?_⟩; have n0_ := Aside0.mk (below_step (by repeat (first | (with_reducible first | exact HB.out | apply below_alloc | apply pw_below_drewN | apply below_drew1) | exact HB.out)) hb); clear HB; have HB := n0_; clear n0_; (try clear hb); (try clear hb2); (try clear hk); (try clear hi)))
          go_loopg [8, 9, 26] kj3 (fun kq v8 v9 v26 w' => ∃ (x8_2 : ByteArray) (x9_2 : ByteArray) (x26_2 : Int), v8 = .string x8_2 ∧ v9 = .string x9_2 ∧ v26 = .int .i64 x26_2 ∧ Aside0 (slot_Pack_raw.l0 kq a0 x8_2 x9_2 l2 (l2.length : Int) x26_2 = some (r1, r2)) ∧ Aside0 (kq ≤ kj3) ∧ Aside0 (Below w.heap.size w w'))
          case atStart => exact ⟨(a1), ((⟨#[]⟩ : ByteArray)), (0), (by first | rfl | (simp; done) | (simp [*]; done)), (by first | rfl | (simp; done) | (simp [*]; done)), (by first | rfl | (simp; done) | (simp [*]; done)), H', ⟨Nat.le_refl _⟩, ⟨by repeat (first | (with_reducible first | exact HB.out | apply below_alloc | apply pw_below_drewN | apply below_drew1) | exact HB.out)⟩⟩
          case round =>
            clear H'
            try clear c2
            try clear p2
            try clear c4
            try clear c5
            try clear c5b0
            try clear c6
            try clear c8
            try clear c8b0
            try clear p2
            obtain ⟨x8_2, x9_2, x26_2, rfl, rfl, rfl, HA, HK2, HB⟩ := hrel
            cases gk with
            | zero => exact absurd HA.out (by simp [slot_Pack_raw.l0])
            | succ k2 =>
              have H := HA.out
              clear HA
              simp only [slot_Pack_raw.l0] at H
              by_cases c11 : x26_2 < (l2.length : Int)
              · rw [if_pos c11] at H
                have c11b0 : decide (x26_2 < (l2.length : Int)) = true := decide_eq_true c11
                clear c11
                by_cases c12 : 0 ≤ x26_2
                · rw [if_pos c12] at H
                  have c12b0 : decide (0 ≤ x26_2) = true := decide_eq_true c12
                  clear c12
                  by_cases c13 : x26_2 < (l2.length : Int)
                  · rw [if_pos c13] at H
                    have c13b0 : decide (x26_2 < (l2.length : Int)) = true := decide_eq_true c13
                    clear c13
                    replace H := Option.bind_eq_some_iff.mp H
                    obtain ⟨t328, A140, H⟩ := H
                    replace H : (if t328.size + x9_2.size ≤ 9223372036854775807 then (if x8_2.size + (rdOf ByteArray.empty l2 x26_2).size ≤ 9223372036854775807 then (slot_Pack_raw.l0 k2 a0 (x8_2 ++ (rdOf ByteArray.empty l2 x26_2)) (t328 ++ x9_2) l2 (l2.length : Int) (wrap64 (x26_2 + 1))) else (none)) else (none)) = some (r1, r2) := H
                    try simp only [ByteArray.size_append, Int.natCast_add] at A140
                    have A14 := Aside0.mk A140
                    clear A140
                    by_cases c15 : t328.size + x9_2.size ≤ 9223372036854775807
                    · rw [if_pos c15] at H
                      have c15b0 := eq_true c15
                      have c15b1 : decide (t328.size + x9_2.size ≤ 9223372036854775807) = true := decide_eq_true c15
                      try have c15b2 : (9223372036854775807 < t328.size + x9_2.size) = False := eq_false (Nat.not_lt.2 c15)
                      by_cases c16 : x8_2.size + (rdOf ByteArray.empty l2 x26_2).size ≤ 9223372036854775807
                      · rw [if_pos c16] at H
                        have c16b0 := eq_true c16
                        have c16b1 : decide (x8_2.size + (rdOf ByteArray.empty l2 x26_2).size ≤ 9223372036854775807) = true := decide_eq_true c16
                        try have c16b2 : (9223372036854775807 < x8_2.size + (rdOf ByteArray.empty l2 x26_2).size) = False := eq_false (Nat.not_lt.2 c16)
                        have H' := Aside0.mk H
                        clear H
                        have p327 : 0 ≤ (x26_2 : Int) := of_decide_eq_true (by first | (with_reducible assumption) | assumption)
                        have q327 : x26_2 < (l2.length : Int) := of_decide_eq_true (by first | (with_reducible assumption) | assumption)
                        obtain ⟨ad327, e327, hx327_0⟩ := Kd.at_string HR2.out x26_2 p327 q327
                        cases e327
                        replace hx327_0 := (HB.out.cell (World.block_lt_of_cell? w _ hx327_0)).trans hx327_0
                        replace p327 := eq_true p327
                        replace q327 := eq_true q327
                        go_wp2_with (first | ((with_reducible refine gate_callee (f := 44) rfl ?_); refine goesL_ (some 32) rfl rfl Try.func44 (by kernel_rfl) rfl #[.int .i64 (x8_2.size : Int)] rfl (by (try simp only [List.map_toArray, List.map_cons, List.map_nil]); first | done | rfl | (simp only [List.length_drop, List.length_take]; rfl)) ?_; (with_reducible refine (slot_place.calls (x8_2.size : Int) t328 _ A14.out).mono ?_); rintro e w17 ⟨rfl, hb⟩; refine ⟨_, rfl, ?_⟩; have n0_ := Aside0.mk (below_step (by repeat (first | (with_reducible first | exact HB.out | apply below_alloc | apply pw_below_drewN | apply below_drew1) | exact HB.out)) hb); clear HB; have HB := n0_; clear n0_; (try clear hb); (try clear hb2); (try clear hk); (try clear hi)))
                        go_roundg k2
                        case measure => have := HJ3.out; have := HK2.out; omega
                        case rel => exact ⟨(x8_2 ++ (rdOf ByteArray.empty l2 x26_2)), (t328 ++ x9_2), (wrap64 (x26_2 + 1)), (by first | rfl | (simp; done) | (simp [*]; done)), (by first | rfl | (simp; done) | (simp [*]; done)), (by first | rfl | (simp; done) | (simp [*]; done)), H', ⟨by have := HJ3.out; have := HK2.out; omega⟩, ⟨by repeat (first | (with_reducible first | exact HB.out | apply below_alloc | apply pw_below_drewN | apply below_drew1) | exact HB.out)⟩⟩
                      · rw [if_neg c16] at H
                        exact absurd H (by simp)
                    · rw [if_neg c15] at H
                      exact absurd H (by simp)
                  · rw [if_neg c13] at H
                    exact absurd H (by simp)
                · rw [if_neg c12] at H
                  exact absurd H (by simp)
              · rw [if_neg c11] at H
                have c11b0 : decide (x26_2 < (l2.length : Int)) = false := decide_eq_false c11
                clear c11
                replace H := Option.bind_eq_some_iff.mp H
                obtain ⟨t329, A180, H⟩ := H
                replace H : (if t329.size + x9_2.size ≤ 9223372036854775807 then ((strings_Repeat.f (⟨#[0]⟩ : ByteArray) (wrap64 ((wrap64 (a0 - (x8_2.size : Int))) - ((t329 ++ x9_2).size : Int)))).bind fun t330 => (if x8_2.size + t330.size ≤ 9223372036854775807 then (if (x8_2 ++ t330).size + (t329 ++ x9_2).size ≤ 9223372036854775807 then (some ((x8_2 ++ t330) ++ (t329 ++ x9_2), 0)) else (none)) else (none))) else (none)) = some (r1, r2) := H
                try simp only [ByteArray.size_append, Int.natCast_add] at A180
                have A18 := Aside0.mk A180
                clear A180
                by_cases c19 : t329.size + x9_2.size ≤ 9223372036854775807
                · rw [if_pos c19] at H
                  have c19b0 := eq_true c19
                  have c19b1 : decide (t329.size + x9_2.size ≤ 9223372036854775807) = true := decide_eq_true c19
                  try have c19b2 : (9223372036854775807 < t329.size + x9_2.size) = False := eq_false (Nat.not_lt.2 c19)
                  replace H := Option.bind_eq_some_iff.mp H
                  obtain ⟨t330, A200, H⟩ := H
                  replace H : (if x8_2.size + t330.size ≤ 9223372036854775807 then (if (x8_2 ++ t330).size + (t329 ++ x9_2).size ≤ 9223372036854775807 then (some ((x8_2 ++ t330) ++ (t329 ++ x9_2), 0)) else (none)) else (none)) = some (r1, r2) := H
                  try simp only [ByteArray.size_append, Int.natCast_add] at A200
                  have A20 := Aside0.mk A200
                  clear A200
                  by_cases c21 : x8_2.size + t330.size ≤ 9223372036854775807
                  · rw [if_pos c21] at H
                    have c21b0 := eq_true c21
                    have c21b1 : decide (x8_2.size + t330.size ≤ 9223372036854775807) = true := decide_eq_true c21
                    try have c21b2 : (9223372036854775807 < x8_2.size + t330.size) = False := eq_false (Nat.not_lt.2 c21)
                    by_cases c22 : (x8_2 ++ t330).size + (t329 ++ x9_2).size ≤ 9223372036854775807
                    · rw [if_pos c22] at H
                      have c22b0 := eq_true c22
                      have c22b1 : decide ((x8_2 ++ t330).size + (t329 ++ x9_2).size ≤ 9223372036854775807) = true := decide_eq_true c22
                      try have c22b2 : (9223372036854775807 < (x8_2 ++ t330).size + (t329 ++ x9_2).size) = False := eq_false (Nat.not_lt.2 c22)
                      try have c22b3 := c22b2; try simp only [ByteArray.size_append, ByteArray.size_extract, Nat.sub_zero] at c22b3
                      simp only [Option.some.injEq, Prod.mk.injEq] at H
                      obtain ⟨rfl, rfl⟩ := H
                      go_wp2_with (first | ((with_reducible refine gate_callee (f := 44) rfl ?_); refine goesL_ (some 41) rfl rfl Try.func44 (by kernel_rfl) rfl #[.int .i64 (x8_2.size : Int)] rfl (by (try simp only [List.map_toArray, List.map_cons, List.map_nil]); first | done | rfl | (simp only [List.length_drop, List.length_take]; rfl)) ?_; (with_reducible refine (slot_place.calls (x8_2.size : Int) t329 _ A18.out).mono ?_); rintro e w23 ⟨rfl, hb⟩; refine ⟨_, rfl, ?_⟩; have n0_ := Aside0.mk (below_step (by repeat (first | (with_reducible first | exact HB.out | apply below_alloc | apply pw_below_drewN | apply below_drew1) | exact HB.out)) hb); clear HB; have HB := n0_; clear n0_; (try clear hb); (try clear hb2); (try clear hk); (try clear hi)) | ((with_reducible refine gate_callee (f := 45) rfl ?_); refine goesL_ (some 52) rfl rfl Try.func45 (by kernel_rfl) rfl #[.string (⟨#[0]⟩ : ByteArray), .int .i64 (wrap64 ((wrap64 (a0 - (x8_2.size : Int))) - ((t329.size : Int) + (x9_2.size : Int))))] rfl (by (try simp only [List.map_toArray, List.map_cons, List.map_nil]); first | done | rfl | (simp only [List.length_drop, List.length_take]; rfl)) ?_; (with_reducible refine (strings_Repeat.calls (⟨#[0]⟩ : ByteArray) (wrap64 ((wrap64 (a0 - (x8_2.size : Int))) - ((t329.size : Int) + (x9_2.size : Int)))) t330 _ A20.out).mono ?_); rintro e w24 ⟨rfl, hb⟩; refine ⟨_, rfl, ?_⟩; have n0_ := Aside0.mk (below_step (by repeat (first | (with_reducible first | exact HB.out | apply below_alloc | apply pw_below_drewN | apply below_drew1) | exact HB.out)) hb); clear HB; have HB := n0_; clear n0_; (try clear hb); (try clear hb2); (try clear hk); (try clear hi)))
                      go_ret2
                      exact ⟨by first | rfl | (simp [errW_none, errW_some] <;> rfl) | (simp [*, errW_none, errW_some] <;> rfl), by repeat (first | (with_reducible first | exact HB.out | apply below_alloc | apply pw_below_drewN | apply below_drew1) | exact HB.out)⟩
                    · rw [if_neg c22] at H
                      exact absurd H (by simp)
                  · rw [if_neg c21] at H
                    exact absurd H (by simp)
                · rw [if_neg c19] at H
                  exact absurd H (by simp)

end Go.Proofs.Ytmheajenlhlbhaa.X

