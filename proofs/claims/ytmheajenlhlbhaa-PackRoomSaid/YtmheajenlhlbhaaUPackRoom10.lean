/- What functions of the given program compute, step by step: the walks that the law PackRoom leans on, part 10. No conditions. -/
import Derived.Test.YtmheajenlhlbhaaUPackRoom01
import Derived.Test.YtmheajenlhlbhaaUPackRoom02
import Derived.Test.YtmheajenlhlbhaaUPackRoom06
import Derived.Test.YtmheajenlhlbhaaUPackRoom09
import Derived.Test.YtmheajenlhlbhaaUPackRoom07
import Derived.Test.YtmheajenlhlbhaaUPackRoom08
import Derived.RangeFuncBox
import Derived.RangeFuncLeaves
import Derived.Deep.WholeRow
import Derived.Laws.Closers25b
import Derived.Test.YtmheajenlhlbhaaUPackRoom04
namespace Go.Proofs.Ytmheajenlhlbhaa.X
open Go.RowKit Go.Proofs.YtmheajenlhlbhaaW.PrintWords Go.Proofs.YtmheajenlhlbhaaW.PrintLast Go.Proofs.YtmheajenlhlbhaaW.PrintMore
attribute [local go_sem] max2_int min2_int max_two min_two max_three min_three max_four min_four   -- for this text's walks alone
set_option linter.unusedVariables false
set_option linter.unusedSimpArgs false

--GIVEN-- withy/slot.Pack
/-! ### slot_Pack: function 29 -/
def placeB (n : Int) : ByteArray := strOfNums [n % 256, n / 256 % 256]
theorem placeB_size (n : Int) : (placeB n).size = 2 := strOfNums_size _
/-- Cells one behind the other, and their places. -/
def packL : List ByteArray → ByteArray → ByteArray → ByteArray × ByteArray
  | [], s, d => (s, placeB s.size ++ d)
  | c :: r, s, d => packL r (s ++ c) (placeB s.size ++ d)
theorem packL_size : ∀ (l : List ByteArray) (s d : ByteArray), (packL l s d).1.size = s.size + sizeSum l ∧ (packL l s d).2.size = d.size + 2 * (l.length + 1)
  | [], s, d => by simp [packL, sizeSum, ByteArray.size_append, placeB_size]; omega
  | c :: r, s, d => by
    have h := packL_size r (s ++ c) (placeB s.size ++ d)
    simp only [packL, ByteArray.size_append, placeB_size, sizeSum, List.map_cons, List.sum_cons, List.length_cons] at h ⊢
    omega
def packBody (room : Int) (fixed : ByteArray) (cells : List ByteArray) : ByteArray :=
  ((packL cells fixed ⟨#[]⟩).1 ++ zeroB (room - ((fixed.size + sizeSum cells + 2 * (cells.length + 1) : Nat) : Int)).toNat) ++ (packL cells fixed ⟨#[]⟩).2
theorem packBody_size (room : Int) (fixed : ByteArray) (cells : List ByteArray) (h : ((fixed.size + sizeSum cells + 2 * (cells.length + 1) : Nat) : Int) ≤ room) : ((packBody room fixed cells).size : Int) = room := by
  unfold packBody
  obtain ⟨h1, h2⟩ := packL_size cells fixed ⟨#[]⟩
  rw [ByteArray.size_append, ByteArray.size_append, h1, h2, zeroB_size]
  have : (⟨#[]⟩ : ByteArray).size = 0 := rfl
  omega
def slot_Pack.f (room : Int) (fixed : ByteArray) (cells : List ByteArray) : Option (ByteArray × Int) :=
  if room < 0 ∨ 65535 < room then some (⟨#[]⟩, 4)
  else if fixed.size ≤ 10000000000 ∧ cells.length ≤ 1000000000 ∧ sizeSum cells ≤ 100000000000000 then
    (if room < ((fixed.size + sizeSum cells + 2 * (cells.length + 1) : Nat) : Int) then some (⟨#[]⟩, 8) else some (packBody room fixed cells, 0))
  else none
theorem rdOf_at {l : List ByteArray} {i : Nat} (h : i < l.length) : rdOf ByteArray.empty l (i : Int) = l[i] := by
  simp [rdOf, List.getD_eq_getElem?_getD, List.getElem?_eq_getElem h]
theorem sizeSum_drop (l : List ByteArray) (i : Nat) (h : i < l.length) : sizeSum (l.drop i) = l[i].size + sizeSum (l.drop (i + 1)) := by
  unfold sizeSum
  rw [List.drop_eq_getElem_cons h, List.map_cons, List.sum_cons]
theorem pack_l0 (room : Int) (fixed : ByteArray) (cells : List ByteArray) (hr : 0 ≤ room ∧ room ≤ 65535) (hz : ((fixed.size + sizeSum cells + 2 * (cells.length + 1) : Nat) : Int) ≤ room) (n : Nat) :
    ∀ (k i : Nat) (s d : ByteArray), i + n = cells.length → n < k → s.size + sizeSum (cells.drop i) = fixed.size + sizeSum cells → d.size = 2 * i → packL (cells.drop i) s d = packL cells fixed ⟨#[]⟩ →
      slot_Pack_raw.l0 k room s d cells cells.length (i : Int) = some (packBody room fixed cells, 0) := by
  induction n with
  | zero =>
    intro k i s d h1 h2 h3 h4 h5
    obtain ⟨k, rfl⟩ : ∃ m, k = m + 1 := ⟨k - 1, by omega⟩
    have hi : i = cells.length := by omega
    subst hi
    rw [List.drop_length] at h3 h5
    have hs : s.size = fixed.size + sizeSum cells := by simpa [sizeSum] using h3
    rw [slot_Pack_raw.l0, if_neg (by omega)]
    have hp : slot_place.f (s.size : Int) = some (placeB s.size) := rfl
    rw [hp]
    simp only [Option.bind_some]
    have q1 := placeB_size (s.size : Int)
    rw [if_pos (by omega)]
    have hw : wrap64 (wrap64 (room - (s.size : Int)) - ((placeB s.size ++ d).size : Int)) = room - ((fixed.size + sizeSum cells + 2 * (cells.length + 1) : Nat) : Int) := by
      rw [ByteArray.size_append, q1, wrap64_id (n := room - (s.size : Int)) (by omega) (by omega), wrap64_id (by omega) (by omega)]
      omega
    rw [hw]
    have hrep : strings_Repeat.f ⟨#[0]⟩ (room - ((fixed.size + sizeSum cells + 2 * (cells.length + 1) : Nat) : Int)) = some (zeroB (room - ((fixed.size + sizeSum cells + 2 * (cells.length + 1) : Nat) : Int)).toNat) := by
      unfold strings_Repeat.f
      rw [if_pos ⟨by omega, by omega, by
        show 1 * (room - ((fixed.size + sizeSum cells + 2 * (cells.length + 1) : Nat) : Int)).toNat ≤ _
        omega⟩]
      rfl
    rw [hrep]
    simp only [Option.bind_some]
    have q2 := zeroB_size (room - ((fixed.size + sizeSum cells + 2 * (cells.length + 1) : Nat) : Int)).toNat
    rw [if_pos (by omega), if_pos (by rw [ByteArray.size_append, ByteArray.size_append]; omega)]
    unfold packBody
    rw [← h5]
    rfl
  | succ n ih =>
    intro k i s d h1 h2 h3 h4 h5
    obtain ⟨k, rfl⟩ : ∃ m, k = m + 1 := ⟨k - 1, by omega⟩
    have hi : i < cells.length := by omega
    have hsd := sizeSum_drop cells i hi
    rw [slot_Pack_raw.l0, if_pos (by omega), if_pos (by omega), if_pos (by omega), rdOf_at hi]
    have hp : slot_place.f (s.size : Int) = some (placeB s.size) := rfl
    rw [hp]
    simp only [Option.bind_some]
    have q1 := placeB_size (s.size : Int)
    rw [if_pos (by omega), if_pos (by omega), wrap64_id (by omega) (by omega), show (i : Int) + 1 = ((i + 1 : Nat) : Int) by omega]
    refine ih k (i + 1) _ _ (by omega) (by omega) (by rw [ByteArray.size_append]; omega) (by rw [ByteArray.size_append]; omega) ?_
    rw [← h5, List.drop_eq_getElem_cons hi]
    rfl
theorem slot_Pack.calls (a0 : Int) (a1 : ByteArray) (A2 : Option Addr) (c2 : Nat) (l2 : List ByteArray) (r1 : ByteArray) (r2 : Int) (w : World) (hr2 : Kd.C Kd.string w A2 l2.length l2) (hc2 : l2.length ≤ c2) (h : slot_Pack.f a0 a1 l2 = some (r1, r2)) :
    Calls Try.prog 29 #[.int .i64 a0, .string a1, .slice A2 l2.length c2] w fun e w' => e = .returned (.tuple #[.string r1, .int .i64 r2]) ∧ Below w.heap.size w w' := by
  refine slot_Pack_raw.calls (l2.length + 2) a0 a1 A2 c2 l2 r1 r2 w hr2 hc2 ?_
  unfold slot_Pack.f at h
  unfold slot_Pack_raw.f
  by_cases h1 : a0 < 0
  · rw [if_pos (.inl h1)] at h
    rw [if_pos h1, slot_Pack_raw.j0, if_pos rfl]
    exact h
  · rw [if_neg h1, slot_Pack_raw.j0]
    by_cases h2 : 65535 < a0
    · rw [if_pos (.inr h2)] at h
      rw [if_pos (decide_eq_true h2)]
      exact h
    · rw [if_neg (by omega)] at h
      rw [if_neg (by simpa using h2)]
      by_cases hb : a1.size ≤ 10000000000 ∧ l2.length ≤ 1000000000 ∧ sizeSum l2 ≤ 100000000000000
      · rw [if_pos hb] at h
        have hs : slot_Size.f a1 l2 = some ((a1.size + sizeSum l2 + 2 * (l2.length + 1) : Nat) : Int) := by unfold slot_Size.f; rw [if_pos hb]
        rw [hs, Option.bind_some]
        by_cases hz : a0 < ((a1.size + sizeSum l2 + 2 * (l2.length + 1) : Nat) : Int)
        · rw [if_pos hz] at h
          rw [if_pos hz]
          exact h
        · rw [if_neg hz] at h
          rw [if_neg hz, ← h]
          exact pack_l0 a0 a1 l2 (by omega) (by omega) l2.length (l2.length + 1) 0 a1 ⟨#[]⟩ (by omega) (by omega) rfl rfl rfl
      · rw [if_neg hb] at h
        cases h


end Go.Proofs.Ytmheajenlhlbhaa.X


namespace Go.Proofs.Ytmheajenlhlbhaa.X
open Go.RowKit Go.Proofs.YtmheajenlhlbhaaW.PrintWords Go.Proofs.YtmheajenlhlbhaaW.PrintLast Go.Proofs.YtmheajenlhlbhaaW.PrintMore
attribute [local go_sem] max2_int min2_int max_two min_two max_three min_three max_four min_four   -- for this text's walks alone
set_option linter.unusedVariables false
set_option linter.unusedSimpArgs false

--GIVEN-- withy/head.number
/-! ### head_number: function 46 -/
set_option maxHeartbeats 1000000 in
theorem head_number_nil (w : World) :
    Calls Try.prog 46 #[.nilIface] w fun e w' => e = .returned (.int .i64 0) ∧ Below w.heap.size w w' := by
  go_enter Try.func46, Try.ntmps46
  go_wp2
  refine wp_loop_rounds 4 ?_
  rw [rounds_succ]
  go_wp2_with (first | (go_at_call 62; refine (Is_nil 4 _).mono ?_; rintro e w' ⟨rfl, rfl⟩))
  rw [rounds_succ]
  go_wp2_with (first | (go_at_call 62; refine (Is_nil 3 _).mono ?_; rintro e w' ⟨rfl, rfl⟩))
  rw [rounds_succ]
  go_wp2_with (first | (go_at_call 62; refine (Is_nil 8 _).mono ?_; rintro e w' ⟨rfl, rfl⟩))
  rw [rounds_succ]
  go_wp2
  go_ret
  exact ⟨rfl, below_alloc (Below.refl _ _) _⟩
set_option maxHeartbeats 1000000 in
theorem head_number_join (v : Value) (n : Int) (w : World) (hj : JoinOf w v n) (hn : n = 4 ∨ n = 3 ∨ n = 8) :
    Calls Try.prog 46 #[v] w fun e w' => e = .returned (.int .i64 n) ∧ Below w.heap.size w w' := by
  have HJ : Aside0 (JoinOf (w.alloc (.cells #[.int .i64 4, .int .i64 3, .int .i64 8] 47)) v n) := ⟨hj.below (below_alloc (Below.refl _ _) _)⟩
  clear hj
  rcases hn with rfl | rfl | rfl
  · go_enter Try.func46, Try.ntmps46
    go_wp2
    refine wp_loop_rounds 4 ?_
    rw [rounds_succ]
    go_wp2_with (first | (go_at_call 62; refine (Is_join v 4 4 _ HJ.out).mono ?_; rintro e w' ⟨rfl, rfl⟩))
    go_ret
    exact ⟨rfl, below_alloc (Below.refl _ _) _⟩
  · go_enter Try.func46, Try.ntmps46
    go_wp2
    refine wp_loop_rounds 4 ?_
    rw [rounds_succ]
    go_wp2_with (first | (go_at_call 62; refine (Is_join v 3 4 _ HJ.out).mono ?_; rintro e w' ⟨rfl, rfl⟩))
    rw [rounds_succ]
    go_wp2_with (first | (go_at_call 62; refine (Is_join v 3 3 _ HJ.out).mono ?_; rintro e w' ⟨rfl, rfl⟩))
    go_ret
    exact ⟨rfl, below_alloc (Below.refl _ _) _⟩
  · go_enter Try.func46, Try.ntmps46
    go_wp2
    refine wp_loop_rounds 4 ?_
    rw [rounds_succ]
    go_wp2_with (first | (go_at_call 62; refine (Is_join v 8 4 _ HJ.out).mono ?_; rintro e w' ⟨rfl, rfl⟩))
    rw [rounds_succ]
    go_wp2_with (first | (go_at_call 62; refine (Is_join v 8 3 _ HJ.out).mono ?_; rintro e w' ⟨rfl, rfl⟩))
    rw [rounds_succ]
    go_wp2_with (first | (go_at_call 62; refine (Is_join v 8 8 _ HJ.out).mono ?_; rintro e w' ⟨rfl, rfl⟩))
    go_ret
    exact ⟨rfl, below_alloc (Below.refl _ _) _⟩
theorem head_number.calls (v : Value) (n : Int) (w : World) (hf : FaultOf w v n) (hn : n = 0 ∨ n = 4 ∨ n = 3 ∨ n = 8) :
    Calls Try.prog 46 #[v] w fun e w' => e = .returned (.int .i64 n) ∧ Below w.heap.size w w' := by
  rcases hf with ⟨rfl, rfl⟩ | ⟨h0, hj⟩
  · exact head_number_nil w
  · exact head_number_join v n w hj (by omega)
theorem faultN_is (k l c r s : Int) (body : ByteArray) (p : Int) : faultN k l c r s body p = 0 ∨ faultN k l c r s body p = 4 ∨ faultN k l c r s body p = 3 ∨ faultN k l c r s body p = 8 := by
  unfold faultN
  split
  · split
    · split
      · omega
      · omega
    · omega
  · omega


end Go.Proofs.Ytmheajenlhlbhaa.X


namespace Go.Proofs.Ytmheajenlhlbhaa.X
open Go.RowKit Go.Proofs.YtmheajenlhlbhaaW.PrintWords Go.Proofs.YtmheajenlhlbhaaW.PrintLast Go.Proofs.YtmheajenlhlbhaaW.PrintMore
attribute [local go_sem] max2_int min2_int max_two min_two max_three min_three max_four min_four   -- for this text's walks alone
set_option linter.unusedVariables false
set_option linter.unusedSimpArgs false

/-! ### head_bytes: function 48 -/
def head_bytes.l0 : Nat → List Int → List Int → Int → Int → Option (ByteArray)
  | 0, _, _, _, _ => none
  | k + 1, x3, x6, x7, x8 => if x8 < x7 then (if 0 ≤ x8 then (if x8 < (x6.length : Int) then (if x3.length < 140737488355328 then (head_bytes.l0 k (x3 ++ [(rd x6 x8) % 256]) x6 x7 (wrap64 (x8 + 1))) else (none)) else (none)) else (none)) else (some (strOfNums x3))
def head_bytes.f (k : Nat) (l0 : List Int) : Option (ByteArray) := head_bytes.l0 k ([] : List Int) l0 (l0.length : Int) 0
set_option maxHeartbeats 8000000 in
set_option maxRecDepth 100000 in
theorem head_bytes.calls (k : Nat) (A0 : Option Addr) (c0 : Nat) (l0 : List Int) (r : ByteArray) (w : World) (hr0 : Kd.C (Kd.int .i64) w A0 l0.length l0) (hc0 : l0.length ≤ c0) (h : head_bytes.f k l0 = some r) :
    Calls Try.prog 48 #[.slice A0 l0.length c0] w fun e w' => e = .returned (.string r) ∧ Below w.heap.size w w' := by
  have HR0 := Aside0.mk hr0
  have HC0 := Aside0.mk hc0
  clear hr0 hc0
  have HB := Aside0.mk (Below.refl w.heap.size w)
  have H : (head_bytes.l0 k ([] : List Int) l0 (l0.length : Int) 0) = some r := h
  clear h
  have H' := Aside0.mk H
  clear H
  go_enter Try.func48, Try.ntmps48
  go_wp2
  go_loopg [3, 8] k (fun kq v3 v8 w' => ∃ (x3_1 : List Int) (x8_1 : Int), v8 = .int .i64 x8_1 ∧ Aside0 (head_bytes.l0 kq x3_1 l0 (l0.length : Int) x8_1 = some r) ∧ Aside0 (kq ≤ k) ∧ Aside0 (Kd.R (Kd.int .u8) 5 w' w.heap.size (fun _ => True) v3 x3_1) ∧ Aside0 (Below w.heap.size w w'))
  case atStart => exact ⟨(([] : List Int)), (0), (by first | rfl | (simp; done) | (simp [*]; done)), H', ⟨Nat.le_refl _⟩, ⟨by first | exact Kd.R_nil _ _ _ _ _ | exact Kd.N_nil _ _ _ _ _ | exact Kd.V_nil _ _ _ _ _ | exact Kd.Q_nil _ _ _ _ _ | exact Kd.S_nil _ _ _ _ _⟩, ⟨by repeat (first | (with_reducible first | exact HB.out | apply below_alloc | apply pw_below_drewN | apply below_drew1) | exact HB.out)⟩⟩
  case round =>
    clear H'
    obtain ⟨x3_1, x8_1, rfl, HA, HK1, HO_3, HB⟩ := hrel
    cases gk with
    | zero => exact absurd HA.out (by simp [head_bytes.l0])
    | succ k1 =>
      have H := HA.out
      clear HA
      simp only [head_bytes.l0] at H
      by_cases c2 : x8_1 < (l0.length : Int)
      · rw [if_pos c2] at H
        have c2b0 : decide (x8_1 < (l0.length : Int)) = true := decide_eq_true c2
        clear c2
        by_cases c3 : 0 ≤ x8_1
        · rw [if_pos c3] at H
          have c3b0 : decide (0 ≤ x8_1) = true := decide_eq_true c3
          clear c3
          by_cases c4 : x8_1 < (l0.length : Int)
          · rw [if_pos c4] at H
            have c4b0 : decide (x8_1 < (l0.length : Int)) = true := decide_eq_true c4
            clear c4
            by_cases c5 : x3_1.length < 140737488355328
            · rw [if_pos c5] at H
              have LMc5 := Aside0.mk c5
              clear c5
              obtain ⟨y332, hy332⟩ : ∃ y_ : List Int, y_ = (x3_1 ++ [(rd l0 x8_1) % 256]) := ⟨_, rfl⟩
              replace H : (head_bytes.l0 k1 y332 l0 (l0.length : Int) (wrap64 (x8_1 + 1))) = some r := by first | (rw [hy332]; with_reducible exact H) | (have H2_ := (Option.bind_some _ _).symm.trans H; rw [hy332]; with_reducible exact H2_) | (have H2_ := (Option.bind_some _ _).symm.trans H; with_reducible exact H2_) | with_reducible exact H | (rw [hy332]; exact H) | exact H
              have Ny332 := Aside0.mk hy332
              clear hy332
              have H' := Aside0.mk H
              clear H
              have p331 : 0 ≤ (x8_1 : Int) := of_decide_eq_true (by first | (with_reducible assumption) | assumption)
              have q331 : x8_1 < (l0.length : Int) := of_decide_eq_true (by first | (with_reducible assumption) | assumption)
              obtain ⟨ad331, e331, hx331_0⟩ := Kd.at_int HR0.out x8_1 p331 q331
              cases e331
              replace hx331_0 := (HB.out.cell (World.block_lt_of_cell? w _ hx331_0)).trans hx331_0
              replace p331 := eq_true p331
              replace q331 := eq_true q331
              go_wp2_with (first | ((with_reducible refine gate_builtin (b := .append) (xs := #[.tmp 12, .tmp 15]) rfl ?_); at_builtin; refine Kd.R_append (Kd.int .u8) (w0 := w) w.heap.size rfl (.tmp 12) (.tmp 15) 67 5 (.int .u8 0) 1 rfl Try.underlying67 info5 rfl (by decide) (by omega) u3 x3_1 ((rd l0 x8_1) % 256) [.int .u8 ((rd l0 x8_1) % 256)] (fun _ => True) (fun _ => False) rfl rfl ?aP (fun _ hk => hk.elim) ?aF ?aO ?aB ?aS ?aL ?_; (case aP => exact rfl); (case aB => exact (by repeat (first | (with_reducible first | exact HB.out | apply below_alloc | apply pw_below_drewN | apply below_drew1) | exact HB.out))); (case aF => exact (fun _ _ => trivial)); (case aO => exact (by (with_reducible repeat (first | apply Kd.R_alloc | apply Kd.R_drewN | apply Kd.R_drew)); exact HO_3.out)); (case aS => exact (below_size (by repeat (first | (with_reducible first | exact HB.out | apply below_alloc | apply pw_below_drewN | apply below_drew1) | exact HB.out)))); (case aL => have := LMc5.out; omega); intro v333 w6 ho hb hg hat; rw [← Ny332.out] at ho; have n0_ := Aside0.mk (hb); have n1_ := Aside0.mk (ho); clear HB; clear HO_3; have HB := n0_; have HO334 := n1_; clear n0_ n1_; clear ho hb hg hat))
              go_roundg k1
              case measure => have := HK1.out; omega
              case rel => exact ⟨(y332), (wrap64 (x8_1 + 1)), (by first | rfl | (simp; done) | (simp [*]; done)), H', ⟨by have := HK1.out; omega⟩, ⟨by (with_reducible repeat (first | apply Kd.R_alloc | apply Kd.R_drewN | apply Kd.R_drew)); exact HO334.out⟩, ⟨by repeat (first | (with_reducible first | exact HB.out | apply below_alloc | apply pw_below_drewN | apply below_drew1) | exact HB.out)⟩⟩
            · rw [if_neg c5] at H
              exact absurd H (by simp)
          · rw [if_neg c4] at H
            exact absurd H (by simp)
        · rw [if_neg c3] at H
          exact absurd H (by simp)
      · rw [if_neg c2] at H
        have c2b0 : decide (x8_1 < (l0.length : Int)) = false := decide_eq_false c2
        clear c2
        obtain rfl := Option.some.inj H
        have hcv7 := own_string (P := Try.prog) Try.underlying67 Try.underlying5 Try.underlying9 (Kd.own_of_R HO_3.out)
        go_wp2
        go_ret
        exact ⟨by first | rfl | (simp [errW_none, errW_some] <;> rfl) | (simp [*, errW_none, errW_some] <;> rfl), by repeat (first | (with_reducible first | exact HB.out | apply below_alloc | apply pw_below_drewN | apply below_drew1) | exact HB.out)⟩

end Go.Proofs.Ytmheajenlhlbhaa.X


namespace Go.Proofs.Ytmheajenlhlbhaa.X
open Go.RowKit Go.Proofs.YtmheajenlhlbhaaW.PrintWords Go.Proofs.YtmheajenlhlbhaaW.PrintLast Go.Proofs.YtmheajenlhlbhaaW.PrintMore
attribute [local go_sem] max2_int min2_int max_two min_two max_three min_three max_four min_four   -- for this text's walks alone
set_option linter.unusedVariables false
set_option linter.unusedSimpArgs false

--GIVEN-- withy/sum.step
/-! ### sum_step: function 80 -/
/-- One bit of the sum's step. -/
def bitI (r : Int) : Int := if Go.bits .and .u32 r 1 = 1 then Go.bits .xor .u32 (r / 2) 2197175160 else r / 2
def stepI : Nat → Int → Int
  | 0, r => r
  | k + 1, r => stepI k (bitI r)
def sum_step.f (r : Int) : Option Int := some (stepI 8 r)
theorem below_setc {b : Nat} {a w : World} (h : Below b a w) (u : Value) : Below b a (w.setCell ⟨b, 0, none⟩ u) := h.setCell (p := ⟨b, 0, none⟩) (Nat.le_refl _) u
set_option maxHeartbeats 1000000 in
theorem step1_calls (b : Nat) (r : Int) (w : World) (hb : Boxed w b 88 (.int .u32 r)) :
    Calls Try.prog 81 #[.pointer (some ⟨b, 0, none⟩)] w fun e w' => e = .returned (.tuple #[]) ∧ Boxed w' b 88 (.int .u32 (bitI r)) ∧ Below b w w' := by
  have hc : w.cell? ⟨b, 0, none⟩ = some (.int .u32 r) := hb.cell
  have hf : w.frozen? ⟨b, 0, none⟩ = false := hb.frozen
  have HB := Aside0.mk hb
  clear hb
  by_cases h : Go.bits .and .u32 r 1 = 1
  · have hq : (Go.bits .and .u32 r 1 == 1) = true := beq_iff_eq.mpr h
    have e : bitI r = Go.bits .xor .u32 (r / 2) 2197175160 := by unfold bitI; rw [if_pos h]
    rw [e]
    clear e h
    go_enter Try.func81, Try.ntmps81
    go_wp2
    refine bodyPost_end (results_none rfl _ _ _) rfl ?_
    exact ⟨rfl, (HB.out.set _).set _, below_setc (below_setc (Below.refl _ _) _) _⟩
  · have hq : (Go.bits .and .u32 r 1 == 1) = false := beq_eq_false_iff_ne.mpr h
    have e : bitI r = r / 2 := by unfold bitI; rw [if_neg h]
    rw [e]
    clear e h
    go_enter Try.func81, Try.ntmps81
    go_wp2
    refine bodyPost_end (results_none rfl _ _ _) rfl ?_
    exact ⟨rfl, HB.out.set _, below_setc (Below.refl _ _) _⟩
set_option maxHeartbeats 2000000 in
theorem sum_step.calls (a0 : Int) (r : Int) (w : World) (h : sum_step.f a0 = some r) :
    Calls Try.prog 80 #[.int .u32 a0] w fun e w' => e = .returned (.int .u32 r) ∧ Below w.heap.size w w' := by
  have HR := Aside0.mk (Option.some.inj h)
  clear h
  go_enter Try.func80, Try.ntmps80
  go_wp2
  go_loopw [5] (fun i wr => ∃ (k : Nat) (x : Int), k ≤ 8 ∧ i = .int .i64 k ∧ Aside0 (stepI (8 - k) x = r) ∧ Aside0 (Boxed wr w.heap.size 88 (.int .u32 x)) ∧ Aside0 (Below w.heap.size w wr)) (fun i _ => 8 - (intOf i).toNat)
  case atStart => exact ⟨0, a0, by omega, rfl, HR, ⟨Boxed.new w 88 (.int .u32 a0)⟩, ⟨below_alloc (Below.refl _ _) _⟩⟩
  case round =>
    obtain ⟨k, x, h0, rfl, HS, HX, HB⟩ := hrel
    by_cases hx : k < 8
    · have hs2 : stepI (8 - (k + 1)) (bitI x) = r := by
        rw [← HS.out, show 8 - k = (8 - (k + 1)) + 1 by omega]
        rfl
      have HS2 := Aside0.mk hs2
      clear hs2
      go_wp2_with (first | (go_at_call 81; refine (step1_calls w.heap.size x _ HX.out).mono ?_; rintro e w1 ⟨rfl, hbx, hb1⟩; have n0_ := Aside0.mk hbx; have n1_ := Aside0.mk (HB.out.trans hb1); clear HX HB hbx hb1; have HX := n0_; have HB := n1_; clear n0_ n1_))
      go_roundw
      case rel => exact ⟨k + 1, bitI x, by omega, by go_num, HS2, HX, HB⟩
      case measure => simp [intOf]; omega
    · have hk : k = 8 := by omega
      subst hk
      have e : x = r := HS.out
      subst e
      have hc := HX.out.cell
      go_wp2
      go_ret
      exact ⟨rfl, HB.out⟩


end Go.Proofs.Ytmheajenlhlbhaa.X


namespace Go.Proofs.Ytmheajenlhlbhaa.X
open Go.RowKit Go.Proofs.YtmheajenlhlbhaaW.PrintWords Go.Proofs.YtmheajenlhlbhaaW.PrintLast Go.Proofs.YtmheajenlhlbhaaW.PrintMore
attribute [local go_sem] max2_int min2_int max_two min_two max_three min_three max_four min_four   -- for this text's walks alone
set_option linter.unusedVariables false
set_option linter.unusedSimpArgs false

--GIVEN-- withy/sum.More
/-! ### sum_More: function 65 -/
/-- The table while its first k places are laid. -/
def tabL (k : Nat) : List Int := ((List.range k).map fun (i : Nat) => stepI 8 (i : Int)) ++ List.replicate (256 - k) 0
def tabV (l : List Int) : Array Value := (l.map fun n => Value.int .u32 n).toArray
theorem tabL_length (k : Nat) (h : k ≤ 256) : (tabL k).length = 256 := by simp [tabL]; omega
theorem tabL_set (k : Nat) (h : k < 256) : (tabL k).set k (stepI 8 (k : Int)) = tabL (k + 1) := by
  unfold tabL
  rw [List.set_append_right _ _ (by simp), List.length_map, List.length_range, Nat.sub_self, show 256 - k = (256 - (k + 1)) + 1 by omega, List.replicate_succ, List.set_cons_zero, List.range_succ, List.map_append, List.append_assoc]
  rfl
theorem tab_zero : Try.zeroCells126 = tabV (tabL 0) := by kernel_rfl
/-- A block of cells, unfrozen. -/
def Block (W : World) (B : Nat) (t : TypeId) (a : Array Value) : Prop := W.heap[B]? = some (.cells a t (0, 0))
theorem Block.cell {W : World} {B : Nat} {t : TypeId} {a : Array Value} (h : Block W B t a) (k : Nat) (hk : k < a.size) : W.cell? ⟨B, k, none⟩ = some a[k] := by
  simp [World.cell?, show W.heap[B]? = _ from h, hk]
theorem Block.frozen {W : World} {B : Nat} {t : TypeId} {a : Array Value} (h : Block W B t a) (k : Nat) : W.frozen? ⟨B, k, none⟩ = false := by simp [World.frozen?, show W.heap[B]? = _ from h]
theorem Block.below {W W' : World} {B n : Nat} {t : TypeId} {a : Array Value} (h : Block W B t a) (hb : Below n W W') (hn : B < n) : Block W' B t a := (hb.block B hn).trans h
/-- One byte of the sum. -/
def crcI (r b : Int) : Int := Go.bits .xor .u32 ((tabL 256).getD (Go.bits .xor .u8 (r % 256) b).toNat 0) (r / 256)
def crcAt (s : ByteArray) (c : Int) : Nat → Int
  | 0 => c
  | k + 1 => crcI (crcAt s c k) (bt s (k : Int))
def notI (c : Int) : Int := Go.bits .xor .u32 IntKind.u32.max c
def sum_More.f (c : Int) (s : ByteArray) : Option Int := if s.size ≤ 1000000000 then some (notI (crcAt s (notI c) s.size)) else none
theorem Block.lt {W : World} {B : Nat} {t : TypeId} {a : Array Value} (h : Block W B t a) : B < W.heap.size := (Array.getElem?_eq_some_iff.1 h).1
theorem Block.set {W : World} {B : Nat} {t : TypeId} {a : Array Value} (h : Block W B t a) (k : Nat) (v : Value) : Block (W.setCell ⟨B, k, none⟩ v) B t (a.setIfInBounds k v) := by
  obtain ⟨hlt, hk⟩ := Array.getElem?_eq_some_iff.1 h
  show (W.heap.modify B _)[B]? = _
  rw [Array.getElem?_eq_getElem (by rw [Array.size_modify]; exact hlt), Array.getElem_modify_self, hk]
  rfl
theorem Block.other {W : World} {B C : Nat} {t : TypeId} {a : Array Value} (h : Block W B t a) (k : Nat) (v : Value) (hn : B ≠ C) : Block (W.setCell ⟨C, k, none⟩ v) B t a := (Below.heap_setCell W ⟨C, k, none⟩ v B hn).trans h
theorem tabV_set (k : Nat) (h : k < 256) : (tabV (tabL k)).setIfInBounds k (.int .u32 (stepI 8 (k : Int))) = tabV (tabL (k + 1)) := by
  unfold tabV
  rw [List.setIfInBounds_toArray, ← tabL_set k h, List.map_set]
theorem tabV_size (k : Nat) (h : k ≤ 256) : (tabV (tabL k)).size = 256 := by simp [tabV, tabL_length k h]
theorem wp_load_of {P : Program} {o : Oper} {a : Act} {w : World} {K : Act → World → Prop} {Q : Exit → Act → World → Prop} (ty : TypeId) (x : Operand) (p v : Value) (ho : o.op = .load ty x) (hx : a.eval x = p) (hl : (Instr.loadAt ty p).run P w = .ok v w) (h : K (a.put o.dst v) w) : o.wp P a w K Q := by
  unfold Oper.wp execOp
  simp only [ho, hx, Sem.run_bind, Sem.run_pure, Result.andThen_ok, hl]
  exact h
theorem wp_store_of {P : Program} {o : Oper} {a : Act} {w w' : World} {K : Act → World → Prop} {Q : Exit → Act → World → Prop} (ty : TypeId) (x y : Operand) (p v : Value) (ho : o.op = .store ty x y) (hx : a.eval x = p) (hy : a.eval y = v) (hl : (Instr.storeAt ty p v).run P w = .ok () w') (h : K (a.put o.dst undef) w') : o.wp P a w K Q := by
  unfold Oper.wp execOp
  simp only [ho, hx, hy, Sem.run_bind, Sem.run_pure, Result.andThen_ok, hl]
  exact h
set_option maxRecDepth 100000 in
set_option maxHeartbeats 2000000 in
theorem sum_table.calls (w : World) :
    Calls Try.prog 77 #[] w fun e w' => e = .returned (.agg (tabV (tabL 256))) ∧ Below w.heap.size w w' := by
  go_enter Try.func77, Try.ntmps77
  go_wp2
  go_loopw [3] (fun i wr => ∃ (k : Nat), k ≤ 256 ∧ i = .int .i64 k ∧ Aside0 (Block wr (w.heap.size + 1) 126 (tabV (tabL k))) ∧ Aside0 (Block wr w.heap.size 126 (tabV (tabL 0))) ∧ Aside0 (Below w.heap.size w wr)) (fun i _ => 256 - (intOf i).toNat)
  case atStart => exact ⟨0, by omega, rfl, ⟨by rw [tab_zero]; unfold Block; rw [← World.alloc_heap_new (w.alloc (.cells (tabV (tabL 0)) 126)) (.cells (tabV (tabL 0)) 126)]; simp⟩, ⟨by rw [tab_zero]; unfold Block; refine (Below.block (below_alloc (Below.refl _ _) _) w.heap.size (by simp)).trans (World.alloc_heap_new w _)⟩, ⟨below_alloc (below_alloc (Below.refl _ _) _) _⟩⟩
  case round =>
    obtain ⟨k, h0, rfl, HX, HY, HB⟩ := hrel
    by_cases hx : k < 256
    · go_wp2_with (first | (go_at_call 80; refine (sum_step.calls (k : Int) _ _ rfl).mono ?_; rintro e w1 ⟨rfl, hb1⟩; have n0_ := Aside0.mk (HX.out.below hb1 HX.out.lt); have n1_ := Aside0.mk (HY.out.below hb1 HY.out.lt); have n2_ := Aside0.mk (below_step HB.out hb1); clear HX HY HB hb1; have HX := n0_; have HY := n1_; have HB := n2_; clear n0_ n1_ n2_; have hc := HX.out.cell k (by rw [tabV_size k h0]; exact hx); have hf := HX.out.frozen k))
      refine ⟨⟨k + 1, by omega, by go_num, ⟨?_⟩, ⟨HY.out.other _ _ (by omega)⟩, ⟨below_set HB.out (by omega)⟩⟩, by simp [intOf]; omega⟩
      rw [← tabV_set k hx]
      exact HX.out.set k _
    · have hk : k = 256 := by omega
      subst hk
      have ht := tabV_size 256 h0
      have h1 : (tabV (tabL 256)).all (·.oneCell') = true := by simp [tabV, Value.oneCell']
      obtain ⟨T, hT⟩ : ∃ T, T = tabV (tabL 256) := ⟨_, rfl⟩
      rw [← hT] at HX ht h1
      have HT := Aside0.mk hT
      clear hT
      have h0z := tabV_size 0 (by omega)
      generalize tabV (tabL 0) = Z at HY h0z
      have hl : (Instr.loadAt 126 (.pointer (some ⟨w.heap.size + 1, 0, none⟩))).run Try.prog wr = .ok (.agg T) wr := by
        simp only [Instr.loadAt, Instr.sureAddr, Sem.run_bind, Sem.run_pure, Result.andThen]
        exact run_loadVar_row _ _ 126 126 T (0, 0) (.array 256 88) HX.out (by kernel_rfl) rfl (by rw [ht]; kernel_rfl)
      have hs : (Instr.storeAt 126 (.pointer (some ⟨w.heap.size, 0, none⟩)) (.agg T)).run Try.prog wr = .ok () (wr.setRow w.heap.size T) := by
        simp only [Instr.storeAt, Instr.sureAddr, Sem.run_bind, Sem.run_pure, Result.andThen]
        rw [run_storeVar_row _ _ 126 126 Z T HY.out (by rw [ht]; kernel_rfl) (by omega) h1]
      have HL := Aside0.mk hl
      have HS := Aside0.mk hs
      clear hl hs
      go_wp2
      refine wp_load_of 126 (.tmp 1) _ _ rfl rfl HL.out ?_
      apply_assumption
      refine wpList_plain rfl fun _ hK => wp_store_of 126 (.tmp 0) (.tmp 12) _ _ rfl rfl rfl HS.out (hK _ _ ?_)
      have hy2 : (wr.setRow w.heap.size T).heap[w.heap.size]? = some (.cells T 126 (0, 0)) := by
        obtain ⟨hlt, hk⟩ := Array.getElem?_eq_some_iff.1 HY.out
        show (wr.heap.modify w.heap.size _)[w.heap.size]? = _
        rw [Array.getElem?_eq_getElem (by rw [Array.size_modify]; exact hlt), Array.getElem_modify_self, hk]
      have hl2 := run_loadVar_row (P := Try.prog) _ _ 126 126 T (0, 0) (.array 256 88) hy2 (by kernel_rfl) rfl (by rw [ht]; kernel_rfl)
      have hb2 : Below w.heap.size w (wr.setRow w.heap.size T) := HB.out.trans ⟨rfl, rfl, rfl, by simp [World.setRow], fun k hk => by
        show (wr.heap.modify w.heap.size _)[k]? = _
        rw [Array.getElem?_modify, if_neg (by omega)]⟩
      have HL2 := Aside0.mk hl2
      have HB2 := Aside0.mk hb2
      clear hy2 hl2 hb2
      go_wp2
      refine bodyPost_ret (v := .agg T) ?_ rfl ?_
      · simp [results, Act.put, asAddr, HL2.out]
      · exact ⟨by rw [HT.out], HB2.out⟩
set_option maxRecDepth 100000 in
set_option maxHeartbeats 2000000 in
theorem sum_More.calls (a0 : Int) (a1 : ByteArray) (r : Int) (w : World) (h : sum_More.f a0 a1 = some r) :
    Calls Try.prog 65 #[.int .u32 a0, .string a1] w fun e w' => e = .returned (.int .u32 r) ∧ Below w.heap.size w w' := by
  go_enter Try.func65, Try.ntmps65
  have ht := tabV_size 256 (Nat.le_refl _)
  have h1 : (tabV (tabL 256)).all (·.oneCell') = true := by simp [tabV, Value.oneCell']
  obtain ⟨T, hT⟩ : ∃ T, T = tabV (tabL 256) := ⟨_, rfl⟩
  rw [← hT] at ht h1
  have HT := Aside0.mk hT
  clear hT
  have hsz : a1.size ≤ 1000000000 := by
    unfold sum_More.f at h
    split at h
    · assumption
    · cases h
  have HH := Aside0.mk h
  clear h
  have hz : Try.zeroCells126.size = T.size := by rw [ht]; kernel_rfl
  have hi : (Try.prog.info? 126).map (·.size) = some T.size := by rw [ht]; kernel_rfl
  have H1 := Aside0.mk h1
  have HI := Aside0.mk hi
  have HZ := Aside0.mk hz
  clear h1 hi hz
  go_wp2_with (first | (go_at_call 77; refine (sum_table.calls _).mono ?_; rintro e w1 ⟨rfl, hb1⟩; have HB := Aside0.mk hb1; clear hb1; rw [← HT.out]; have hst := run_storeCells_new (P := Try.prog) w1 126 Try.zeroCells126 T HI.out HZ.out H1.out))
  go_loopw [6, 13] (fun v i wr => ∃ (k : Nat), k ≤ a1.size ∧ i = .int .i64 k ∧ v = .int .u32 (crcAt a1 (notI a0) k) ∧ Aside0 (Block wr w1.heap.size 126 T) ∧ Aside0 (Below w.heap.size w wr)) (fun _ i _ => a1.size - (intOf i).toNat)
  case atStart => exact ⟨0, by omega, rfl, rfl, ⟨World.alloc_heap_new w1 _⟩, ⟨below_alloc HB.out _⟩⟩
  case round =>
    obtain ⟨k, h0, rfl, rfl, HX, HB⟩ := hrel
    by_cases hx : k < a1.size
    · have hb : (((a1[k]'hx).toNat : Nat) : Int) = bt a1 (k : Int) := by
        have := bt_at a1 (k : Int) (by simpa using hx)
        simpa using this
      have hst : crcAt a1 (notI a0) (k + 1) = crcI (crcAt a1 (notI a0) k) (((a1[k]'hx).toNat : Nat) : Int) := by rw [hb]; rfl
      have HS := Aside0.mk hst
      clear hst hb
      have hi1 := bits_hi_u8 .xor (crcAt a1 (notI a0) k % 256) (((a1[k]'hx).toNat : Nat) : Int)
      have hi0 : 0 ≤ Go.bits .xor .u8 (crcAt a1 (notI a0) k % 256) (((a1[k]'hx).toNat : Nat) : Int) := by have := (bits_within .xor .u8 (crcAt a1 (notI a0) k % 256) (((a1[k]'hx).toNat : Nat) : Int)).1; simpa [IntKind.min, IntKind.signed] using this
      have hc : wr.cell? ⟨w1.heap.size, (Go.bits .xor .u8 (crcAt a1 (notI a0) k % 256) (((a1[k]'hx).toNat : Nat) : Int)).toNat, none⟩ = some (.int .u32 ((tabL 256).getD (Go.bits .xor .u8 (crcAt a1 (notI a0) k % 256) (((a1[k]'hx).toNat : Nat) : Int)).toNat 0)) := by
        generalize Go.bits .xor .u8 (crcAt a1 (notI a0) k % 256) (((a1[k]'hx).toNat : Nat) : Int) = z at hi1 hi0
        have hzt : z.toNat < 256 := by omega
        rw [HX.out.cell z.toNat (by rw [ht]; exact hzt)]
        have h256 := tabL_length 256 (Nat.le_refl _)
        simp only [HT.out, tabV]
        rw [List.getElem_toArray, List.getElem_map, List.getD_eq_getElem?_getD, List.getElem?_eq_getElem (by rw [h256]; exact hzt)]
        rfl
      have hw : wrap64 ((k : Int) + 1) = (k : Int) + 1 := IntWalk.wrap64_in _ (by omega)
      go_wp2
      go_roundw
      case rel => exact ⟨k + 1, by omega, by first | rfl | go_num, by rw [HS.out]; rfl, HX, HB⟩
      case measure => simp [intOf]; omega
    · have hk : k = a1.size := by omega
      subst hk
      have e : notI (crcAt a1 (notI a0) a1.size) = r := by
        have := HH.out
        unfold sum_More.f at this
        rw [if_pos hsz] at this
        exact Option.some.inj this
      subst e
      go_wp2
      go_ret
      exact ⟨rfl, HB.out⟩


end Go.Proofs.Ytmheajenlhlbhaa.X


namespace Go.Proofs.Ytmheajenlhlbhaa.X
open Go.RowKit Go.Proofs.YtmheajenlhlbhaaW.PrintWords Go.Proofs.YtmheajenlhlbhaaW.PrintLast Go.Proofs.YtmheajenlhlbhaaW.PrintMore
attribute [local go_sem] max2_int min2_int max_two min_two max_three min_three max_four min_four   -- for this text's walks alone
set_option linter.unusedVariables false
set_option linter.unusedSimpArgs false

/-! ### sum_Table: function 50 -/
def sum_Table.f (a0 : ByteArray) : Option (Int) := (sum_More.f 0 a0).bind fun t335 => (some t335)
set_option maxHeartbeats 8000000 in
set_option maxRecDepth 100000 in
theorem sum_Table.calls (a0 : ByteArray) (r : Int) (w : World) (h : sum_Table.f a0 = some r) :
    Calls Try.prog 50 #[.string a0] w fun e w' => e = .returned (.int .u32 r) ∧ Below w.heap.size w w' := by
  have HB := Aside0.mk (Below.refl w.heap.size w)
  have H : ((sum_More.f 0 a0).bind fun t335 => (some t335)) = some r := h
  clear h
  replace H := Option.bind_eq_some_iff.mp H
  obtain ⟨t335, A20, H⟩ := H
  replace H : (some t335) = some r := H
  have A2 := Aside0.mk A20
  clear A20
  obtain rfl := Option.some.inj H
  go_enter Try.func50, Try.ntmps50
  go_wp2_with (first | ((with_reducible refine gate_callee (f := 65) rfl ?_); refine goesL_ (some 4) rfl rfl Try.func65 (by kernel_rfl) rfl #[.int .u32 0, .string a0] rfl (by (try simp only [List.map_toArray, List.map_cons, List.map_nil]); first | done | rfl | (simp only [List.length_drop, List.length_take]; rfl)) ?_; (with_reducible refine (sum_More.calls 0 a0 t335 _ A2.out).mono ?_); rintro e w3 ⟨rfl, hb⟩; refine ⟨_, rfl, ?_⟩; have n0_ := Aside0.mk (below_step (by repeat (first | (with_reducible first | exact HB.out | apply below_alloc | apply pw_below_drewN | apply below_drew1) | exact HB.out)) hb); clear HB; have HB := n0_; clear n0_; (try clear hb); (try clear hb2); (try clear hk); (try clear hi)))
  go_ret
  exact ⟨by first | rfl | (simp [errW_none, errW_some] <;> rfl) | (simp [*, errW_none, errW_some] <;> rfl), by repeat (first | (with_reducible first | exact HB.out | apply below_alloc | apply pw_below_drewN | apply below_drew1) | exact HB.out)⟩

end Go.Proofs.Ytmheajenlhlbhaa.X


namespace Go.Proofs.Ytmheajenlhlbhaa.X
open Go.RowKit Go.Proofs.YtmheajenlhlbhaaW.PrintWords Go.Proofs.YtmheajenlhlbhaaW.PrintLast Go.Proofs.YtmheajenlhlbhaaW.PrintMore
attribute [local go_sem] max2_int min2_int max_two min_two max_three min_three max_four min_four   -- for this text's walks alone
set_option linter.unusedVariables false
set_option linter.unusedSimpArgs false

--GIVEN-- withy/head.Seal
/-! ### head_Seal: function 30 -/
def fourB (n : Int) : ByteArray := strOfNums [n % 256, n / 256 % 256, n / 65536 % 256, n / 16777216 % 256]
/-- A page's bytes, its sum as 0. -/
def rawPage (k l c r s : Int) (body : ByteArray) (p : Int) : ByteArray :=
  (((strOfNums [k % 256, l % 256, c % 256, c / 256 % 256] ++ fourB r) ++ fourB s) ++ ⟨#[0, 0, 0, 0]⟩) ++ body ++ zeroB (p - ((16 + body.size : Nat) : Int)).toNat
def crcB (s : ByteArray) : Int := notI (crcAt s (notI 0) s.size)
def sealOf (t : ByteArray) : ByteArray := t.extract 0 12 ++ fourB (crcB t) ++ t.extract 16 t.size
def head_Seal.f (k l c r s : Int) (body : ByteArray) (p : Int) : Option (ByteArray × Int) :=
  some (if faultN k l c r s body p = 0 then sealOf (rawPage k l c r s body p) else ⟨#[]⟩, faultN k l c r s body p)
theorem u32_wrap_id {n : Int} (h0 : 0 ≤ n) (h1 : n < 4294967296) : IntKind.u32.wrap n = n := by
  unfold IntKind.wrap
  simp [IntKind.bits, IntKind.signed]
  omega
theorem ints_at {w : World} {B : Nat} {l : List Int} (hs : l.length ≤ 1000000) (h : ∀ j, j < l.length → w.cell? ⟨B, j, none⟩ = some (.int .i64 (l.getD j 0))) : Kd.C (Kd.int .i64) w (some ⟨B, 0, none⟩) l.length l := by
  refine Kd.C_of_reads (enc := Value.int .i64) (d := (0 : Int)) (h1 := fun _ => rfl) ⟨rfl, by omega, fun _ => ⟨_, rfl, fun j hj => ?_⟩⟩
  have := h j hj
  have e1 : (⟨B, 0, none⟩ : Addr).add j = ⟨B, j, none⟩ := by
    unfold Addr.add
    split
    · rename_i h0
      rw [h0]
    · simp
  rw [e1]
  exact this
theorem bytes_step (k : Nat) (acc l : List Int) (i : Nat) (hi : i < l.length) (hl : l.length ≤ 10) (ha : acc.length ≤ 10) :
    head_bytes.l0 (k + 1) acc l l.length (i : Int) = head_bytes.l0 k (acc ++ [l[i] % 256]) l l.length ((i + 1 : Nat) : Int) := by
  have hw : wrap64 ((i : Int) + 1) = ((i + 1 : Nat) : Int) := by unfold wrap64; omega
  simp only [head_bytes.l0]
  rw [if_pos (by omega), if_pos (by omega), if_pos (by omega), if_pos (by omega), hw, show rd l (i : Int) = l[i] by simp [rd, List.getD_eq_getElem?_getD, List.getElem?_eq_getElem hi]]
theorem bytes_end (k : Nat) (acc l : List Int) : head_bytes.l0 (k + 1) acc l l.length (l.length : Int) = some (strOfNums acc) := by
  simp only [head_bytes.l0]
  rw [if_neg (by omega)]
theorem bytes_four (a b c d : Int) : head_bytes.f 9 [a, b, c, d] = some (strOfNums [a % 256, b % 256, c % 256, d % 256]) :=
  (bytes_step 8 [] [a, b, c, d] 0 (by simp) (by simp) (by simp)).trans ((bytes_step 7 _ [a, b, c, d] 1 (by simp) (by simp) (by simp)).trans ((bytes_step 6 _ [a, b, c, d] 2 (by simp) (by simp) (by simp)).trans ((bytes_step 5 _ [a, b, c, d] 3 (by simp) (by simp) (by simp)).trans (bytes_end 4 _ [a, b, c, d]))))
/-- What a call inside the statement must keep. -/
def SealS (w : World) (k l c r s : Int) (W : World) : Prop := (W.cell? ⟨w.heap.size, 0, none⟩ = some (.int .i64 k) ∧ W.cell? ⟨w.heap.size, 1, none⟩ = some (.int .i64 l) ∧ W.cell? ⟨w.heap.size, 2, none⟩ = some (.int .i64 c) ∧ W.cell? ⟨w.heap.size, 3, none⟩ = some (.int .i64 r) ∧ W.cell? ⟨w.heap.size, 4, none⟩ = some (.int .i64 s)) ∧ Below w.heap.size w W
theorem SealS.step {w W w2 : World} {k l c r s : Int} (h : SealS w k l c r s W) (hb : Below W.heap.size W w2) : SealS w k l c r s w2 := by
  obtain ⟨⟨h0, h1, h2, h3, h4⟩, hB⟩ := h
  exact ⟨⟨(hb.cell (World.block_lt_of_cell? W _ h0)).trans h0, (hb.cell (World.block_lt_of_cell? W _ h1)).trans h1, (hb.cell (World.block_lt_of_cell? W _ h2)).trans h2, (hb.cell (World.block_lt_of_cell? W _ h3)).trans h3, (hb.cell (World.block_lt_of_cell? W _ h4)).trans h4⟩, below_step hB hb⟩
theorem SealS.start (w : World) (k l c r s : Int) : SealS w k l c r s (w.alloc (.cells #[.int .i64 k, .int .i64 l, .int .i64 c, .int .i64 r, .int .i64 s] 66)) := by
  refine ⟨⟨?_, ?_, ?_, ?_, ?_⟩, below_alloc (Below.refl _ _) _⟩ <;> simp
theorem SealS.drew {w W : World} {k l c r s : Int} (h : SealS w k l c r s W) : SealS w k l c r s W.drew := h.step (below_drew (Below.refl _ _))
theorem SealS.alloc {w W : World} {k l c r s : Int} (h : SealS w k l c r s W) (o : Obj) : SealS w k l c r s (W.alloc o) := h.step (below_alloc (Below.refl _ _) _)
theorem SealS.below {w W : World} {k l c r s : Int} (h : SealS w k l c r s W) : Below w.heap.size w W := h.2
set_option maxRecDepth 100000 in
set_option maxHeartbeats 2000000 in
theorem head_Seal_no (k l c r s : Int) (body : ByteArray) (p : Int) (w : World) (n : Int) (hn : faultN k l c r s body p = n) (h0 : n ≠ 0) :
    Calls Try.prog 30 #[.agg #[.int .i64 k, .int .i64 l, .int .i64 c, .int .i64 r, .int .i64 s], .string body, .int .i64 p] w fun e w' => e = .returned (.tuple #[.string ⟨#[]⟩, .int .i64 n]) ∧ Below w.heap.size w w' := by
  have HN := Aside0.mk hn
  have hnn : (n != 0) = true := by simpa using h0
  have hq := faultN_is k l c r s body p
  rw [hn] at hq
  have HQ := Aside0.mk hq
  clear hn h0 hq
  go_enter Try.func30, Try.ntmps30
  go_wp2_with (first | (go_at_call 47; refine (head_may.calls k l c r s body p _).mono ?_; rintro e w1 ⟨v, rfl, hf, hb1⟩; rw [HN.out] at hf; have HB1 := Aside0.mk hb1; have HF := Aside0.mk hf; clear hb1 hf) | (go_at_call 46; refine (head_number.calls v n _ HF.out HQ.out).mono ?_; rintro e w2 ⟨rfl, hb2⟩; have HB2 := Aside0.mk hb2; clear hb2))
  go_ret2
  exact ⟨rfl, below_step (below_step (below_alloc (Below.refl _ _) _) HB1.out) HB2.out⟩
set_option maxRecDepth 100000 in
set_option maxHeartbeats 4000000 in
theorem head_Seal_yes (k l c r s : Int) (body : ByteArray) (p : Int) (w : World) (hn : faultN k l c r s body p = 0) (hk : 0 ≤ k ∧ k < 256) (hl : 0 ≤ l ∧ l < 256) (hc : 0 ≤ c ∧ c < 65536) (hr : 0 ≤ r ∧ r < 4096) (hs : 0 ≤ s ∧ s < 4096) (hp : 128 ≤ p ∧ p ≤ 1024) (hb : (body.size : Int) ≤ p - 16) :
    Calls Try.prog 30 #[.agg #[.int .i64 k, .int .i64 l, .int .i64 c, .int .i64 r, .int .i64 s], .string body, .int .i64 p] w fun e w' => e = .returned (.tuple #[.string (sealOf (rawPage k l c r s body p)), .int .i64 0]) ∧ Below w.heap.size w w' := by
  have HN := Aside0.mk hn
  obtain ⟨c0, c1⟩ := hc
  obtain ⟨r0, r1⟩ := hr
  obtain ⟨s0, s1⟩ := hs
  have hq : IntKind.i64.wrap (c.tdiv 256) = c / 256 := by rw [Int.tdiv_eq_ediv_of_nonneg c0]; exact IntWalk.i64_in _ (by omega)
  have hur : IntKind.u32.wrap r = r := u32_wrap_id r0 (by omega)
  have hus : IntKind.u32.wrap s = s := u32_wrap_id s0 (by omega)
  have HBY := Aside0.mk (bytes_four k l c (c / 256))
  obtain ⟨pre, hpre⟩ : ∃ pre, strOfNums [k % 256, l % 256, c % 256, c / 256 % 256] = pre := ⟨_, rfl⟩
  obtain ⟨fr, hfr⟩ : ∃ x, fourB r = x := ⟨_, rfl⟩
  obtain ⟨fs, hfs⟩ : ∃ x, fourB s = x := ⟨_, rfl⟩
  rw [hpre] at HBY
  have HFR := Aside0.mk (show word_Four.f r = some fr by rw [← hfr]; rfl)
  have HFS := Aside0.mk (show word_Four.f s = some fs by rw [← hfs]; rfl)
  have hpz : pre.size = 4 := by rw [← hpre]; exact strOfNums_size _
  have hrz : fr.size = 4 := by rw [← hfr]; exact strOfNums_size _
  have hsz : fs.size = 4 := by rw [← hfs]; exact strOfNums_size _
  have z1 : (9223372036854775807 < 16 + (body.size : Int)) = False := by apply eq_false; omega
  have g1 : (9223372036854775807 < 16 + body.size) = False := by apply eq_false; omega
  have g2 : ((pre ++ fr ++ fs ++ (⟨#[0, 0, 0, 0]⟩ : ByteArray)).size + body.size > 9223372036854775807) = False := by
    apply eq_false
    simp only [ByteArray.size_append, hpz, hrz, hsz]
    have : (⟨#[0, 0, 0, 0]⟩ : ByteArray).size = 4 := rfl
    omega
  have z2 : decide (16 + body.size ≤ 9223372036854775807) = true := decide_eq_true (by omega)
  have z3 : 16 + body.size ≤ 9223372036854775807 := by omega
  have HPRE := Aside0.mk hpre
  have HFR2 := Aside0.mk hfr
  have HFS2 := Aside0.mk hfs
  clear hn hpre hfr hfs
  go_enter Try.func30, Try.ntmps30
  go_wp2_with (first | (go_at_call 47; refine (head_may.calls k l c r s body p _).mono ?_; rintro e w1 ⟨v, rfl, hf, hb1⟩; rw [HN.out] at hf; have hS1 := (SealS.start w k l c r s).step hb1; have HF := Aside0.mk hf; clear hb1 hf) | (go_at_call 46; refine (head_number.calls v 0 _ HF.out (.inl rfl)).mono ?_; rintro e w2 ⟨rfl, hb2⟩; have hS2 := hS1.step hb2; clear hb2 hS1; have hS2' := id hS2; unfold SealS at hS2'))
  go_region_held3 (fun W => (W.cell? ⟨w.heap.size, 0, none⟩ = some (.int .i64 k) ∧ W.cell? ⟨w.heap.size, 1, none⟩ = some (.int .i64 l) ∧ W.cell? ⟨w.heap.size, 2, none⟩ = some (.int .i64 c) ∧ W.cell? ⟨w.heap.size, 3, none⟩ = some (.int .i64 r) ∧ W.cell? ⟨w.heap.size, 4, none⟩ = some (.int .i64 s)) ∧ Below w.heap.size w W)
    (first | assumption | exact hS2.drew | exact (hS2.alloc _).drew)
    (first | (go_at_call 48; refine (head_bytes.calls 9 (some ⟨w2.heap.size, 0, none⟩) 4 [k, l, c, c / 256] pre _ ?k1 (Nat.le_refl _) HBY.out).mono ?_; (case k1 => refine ints_at (by simp) (fun j hj => ?_); match j, hj with | 0, _ => simp | 1, _ => simp | 2, _ => simp | 3, _ => simp); rintro e w3 ⟨rfl, hb3⟩; have hS3 := (hS2.alloc _).drew.step hb3; clear hb3; have hS3' := id hS3; unfold SealS at hS3') | (go_at_call 49; ((with_reducible refine (word_Four.calls r fr _ HFR.out).mono ?_); rintro e w4 ⟨rfl, hb4⟩; have hS4 := hS3.step hb4; clear hb4; have hS4' := id hS4; unfold SealS at hS4')) | (go_at_call 49; ((with_reducible refine (word_Four.calls s fs _ HFS.out).mono ?_); rintro e w5 ⟨rfl, hb5⟩; have hS5 := hS4.step hb5; clear hb5; have hS5' := id hS5; unfold SealS at hS5')))
  have hrep : strings_Repeat.f ⟨#[0]⟩ (p - (16 + (body.size : Int))) = some (zeroB (p - ((16 + body.size : Nat) : Int)).toNat) := by
    unfold strings_Repeat.f
    rw [if_pos ⟨by omega, by omega, by
      show 1 * (p - (16 + (body.size : Int))).toNat ≤ _
      omega⟩]
    unfold zeroB
    rw [show (p - (16 + (body.size : Int))).toNat = (p - ((16 + body.size : Nat) : Int)).toNat by omega]
  have hzs : (zeroB (p - ((16 + body.size : Nat) : Int)).toNat).size = (p - ((16 + body.size : Nat) : Int)).toNat := zeroB_size _
  obtain ⟨zr, hzr⟩ : ∃ x, zeroB (p - ((16 + body.size : Nat) : Int)).toNat = x := ⟨_, rfl⟩
  rw [hzr] at hrep hzs
  have HZ := Aside0.mk hzr
  have HREP := Aside0.mk hrep
  have z4 : zr.size = (p - ((16 + body.size : Nat) : Int)).toNat := hzs
  have z5 : (9223372036854775807 < 16 + (body.size : Int) + (zr.size : Int)) = False := by apply eq_false; omega
  have z6 : decide (16 + body.size + zr.size ≤ 9223372036854775807) = true := decide_eq_true (by omega)
  have z7 : 16 + body.size + zr.size ≤ 9223372036854775807 := by omega
  have Z4 := Aside0.mk z4
  clear hrep hzr hzs z4
  go_wp2_with (first | (go_at_call 45; refine (strings_Repeat.calls ⟨#[0]⟩ _ zr _ HREP.out).mono ?_; rintro e w6 ⟨rfl, hb6⟩; have hS6 := hS5.step hb6; clear hb6))
  have hB := hS6.below
  generalize hT : pre ++ fr ++ fs ++ (⟨#[0, 0, 0, 0]⟩ : ByteArray) ++ body ++ zr = t
  have hts : (t.size : Int) = p := by
    rw [← hT]
    simp only [ByteArray.size_append, hpz, hrz, hsz, Z4.out]
    have : (⟨#[0, 0, 0, 0]⟩ : ByteArray).size = 4 := rfl
    omega
  have HSUM := Aside0.mk (show sum_Table.f t = some (crcB t) by
    unfold sum_Table.f sum_More.f
    rw [if_pos (by omega)]
    rfl)
  obtain ⟨cr, hcr⟩ : ∃ x, crcB t = x := ⟨_, rfl⟩
  rw [hcr] at HSUM
  obtain ⟨fc, hfc⟩ : ∃ x, fourB cr = x := ⟨_, rfl⟩
  have HFC := Aside0.mk (show word_Four.f cr = some fc by rw [← hfc]; rfl)
  have hfz : fc.size = 4 := by rw [← hfc]; exact strOfNums_size _
  have HEND := Aside0.mk (show t.extract 0 12 ++ fc ++ t.extract 16 t.size = sealOf (rawPage k l c r s body p) by
    unfold sealOf
    have : rawPage k l c r s body p = t := by
      unfold rawPage
      rw [← hT, HPRE.out, HFR2.out, HFS2.out, HZ.out]
    rw [this, hcr, hfc])
  clear hcr hfc hT
  have t1 : (12 : Int) ≤ (t.size : Int) := by omega
  have t2 : (16 : Int) ≤ (t.size : Int) := by omega
  have t3 : (9223372036854775807 < 16 + ((t.size - 16 : Nat) : Int)) = False := by apply eq_false; omega
  have t6 : (9223372036854775807 < 16 + (t.size - 16)) = False := by apply eq_false; omega
  have t7 : (9223372036854775807 < 12 + fc.size + (t.size - 16)) = False := by apply eq_false; omega
  have t4 : decide (16 + (t.size - 16) ≤ 9223372036854775807) = true := decide_eq_true (by omega)
  have t5 : 16 + (t.size - 16) ≤ 9223372036854775807 := by omega
  have e12 : (t.extract 0 12).size = 12 := by rw [ByteArray.size_extract]; omega
  have e16 : (t.extract 16 t.size).size = t.size - 16 := by rw [ByteArray.size_extract]; omega
  clear hS2 hS2' hS3 hS3' hS4 hS4' hS5 hS5' hS6 hur hus hq hts
  go_region_held3 (fun W => Below w.heap.size w W)
    (first | assumption | exact below_drew hB)
    (first | (go_at_call 50; ((with_reducible refine (sum_Table.calls t cr _ HSUM.out).mono ?_); rintro e w7 ⟨rfl, hb7⟩; have hB2 := below_step (below_drew hB) hb7; clear hb7)) | (go_at_call 49; ((with_reducible refine (word_Four.calls cr fc _ HFC.out).mono ?_); rintro e w8 ⟨rfl, hb8⟩; have hB3 := below_step hB2 hb8; clear hb8)))
  go_wp2
  go_ret2
  exact ⟨by rw [← HEND.out]; rfl, hB3⟩
theorem headOk_is {k l c r s : Int} (h : headOk k l c r s = true) : (1 ≤ k ∧ k < 5) ∧ (0 ≤ l ∧ l < 256) ∧ (0 ≤ c ∧ c < 65536) ∧ (0 ≤ r ∧ r < 4096) ∧ (0 ≤ s ∧ s < 4096) := by
  unfold headOk inB at h
  simp at h
  omega
theorem faultN_zero {k l c r s : Int} {body : ByteArray} {p : Int} (h : faultN k l c r s body p = 0) : sizeOk p = true ∧ headOk k l c r s = true ∧ (body.size : Int) ≤ p - 16 := by
  unfold faultN at h
  by_cases h1 : sizeOk p = true
  · rw [if_pos h1] at h
    by_cases h2 : headOk k l c r s = true
    · rw [if_pos h2] at h
      by_cases h3 : p - 16 < (body.size : Int)
      · rw [if_pos h3] at h
        omega
      · exact ⟨h1, h2, by omega⟩
    · rw [if_neg h2] at h
      omega
  · rw [if_neg h1] at h
    omega
theorem head_Seal.calls (a0_0 : Int) (a0_1 : Int) (a0_2 : Int) (a0_3 : Int) (a0_4 : Int) (a1 : ByteArray) (a2 : Int) (r1 : ByteArray) (r2 : Int) (w : World) (h : head_Seal.f a0_0 a0_1 a0_2 a0_3 a0_4 a1 a2 = some (r1, r2)) :
    Calls Try.prog 30 #[.agg #[.int .i64 a0_0, .int .i64 a0_1, .int .i64 a0_2, .int .i64 a0_3, .int .i64 a0_4], .string a1, .int .i64 a2] w fun e w' => e = .returned (.tuple #[.string r1, .int .i64 r2]) ∧ Below w.heap.size w w' := by
  unfold head_Seal.f at h
  have h := Option.some.inj h
  rw [Prod.mk.injEq] at h
  obtain ⟨h1, h2⟩ := h
  by_cases h0 : faultN a0_0 a0_1 a0_2 a0_3 a0_4 a1 a2 = 0
  · rw [if_pos h0] at h1
    rw [h0] at h2
    subst h1
    subst h2
    obtain ⟨q1, q2, q3⟩ := faultN_zero h0
    have q4 := sizeOk_bounds q1
    obtain ⟨q5, q6, q7, q8, q9⟩ := headOk_is q2
    exact head_Seal_yes a0_0 a0_1 a0_2 a0_3 a0_4 a1 a2 w h0 (by omega) q6 q7 q8 q9 q4 q3
  · rw [if_neg h0] at h1
    subst h1
    exact head_Seal_no a0_0 a0_1 a0_2 a0_3 a0_4 a1 a2 w r2 h2 (by omega)


end Go.Proofs.Ytmheajenlhlbhaa.X


namespace Go.Proofs.Ytmheajenlhlbhaa.X
open Go.RowKit Go.Proofs.YtmheajenlhlbhaaW.PrintWords Go.Proofs.YtmheajenlhlbhaaW.PrintLast Go.Proofs.YtmheajenlhlbhaaW.PrintMore
attribute [local go_sem] max2_int min2_int max_two min_two max_three min_three max_four min_four   -- for this text's walks alone
set_option linter.unusedVariables false
set_option linter.unusedSimpArgs false

/-! ### leaf_Encode: function 17 -/
def leaf_Encode.f (a0_0 : Int) (a0_1 : Int) (a0_2 : ByteArray) (l0_3 : List (S35)) (a1 : Int) : Option (ByteArray × Int) := (disk_Size.f a1).bind fun t337 => (if t337 = true then ((leaf_May.f a0_0 a0_1 a0_2 l0_3 a1).bind fun t338 => (if t338 = true then ((leaf_parts.f a0_0 a0_1 a0_2 l0_3).bind fun bt339 => ((slot_Pack.f (wrap64 (a1 - 16)) bt339.1 bt339.2).bind fun bt343 => (if bt343.2 = 0 then ((head_Seal.f 2 0 (l0_3.length : Int) a0_1 a0_0 bt343.1 a1).bind fun bt345 => (some (bt345.1, bt345.2))) else (some ((⟨#[]⟩ : ByteArray), bt343.2))))) else (some ((⟨#[]⟩ : ByteArray), 3)))) else (some ((⟨#[]⟩ : ByteArray), 4)))
set_option maxHeartbeats 8000000 in
set_option maxRecDepth 100000 in
theorem leaf_Encode.calls (a0_0 : Int) (a0_1 : Int) (a0_2 : ByteArray) (A0_3 : Option Addr) (c0_3 : Nat) (l0_3 : List (S35)) (a1 : Int) (r1 : ByteArray) (r2 : Int) (w : World) (hr0_3 : Kd.C k35 w A0_3 l0_3.length l0_3) (hc0_3 : l0_3.length ≤ c0_3) (h : leaf_Encode.f a0_0 a0_1 a0_2 l0_3 a1 = some (r1, r2)) :
    Calls Try.prog 17 #[.agg #[.int .i64 a0_0, .int .i64 a0_1, .string a0_2, .slice A0_3 l0_3.length c0_3], .int .i64 a1] w fun e w' => e = .returned (.tuple #[.string r1, .int .i64 r2]) ∧ Below w.heap.size w w' := by
  have hu46 := Try.underlying46
  have hu66 := Try.underlying66
  have HR0_3 := Aside0.mk hr0_3
  have HC0_3 := Aside0.mk hc0_3
  clear hr0_3 hc0_3
  have HB := Aside0.mk (Below.refl w.heap.size w)
  have H : ((disk_Size.f a1).bind fun t337 => (if t337 = true then ((leaf_May.f a0_0 a0_1 a0_2 l0_3 a1).bind fun t338 => (if t338 = true then ((leaf_parts.f a0_0 a0_1 a0_2 l0_3).bind fun bt339 => ((slot_Pack.f (wrap64 (a1 - 16)) bt339.1 bt339.2).bind fun bt343 => (if bt343.2 = 0 then ((head_Seal.f 2 0 (l0_3.length : Int) a0_1 a0_0 bt343.1 a1).bind fun bt345 => (some (bt345.1, bt345.2))) else (some ((⟨#[]⟩ : ByteArray), bt343.2))))) else (some ((⟨#[]⟩ : ByteArray), 3)))) else (some ((⟨#[]⟩ : ByteArray), 4)))) = some (r1, r2) := h
  clear h
  replace H := Option.bind_eq_some_iff.mp H
  obtain ⟨t337, A30, H⟩ := H
  replace H : (if t337 = true then ((leaf_May.f a0_0 a0_1 a0_2 l0_3 a1).bind fun t338 => (if t338 = true then ((leaf_parts.f a0_0 a0_1 a0_2 l0_3).bind fun bt339 => ((slot_Pack.f (wrap64 (a1 - 16)) bt339.1 bt339.2).bind fun bt343 => (if bt343.2 = 0 then ((head_Seal.f 2 0 (l0_3.length : Int) a0_1 a0_0 bt343.1 a1).bind fun bt345 => (some (bt345.1, bt345.2))) else (some ((⟨#[]⟩ : ByteArray), bt343.2))))) else (some ((⟨#[]⟩ : ByteArray), 3)))) else (some ((⟨#[]⟩ : ByteArray), 4))) = some (r1, r2) := H
  have A3 := Aside0.mk A30
  clear A30
  by_cases c4 : t337 = true
  · subst c4
    have H1 : ((leaf_May.f a0_0 a0_1 a0_2 l0_3 a1).bind fun t338 => (if t338 = true then ((leaf_parts.f a0_0 a0_1 a0_2 l0_3).bind fun bt339 => ((slot_Pack.f (wrap64 (a1 - 16)) bt339.1 bt339.2).bind fun bt343 => (if bt343.2 = 0 then ((head_Seal.f 2 0 (l0_3.length : Int) a0_1 a0_0 bt343.1 a1).bind fun bt345 => (some (bt345.1, bt345.2))) else (some ((⟨#[]⟩ : ByteArray), bt343.2))))) else (some ((⟨#[]⟩ : ByteArray), 3)))) = some (r1, r2) := by rw [if_pos rfl] at H; exact H
    clear H
    have H := H1
    clear H1
    replace H := Option.bind_eq_some_iff.mp H
    obtain ⟨t338, A50, H⟩ := H
    replace H : (if t338 = true then ((leaf_parts.f a0_0 a0_1 a0_2 l0_3).bind fun bt339 => ((slot_Pack.f (wrap64 (a1 - 16)) bt339.1 bt339.2).bind fun bt343 => (if bt343.2 = 0 then ((head_Seal.f 2 0 (l0_3.length : Int) a0_1 a0_0 bt343.1 a1).bind fun bt345 => (some (bt345.1, bt345.2))) else (some ((⟨#[]⟩ : ByteArray), bt343.2))))) else (some ((⟨#[]⟩ : ByteArray), 3))) = some (r1, r2) := H
    have A5 := Aside0.mk A50
    clear A50
    by_cases c6 : t338 = true
    · subst c6
      have H1 : ((leaf_parts.f a0_0 a0_1 a0_2 l0_3).bind fun bt339 => ((slot_Pack.f (wrap64 (a1 - 16)) bt339.1 bt339.2).bind fun bt343 => (if bt343.2 = 0 then ((head_Seal.f 2 0 (l0_3.length : Int) a0_1 a0_0 bt343.1 a1).bind fun bt345 => (some (bt345.1, bt345.2))) else (some ((⟨#[]⟩ : ByteArray), bt343.2))))) = some (r1, r2) := by rw [if_pos rfl] at H; exact H
      clear H
      have H := H1
      clear H1
      replace H := Option.bind_eq_some_iff.mp H
      obtain ⟨⟨t339, t340⟩, A70, H⟩ := H
      replace H : ((slot_Pack.f (wrap64 (a1 - 16)) t339 t340).bind fun bt343 => (if bt343.2 = 0 then ((head_Seal.f 2 0 (l0_3.length : Int) a0_1 a0_0 bt343.1 a1).bind fun bt345 => (some (bt345.1, bt345.2))) else (some ((⟨#[]⟩ : ByteArray), bt343.2)))) = some (r1, r2) := H
      have A7 := Aside0.mk A70
      clear A70
      replace H := Option.bind_eq_some_iff.mp H
      obtain ⟨⟨t343, t344⟩, A80, H⟩ := H
      replace H : (if t344 = 0 then ((head_Seal.f 2 0 (l0_3.length : Int) a0_1 a0_0 t343 a1).bind fun bt345 => (some (bt345.1, bt345.2))) else (some ((⟨#[]⟩ : ByteArray), t344))) = some (r1, r2) := H
      have A8 := Aside0.mk A80
      clear A80
      by_cases c9 : t344 = 0
      · rw [if_pos c9] at H
        have c9b0 : (t344 == 0) = true := beq_iff_eq.mpr c9
        have c9b1 : (t344 != 0) = false := bne_eq_false_iff_eq.mpr c9
        clear c9
        replace H := Option.bind_eq_some_iff.mp H
        obtain ⟨⟨t345, t346⟩, A100, H⟩ := H
        replace H : (some (t345, t346)) = some (r1, r2) := H
        have A10 := Aside0.mk A100
        clear A100
        simp only [Option.some.injEq, Prod.mk.injEq] at H
        obtain ⟨rfl, rfl⟩ := H
        go_enter Try.func17, Try.ntmps17
        go_wp2_with (first | ((with_reducible refine gate_dst (N := 2) rfl ?_); refine box_event ?hg (N := 2) ?hd (cs := #[.int .i64 a0_0, .int .i64 a0_1, .string a0_2, .slice A0_3 l0_3.length c0_3]) (t := 46) ?hr ?_; (case hd => rfl); (case hg => rfl); (case hr => first | (go_simp; done) | (go_simp; rfl)); intro gb336 hg w11 hbox hb; have n0_ := Aside0.mk (below_step (by repeat (first | (with_reducible first | exact HB.out | apply below_alloc | apply pw_below_drewN | apply below_drew1) | exact HB.out)) hb); have n1_ := Aside0.mk (hbox); have n2_ := Aside0.mk ((by rw [hg]; exact (below_size (by repeat (first | (with_reducible first | exact HB.out | apply below_alloc | apply pw_below_drewN | apply below_drew1) | exact HB.out))) : w.heap.size ≤ gb336)); have n3_ := Aside0.mk ((by rw [hg]; exact (below_size (by repeat (first | (with_reducible first | exact HB.out | apply below_alloc | apply pw_below_drewN | apply below_drew1) | exact HB.out))) : w.heap.size ≤ gb336)); clear HB; have HB := n0_; have BK336 := n1_; have GW336 := n2_; have GE336 := n3_; clear n0_ n1_ n2_ n3_; clear hb hbox hg) | ((with_reducible refine gate_callee (f := 25) rfl ?_); refine goesL_ (some 11) rfl rfl Try.func25 (by kernel_rfl) rfl #[.int .i64 a1] rfl (by (try simp only [List.map_toArray, List.map_cons, List.map_nil]); first | done | rfl | (simp only [List.length_drop, List.length_take]; rfl)) ?_; (with_reducible refine (disk_Size.calls a1 true _ A3.out).mono ?_); rintro e w12 ⟨rfl, hb⟩; refine ⟨_, rfl, ?_⟩; have n0_ := Aside0.mk (blk_below (g := gb336) (o := .cells #[.int .i64 a0_0, .int .i64 a0_1, .string a0_2, .slice A0_3 l0_3.length c0_3] 46 (0, 0)) (by (with_reducible repeat (first | refine blk_drewN ?_ _ | refine blk_drew ?_ | refine blk_alloc ?_ _)); exact BK336.out) hb); have n1_ := Aside0.mk (below_step (by repeat (first | (with_reducible first | exact HB.out | apply below_alloc | apply pw_below_drewN | apply below_drew1 | refine below_set ?_ GE336.out) | exact HB.out)) hb); clear BK336; clear HB; have BK336 := n0_; have HB := n1_; clear n0_ n1_; (try clear hb); (try clear hb2); (try clear hk); (try clear hi); have hcz13_0 : w12.cell? ⟨gb336, 0, none⟩ = some (.int .i64 a0_0) := (blk_cell BK336.out 0).trans rfl; have hcz13_1 : w12.cell? ⟨gb336, 1, none⟩ = some (.int .i64 a0_1) := (blk_cell BK336.out 1).trans rfl; have hcz13_2 : w12.cell? ⟨gb336, 2, none⟩ = some (.string a0_2) := (blk_cell BK336.out 2).trans rfl; have hcz13_3 : w12.cell? ⟨gb336, 3, none⟩ = some (.slice A0_3 l0_3.length c0_3) := (blk_cell BK336.out 3).trans rfl; have hfz13_0 := blk_frozen BK336.out 0; have hfz13_1 := blk_frozen BK336.out 1; have hfz13_2 := blk_frozen BK336.out 2; have hfz13_3 := blk_frozen BK336.out 3) | ((with_reducible refine gate_callee (f := 27) rfl ?_); refine goesL_ (some 15) rfl rfl Try.func27 (by kernel_rfl) rfl #[.agg #[.int .i64 a0_0, .int .i64 a0_1, .string a0_2, .slice A0_3 l0_3.length c0_3], .int .i64 a1] rfl (by (try simp only [List.map_toArray, List.map_cons, List.map_nil]); first | done | rfl | (simp only [List.length_drop, List.length_take]; rfl)) ?_; (with_reducible refine (leaf_May.calls a0_0 a0_1 a0_2 _ _ l0_3 a1 true _ ?side1 ?side2 A5.out).mono ?_); (case side1 => repeat (first | exact (Kd.C_below HR0_3.out HB.out) | (with_reducible refine Kd.C_alloc ?_ _) | (with_reducible refine Kd.C_drewN ?_ _) | (with_reducible refine Kd.C_drew ?_))); (case side2 => exact HC0_3.out); rintro e w14 ⟨rfl, hb⟩; refine ⟨_, rfl, ?_⟩; have n0_ := Aside0.mk (blk_below (g := gb336) (o := .cells #[.int .i64 a0_0, .int .i64 a0_1, .string a0_2, .slice A0_3 l0_3.length c0_3] 46 (0, 0)) (by (with_reducible repeat (first | refine blk_drewN ?_ _ | refine blk_drew ?_ | refine blk_alloc ?_ _)); exact BK336.out) hb); have n1_ := Aside0.mk (below_step (by repeat (first | (with_reducible first | exact HB.out | apply below_alloc | apply pw_below_drewN | apply below_drew1 | refine below_set ?_ GE336.out) | exact HB.out)) hb); clear BK336; clear HB; have BK336 := n0_; have HB := n1_; clear n0_ n1_; (try clear hb); (try clear hb2); (try clear hk); (try clear hi); have hcz15_0 : w14.cell? ⟨gb336, 0, none⟩ = some (.int .i64 a0_0) := (blk_cell BK336.out 0).trans rfl; have hcz15_1 : w14.cell? ⟨gb336, 1, none⟩ = some (.int .i64 a0_1) := (blk_cell BK336.out 1).trans rfl; have hcz15_2 : w14.cell? ⟨gb336, 2, none⟩ = some (.string a0_2) := (blk_cell BK336.out 2).trans rfl; have hcz15_3 : w14.cell? ⟨gb336, 3, none⟩ = some (.slice A0_3 l0_3.length c0_3) := (blk_cell BK336.out 3).trans rfl; have hfz15_0 := blk_frozen BK336.out 0; have hfz15_1 := blk_frozen BK336.out 1; have hfz15_2 := blk_frozen BK336.out 2; have hfz15_3 := blk_frozen BK336.out 3) | ((with_reducible refine gate_callee (f := 28) rfl ?_); refine goesL_ (some 19) rfl rfl Try.func28 (by kernel_rfl) rfl #[.agg #[.int .i64 a0_0, .int .i64 a0_1, .string a0_2, .slice A0_3 l0_3.length c0_3]] rfl (by (try simp only [List.map_toArray, List.map_cons, List.map_nil]); first | done | rfl | (simp only [List.length_drop, List.length_take]; rfl)) ?_; (with_reducible refine (leaf_parts.calls a0_0 a0_1 a0_2 _ _ l0_3 t339 t340 _ ?side1 ?side2 A7.out).mono ?_); (case side1 => repeat (first | exact (Kd.C_below HR0_3.out HB.out) | (with_reducible refine Kd.C_alloc ?_ _) | (with_reducible refine Kd.C_drewN ?_ _) | (with_reducible refine Kd.C_drew ?_))); (case side2 => exact HC0_3.out); rintro e w16 ⟨v341, rfl, ho0, hb⟩; refine ⟨_, rfl, ?_⟩; have n0_ := Aside0.mk (Kd.R_lower ho0 (below_size (by repeat (first | (with_reducible first | exact HB.out | apply below_alloc | apply pw_below_drewN | apply below_drew1 | refine below_set ?_ GE336.out) | exact HB.out)))); have n1_ := Aside0.mk (blk_below (g := gb336) (o := .cells #[.int .i64 a0_0, .int .i64 a0_1, .string a0_2, .slice A0_3 l0_3.length c0_3] 46 (0, 0)) (by (with_reducible repeat (first | refine blk_drewN ?_ _ | refine blk_drew ?_ | refine blk_alloc ?_ _)); exact BK336.out) hb); have n2_ := Aside0.mk (below_step (by repeat (first | (with_reducible first | exact HB.out | apply below_alloc | apply pw_below_drewN | apply below_drew1 | refine below_set ?_ GE336.out) | exact HB.out)) hb); clear BK336; clear HB; have HO342 := n0_; have BK336 := n1_; have HB := n2_; clear n0_ n1_ n2_; (try clear hb); (try clear hb2); (try clear hk); (try clear hi); (try clear ho0); obtain ⟨Ao17, co17, eo17⟩ := Kd.R_slice HO342.out; subst eo17) | ((with_reducible refine gate_callee (f := 29) rfl ?_); refine goesL_ (some 27) rfl rfl Try.func29 (by kernel_rfl) rfl #[.int .i64 (wrap64 (a1 - 16)), .string t339, .slice Ao17 t340.length co17] rfl (by (try simp only [List.map_toArray, List.map_cons, List.map_nil]); first | done | rfl | (simp only [List.length_drop, List.length_take]; rfl)) ?_; (with_reducible refine (slot_Pack.calls (wrap64 (a1 - 16)) t339 _ _ t340 t343 t344 _ ?side1 ?side2 A8.out).mono ?_); (case side1 => repeat (first | exact (Kd.R_reads' HO342.out).2.2 | (with_reducible refine Kd.C_alloc ?_ _) | (with_reducible refine Kd.C_drewN ?_ _) | (with_reducible refine Kd.C_drew ?_))); (case side2 => exact (Kd.R_reads' HO342.out).2.1); rintro e w18 ⟨rfl, hb⟩; refine ⟨_, rfl, ?_⟩; have n0_ := Aside0.mk (Kd.R_below (by (with_reducible repeat (first | apply Kd.R_alloc | apply Kd.R_drewN | apply Kd.R_drew)); exact HO342.out) hb); have n1_ := Aside0.mk (blk_below (g := gb336) (o := .cells #[.int .i64 a0_0, .int .i64 a0_1, .string a0_2, .slice A0_3 l0_3.length c0_3] 46 (0, 0)) (by (with_reducible repeat (first | refine blk_drewN ?_ _ | refine blk_drew ?_ | refine blk_alloc ?_ _)); exact BK336.out) hb); have n2_ := Aside0.mk (below_step (by repeat (first | (with_reducible first | exact HB.out | apply below_alloc | apply pw_below_drewN | apply below_drew1 | refine below_set ?_ GE336.out) | exact HB.out)) hb); clear HO342; clear BK336; clear HB; have HO342 := n0_; have BK336 := n1_; have HB := n2_; clear n0_ n1_ n2_; (try clear hb); (try clear hb2); (try clear hk); (try clear hi); have hcz19_0 : w18.cell? ⟨gb336, 0, none⟩ = some (.int .i64 a0_0) := (blk_cell BK336.out 0).trans rfl; have hcz19_1 : w18.cell? ⟨gb336, 1, none⟩ = some (.int .i64 a0_1) := (blk_cell BK336.out 1).trans rfl; have hcz19_2 : w18.cell? ⟨gb336, 2, none⟩ = some (.string a0_2) := (blk_cell BK336.out 2).trans rfl; have hcz19_3 : w18.cell? ⟨gb336, 3, none⟩ = some (.slice A0_3 l0_3.length c0_3) := (blk_cell BK336.out 3).trans rfl; have hfz19_0 := blk_frozen BK336.out 0; have hfz19_1 := blk_frozen BK336.out 1; have hfz19_2 := blk_frozen BK336.out 2; have hfz19_3 := blk_frozen BK336.out 3) | ((with_reducible refine gate_callee (f := 30) rfl ?_); refine goesL_ (some 43) rfl rfl Try.func30 (by kernel_rfl) rfl #[.agg #[.int .i64 2, .int .i64 0, .int .i64 (l0_3.length : Int), .int .i64 a0_1, .int .i64 a0_0], .string t343, .int .i64 a1] rfl (by (try simp only [List.map_toArray, List.map_cons, List.map_nil]); first | done | rfl | (simp only [List.length_drop, List.length_take]; rfl)) ?_; (with_reducible refine (head_Seal.calls 2 0 (l0_3.length : Int) a0_1 a0_0 t343 a1 t345 t346 _ A10.out).mono ?_); rintro e w20 ⟨rfl, hb⟩; refine ⟨_, rfl, ?_⟩; have n0_ := Aside0.mk (Kd.R_below (by (with_reducible repeat (first | apply Kd.R_alloc | apply Kd.R_drewN | apply Kd.R_drew)); exact HO342.out) hb); have n1_ := Aside0.mk (blk_below (g := gb336) (o := .cells #[.int .i64 a0_0, .int .i64 a0_1, .string a0_2, .slice A0_3 l0_3.length c0_3] 46 (0, 0)) (by (with_reducible repeat (first | refine blk_drewN ?_ _ | refine blk_drew ?_ | refine blk_alloc ?_ _)); exact BK336.out) hb); have n2_ := Aside0.mk (below_step (by repeat (first | (with_reducible first | exact HB.out | apply below_alloc | apply pw_below_drewN | apply below_drew1 | refine below_set ?_ GE336.out) | exact HB.out)) hb); clear HO342; clear BK336; clear HB; have HO342 := n0_; have BK336 := n1_; have HB := n2_; clear n0_ n1_ n2_; (try clear hb); (try clear hb2); (try clear hk); (try clear hi)))
        go_ret2
        exact ⟨by first | rfl | (simp [errW_none, errW_some] <;> rfl) | (simp [*, errW_none, errW_some] <;> rfl), by repeat (first | (with_reducible first | exact HB.out | apply below_alloc | apply pw_below_drewN | apply below_drew1 | refine below_set ?_ GE336.out) | exact HB.out)⟩
      · rw [if_neg c9] at H
        have c9b0 : (t344 == 0) = false := beq_eq_false_iff_ne.mpr c9
        have c9b1 : (t344 != 0) = true := bne_iff_ne.mpr c9
        simp only [Option.some.injEq, Prod.mk.injEq] at H
        obtain ⟨rfl, rfl⟩ := H
        go_enter Try.func17, Try.ntmps17
        go_wp2_with (first | ((with_reducible refine gate_dst (N := 2) rfl ?_); refine box_event ?hg (N := 2) ?hd (cs := #[.int .i64 a0_0, .int .i64 a0_1, .string a0_2, .slice A0_3 l0_3.length c0_3]) (t := 46) ?hr ?_; (case hd => rfl); (case hg => rfl); (case hr => first | (go_simp; done) | (go_simp; rfl)); intro gb336 hg w21 hbox hb; have n0_ := Aside0.mk (below_step (by repeat (first | (with_reducible first | exact HB.out | apply below_alloc | apply pw_below_drewN | apply below_drew1) | exact HB.out)) hb); have n1_ := Aside0.mk (hbox); have n2_ := Aside0.mk ((by rw [hg]; exact (below_size (by repeat (first | (with_reducible first | exact HB.out | apply below_alloc | apply pw_below_drewN | apply below_drew1) | exact HB.out))) : w.heap.size ≤ gb336)); have n3_ := Aside0.mk ((by rw [hg]; exact (below_size (by repeat (first | (with_reducible first | exact HB.out | apply below_alloc | apply pw_below_drewN | apply below_drew1) | exact HB.out))) : w.heap.size ≤ gb336)); clear HB; have HB := n0_; have BK336 := n1_; have GW336 := n2_; have GE336 := n3_; clear n0_ n1_ n2_ n3_; clear hb hbox hg) | ((with_reducible refine gate_callee (f := 25) rfl ?_); refine goesL_ (some 11) rfl rfl Try.func25 (by kernel_rfl) rfl #[.int .i64 a1] rfl (by (try simp only [List.map_toArray, List.map_cons, List.map_nil]); first | done | rfl | (simp only [List.length_drop, List.length_take]; rfl)) ?_; (with_reducible refine (disk_Size.calls a1 true _ A3.out).mono ?_); rintro e w22 ⟨rfl, hb⟩; refine ⟨_, rfl, ?_⟩; have n0_ := Aside0.mk (blk_below (g := gb336) (o := .cells #[.int .i64 a0_0, .int .i64 a0_1, .string a0_2, .slice A0_3 l0_3.length c0_3] 46 (0, 0)) (by (with_reducible repeat (first | refine blk_drewN ?_ _ | refine blk_drew ?_ | refine blk_alloc ?_ _)); exact BK336.out) hb); have n1_ := Aside0.mk (below_step (by repeat (first | (with_reducible first | exact HB.out | apply below_alloc | apply pw_below_drewN | apply below_drew1 | refine below_set ?_ GE336.out) | exact HB.out)) hb); clear BK336; clear HB; have BK336 := n0_; have HB := n1_; clear n0_ n1_; (try clear hb); (try clear hb2); (try clear hk); (try clear hi); have hcz23_0 : w22.cell? ⟨gb336, 0, none⟩ = some (.int .i64 a0_0) := (blk_cell BK336.out 0).trans rfl; have hcz23_1 : w22.cell? ⟨gb336, 1, none⟩ = some (.int .i64 a0_1) := (blk_cell BK336.out 1).trans rfl; have hcz23_2 : w22.cell? ⟨gb336, 2, none⟩ = some (.string a0_2) := (blk_cell BK336.out 2).trans rfl; have hcz23_3 : w22.cell? ⟨gb336, 3, none⟩ = some (.slice A0_3 l0_3.length c0_3) := (blk_cell BK336.out 3).trans rfl; have hfz23_0 := blk_frozen BK336.out 0; have hfz23_1 := blk_frozen BK336.out 1; have hfz23_2 := blk_frozen BK336.out 2; have hfz23_3 := blk_frozen BK336.out 3) | ((with_reducible refine gate_callee (f := 27) rfl ?_); refine goesL_ (some 15) rfl rfl Try.func27 (by kernel_rfl) rfl #[.agg #[.int .i64 a0_0, .int .i64 a0_1, .string a0_2, .slice A0_3 l0_3.length c0_3], .int .i64 a1] rfl (by (try simp only [List.map_toArray, List.map_cons, List.map_nil]); first | done | rfl | (simp only [List.length_drop, List.length_take]; rfl)) ?_; (with_reducible refine (leaf_May.calls a0_0 a0_1 a0_2 _ _ l0_3 a1 true _ ?side1 ?side2 A5.out).mono ?_); (case side1 => repeat (first | exact (Kd.C_below HR0_3.out HB.out) | (with_reducible refine Kd.C_alloc ?_ _) | (with_reducible refine Kd.C_drewN ?_ _) | (with_reducible refine Kd.C_drew ?_))); (case side2 => exact HC0_3.out); rintro e w24 ⟨rfl, hb⟩; refine ⟨_, rfl, ?_⟩; have n0_ := Aside0.mk (blk_below (g := gb336) (o := .cells #[.int .i64 a0_0, .int .i64 a0_1, .string a0_2, .slice A0_3 l0_3.length c0_3] 46 (0, 0)) (by (with_reducible repeat (first | refine blk_drewN ?_ _ | refine blk_drew ?_ | refine blk_alloc ?_ _)); exact BK336.out) hb); have n1_ := Aside0.mk (below_step (by repeat (first | (with_reducible first | exact HB.out | apply below_alloc | apply pw_below_drewN | apply below_drew1 | refine below_set ?_ GE336.out) | exact HB.out)) hb); clear BK336; clear HB; have BK336 := n0_; have HB := n1_; clear n0_ n1_; (try clear hb); (try clear hb2); (try clear hk); (try clear hi); have hcz25_0 : w24.cell? ⟨gb336, 0, none⟩ = some (.int .i64 a0_0) := (blk_cell BK336.out 0).trans rfl; have hcz25_1 : w24.cell? ⟨gb336, 1, none⟩ = some (.int .i64 a0_1) := (blk_cell BK336.out 1).trans rfl; have hcz25_2 : w24.cell? ⟨gb336, 2, none⟩ = some (.string a0_2) := (blk_cell BK336.out 2).trans rfl; have hcz25_3 : w24.cell? ⟨gb336, 3, none⟩ = some (.slice A0_3 l0_3.length c0_3) := (blk_cell BK336.out 3).trans rfl; have hfz25_0 := blk_frozen BK336.out 0; have hfz25_1 := blk_frozen BK336.out 1; have hfz25_2 := blk_frozen BK336.out 2; have hfz25_3 := blk_frozen BK336.out 3) | ((with_reducible refine gate_callee (f := 28) rfl ?_); refine goesL_ (some 19) rfl rfl Try.func28 (by kernel_rfl) rfl #[.agg #[.int .i64 a0_0, .int .i64 a0_1, .string a0_2, .slice A0_3 l0_3.length c0_3]] rfl (by (try simp only [List.map_toArray, List.map_cons, List.map_nil]); first | done | rfl | (simp only [List.length_drop, List.length_take]; rfl)) ?_; (with_reducible refine (leaf_parts.calls a0_0 a0_1 a0_2 _ _ l0_3 t339 t340 _ ?side1 ?side2 A7.out).mono ?_); (case side1 => repeat (first | exact (Kd.C_below HR0_3.out HB.out) | (with_reducible refine Kd.C_alloc ?_ _) | (with_reducible refine Kd.C_drewN ?_ _) | (with_reducible refine Kd.C_drew ?_))); (case side2 => exact HC0_3.out); rintro e w26 ⟨v341, rfl, ho0, hb⟩; refine ⟨_, rfl, ?_⟩; have n0_ := Aside0.mk (Kd.R_lower ho0 (below_size (by repeat (first | (with_reducible first | exact HB.out | apply below_alloc | apply pw_below_drewN | apply below_drew1 | refine below_set ?_ GE336.out) | exact HB.out)))); have n1_ := Aside0.mk (blk_below (g := gb336) (o := .cells #[.int .i64 a0_0, .int .i64 a0_1, .string a0_2, .slice A0_3 l0_3.length c0_3] 46 (0, 0)) (by (with_reducible repeat (first | refine blk_drewN ?_ _ | refine blk_drew ?_ | refine blk_alloc ?_ _)); exact BK336.out) hb); have n2_ := Aside0.mk (below_step (by repeat (first | (with_reducible first | exact HB.out | apply below_alloc | apply pw_below_drewN | apply below_drew1 | refine below_set ?_ GE336.out) | exact HB.out)) hb); clear BK336; clear HB; have HO342 := n0_; have BK336 := n1_; have HB := n2_; clear n0_ n1_ n2_; (try clear hb); (try clear hb2); (try clear hk); (try clear hi); (try clear ho0); obtain ⟨Ao27, co27, eo27⟩ := Kd.R_slice HO342.out; subst eo27) | ((with_reducible refine gate_callee (f := 29) rfl ?_); refine goesL_ (some 27) rfl rfl Try.func29 (by kernel_rfl) rfl #[.int .i64 (wrap64 (a1 - 16)), .string t339, .slice Ao27 t340.length co27] rfl (by (try simp only [List.map_toArray, List.map_cons, List.map_nil]); first | done | rfl | (simp only [List.length_drop, List.length_take]; rfl)) ?_; (with_reducible refine (slot_Pack.calls (wrap64 (a1 - 16)) t339 _ _ t340 t343 t344 _ ?side1 ?side2 A8.out).mono ?_); (case side1 => repeat (first | exact (Kd.R_reads' HO342.out).2.2 | (with_reducible refine Kd.C_alloc ?_ _) | (with_reducible refine Kd.C_drewN ?_ _) | (with_reducible refine Kd.C_drew ?_))); (case side2 => exact (Kd.R_reads' HO342.out).2.1); rintro e w28 ⟨rfl, hb⟩; refine ⟨_, rfl, ?_⟩; have n0_ := Aside0.mk (Kd.R_below (by (with_reducible repeat (first | apply Kd.R_alloc | apply Kd.R_drewN | apply Kd.R_drew)); exact HO342.out) hb); have n1_ := Aside0.mk (blk_below (g := gb336) (o := .cells #[.int .i64 a0_0, .int .i64 a0_1, .string a0_2, .slice A0_3 l0_3.length c0_3] 46 (0, 0)) (by (with_reducible repeat (first | refine blk_drewN ?_ _ | refine blk_drew ?_ | refine blk_alloc ?_ _)); exact BK336.out) hb); have n2_ := Aside0.mk (below_step (by repeat (first | (with_reducible first | exact HB.out | apply below_alloc | apply pw_below_drewN | apply below_drew1 | refine below_set ?_ GE336.out) | exact HB.out)) hb); clear HO342; clear BK336; clear HB; have HO342 := n0_; have BK336 := n1_; have HB := n2_; clear n0_ n1_ n2_; (try clear hb); (try clear hb2); (try clear hk); (try clear hi)))
        go_ret2
        exact ⟨by first | rfl | (simp [errW_none, errW_some] <;> rfl) | (simp [*, errW_none, errW_some] <;> rfl), by repeat (first | (with_reducible first | exact HB.out | apply below_alloc | apply pw_below_drewN | apply below_drew1 | refine below_set ?_ GE336.out) | exact HB.out)⟩
    · replace c6 := Bool.eq_false_iff.mpr c6
      subst c6
      have H1 : (some ((⟨#[]⟩ : ByteArray), 3)) = some (r1, r2) := by rw [if_neg (show ¬ (false = true) by decide)] at H; exact H
      clear H
      have H := H1
      clear H1
      simp only [Option.some.injEq, Prod.mk.injEq] at H
      obtain ⟨rfl, rfl⟩ := H
      go_enter Try.func17, Try.ntmps17
      go_wp2_with (first | ((with_reducible refine gate_dst (N := 2) rfl ?_); refine box_event ?hg (N := 2) ?hd (cs := #[.int .i64 a0_0, .int .i64 a0_1, .string a0_2, .slice A0_3 l0_3.length c0_3]) (t := 46) ?hr ?_; (case hd => rfl); (case hg => rfl); (case hr => first | (go_simp; done) | (go_simp; rfl)); intro gb336 hg w29 hbox hb; have n0_ := Aside0.mk (below_step (by repeat (first | (with_reducible first | exact HB.out | apply below_alloc | apply pw_below_drewN | apply below_drew1) | exact HB.out)) hb); have n1_ := Aside0.mk (hbox); have n2_ := Aside0.mk ((by rw [hg]; exact (below_size (by repeat (first | (with_reducible first | exact HB.out | apply below_alloc | apply pw_below_drewN | apply below_drew1) | exact HB.out))) : w.heap.size ≤ gb336)); have n3_ := Aside0.mk ((by rw [hg]; exact (below_size (by repeat (first | (with_reducible first | exact HB.out | apply below_alloc | apply pw_below_drewN | apply below_drew1) | exact HB.out))) : w.heap.size ≤ gb336)); clear HB; have HB := n0_; have BK336 := n1_; have GW336 := n2_; have GE336 := n3_; clear n0_ n1_ n2_ n3_; clear hb hbox hg) | ((with_reducible refine gate_callee (f := 25) rfl ?_); refine goesL_ (some 11) rfl rfl Try.func25 (by kernel_rfl) rfl #[.int .i64 a1] rfl (by (try simp only [List.map_toArray, List.map_cons, List.map_nil]); first | done | rfl | (simp only [List.length_drop, List.length_take]; rfl)) ?_; (with_reducible refine (disk_Size.calls a1 true _ A3.out).mono ?_); rintro e w30 ⟨rfl, hb⟩; refine ⟨_, rfl, ?_⟩; have n0_ := Aside0.mk (blk_below (g := gb336) (o := .cells #[.int .i64 a0_0, .int .i64 a0_1, .string a0_2, .slice A0_3 l0_3.length c0_3] 46 (0, 0)) (by (with_reducible repeat (first | refine blk_drewN ?_ _ | refine blk_drew ?_ | refine blk_alloc ?_ _)); exact BK336.out) hb); have n1_ := Aside0.mk (below_step (by repeat (first | (with_reducible first | exact HB.out | apply below_alloc | apply pw_below_drewN | apply below_drew1 | refine below_set ?_ GE336.out) | exact HB.out)) hb); clear BK336; clear HB; have BK336 := n0_; have HB := n1_; clear n0_ n1_; (try clear hb); (try clear hb2); (try clear hk); (try clear hi); have hcz31_0 : w30.cell? ⟨gb336, 0, none⟩ = some (.int .i64 a0_0) := (blk_cell BK336.out 0).trans rfl; have hcz31_1 : w30.cell? ⟨gb336, 1, none⟩ = some (.int .i64 a0_1) := (blk_cell BK336.out 1).trans rfl; have hcz31_2 : w30.cell? ⟨gb336, 2, none⟩ = some (.string a0_2) := (blk_cell BK336.out 2).trans rfl; have hcz31_3 : w30.cell? ⟨gb336, 3, none⟩ = some (.slice A0_3 l0_3.length c0_3) := (blk_cell BK336.out 3).trans rfl; have hfz31_0 := blk_frozen BK336.out 0; have hfz31_1 := blk_frozen BK336.out 1; have hfz31_2 := blk_frozen BK336.out 2; have hfz31_3 := blk_frozen BK336.out 3) | ((with_reducible refine gate_callee (f := 27) rfl ?_); refine goesL_ (some 15) rfl rfl Try.func27 (by kernel_rfl) rfl #[.agg #[.int .i64 a0_0, .int .i64 a0_1, .string a0_2, .slice A0_3 l0_3.length c0_3], .int .i64 a1] rfl (by (try simp only [List.map_toArray, List.map_cons, List.map_nil]); first | done | rfl | (simp only [List.length_drop, List.length_take]; rfl)) ?_; (with_reducible refine (leaf_May.calls a0_0 a0_1 a0_2 _ _ l0_3 a1 false _ ?side1 ?side2 A5.out).mono ?_); (case side1 => repeat (first | exact (Kd.C_below HR0_3.out HB.out) | (with_reducible refine Kd.C_alloc ?_ _) | (with_reducible refine Kd.C_drewN ?_ _) | (with_reducible refine Kd.C_drew ?_))); (case side2 => exact HC0_3.out); rintro e w32 ⟨rfl, hb⟩; refine ⟨_, rfl, ?_⟩; have n0_ := Aside0.mk (blk_below (g := gb336) (o := .cells #[.int .i64 a0_0, .int .i64 a0_1, .string a0_2, .slice A0_3 l0_3.length c0_3] 46 (0, 0)) (by (with_reducible repeat (first | refine blk_drewN ?_ _ | refine blk_drew ?_ | refine blk_alloc ?_ _)); exact BK336.out) hb); have n1_ := Aside0.mk (below_step (by repeat (first | (with_reducible first | exact HB.out | apply below_alloc | apply pw_below_drewN | apply below_drew1 | refine below_set ?_ GE336.out) | exact HB.out)) hb); clear BK336; clear HB; have BK336 := n0_; have HB := n1_; clear n0_ n1_; (try clear hb); (try clear hb2); (try clear hk); (try clear hi)))
      go_ret2
      exact ⟨by first | rfl | (simp [errW_none, errW_some] <;> rfl) | (simp [*, errW_none, errW_some] <;> rfl), by repeat (first | (with_reducible first | exact HB.out | apply below_alloc | apply pw_below_drewN | apply below_drew1 | refine below_set ?_ GE336.out) | exact HB.out)⟩
  · replace c4 := Bool.eq_false_iff.mpr c4
    subst c4
    have H1 : (some ((⟨#[]⟩ : ByteArray), 4)) = some (r1, r2) := by rw [if_neg (show ¬ (false = true) by decide)] at H; exact H
    clear H
    have H := H1
    clear H1
    simp only [Option.some.injEq, Prod.mk.injEq] at H
    obtain ⟨rfl, rfl⟩ := H
    go_enter Try.func17, Try.ntmps17
    go_wp2_with (first | ((with_reducible refine gate_dst (N := 2) rfl ?_); refine box_event ?hg (N := 2) ?hd (cs := #[.int .i64 a0_0, .int .i64 a0_1, .string a0_2, .slice A0_3 l0_3.length c0_3]) (t := 46) ?hr ?_; (case hd => rfl); (case hg => rfl); (case hr => first | (go_simp; done) | (go_simp; rfl)); intro gb336 hg w33 hbox hb; have n0_ := Aside0.mk (below_step (by repeat (first | (with_reducible first | exact HB.out | apply below_alloc | apply pw_below_drewN | apply below_drew1) | exact HB.out)) hb); have n1_ := Aside0.mk (hbox); have n2_ := Aside0.mk ((by rw [hg]; exact (below_size (by repeat (first | (with_reducible first | exact HB.out | apply below_alloc | apply pw_below_drewN | apply below_drew1) | exact HB.out))) : w.heap.size ≤ gb336)); have n3_ := Aside0.mk ((by rw [hg]; exact (below_size (by repeat (first | (with_reducible first | exact HB.out | apply below_alloc | apply pw_below_drewN | apply below_drew1) | exact HB.out))) : w.heap.size ≤ gb336)); clear HB; have HB := n0_; have BK336 := n1_; have GW336 := n2_; have GE336 := n3_; clear n0_ n1_ n2_ n3_; clear hb hbox hg) | ((with_reducible refine gate_callee (f := 25) rfl ?_); refine goesL_ (some 11) rfl rfl Try.func25 (by kernel_rfl) rfl #[.int .i64 a1] rfl (by (try simp only [List.map_toArray, List.map_cons, List.map_nil]); first | done | rfl | (simp only [List.length_drop, List.length_take]; rfl)) ?_; (with_reducible refine (disk_Size.calls a1 false _ A3.out).mono ?_); rintro e w34 ⟨rfl, hb⟩; refine ⟨_, rfl, ?_⟩; have n0_ := Aside0.mk (blk_below (g := gb336) (o := .cells #[.int .i64 a0_0, .int .i64 a0_1, .string a0_2, .slice A0_3 l0_3.length c0_3] 46 (0, 0)) (by (with_reducible repeat (first | refine blk_drewN ?_ _ | refine blk_drew ?_ | refine blk_alloc ?_ _)); exact BK336.out) hb); have n1_ := Aside0.mk (below_step (by repeat (first | (with_reducible first | exact HB.out | apply below_alloc | apply pw_below_drewN | apply below_drew1 | refine below_set ?_ GE336.out) | exact HB.out)) hb); clear BK336; clear HB; have BK336 := n0_; have HB := n1_; clear n0_ n1_; (try clear hb); (try clear hb2); (try clear hk); (try clear hi)))
    go_ret2
    exact ⟨by first | rfl | (simp [errW_none, errW_some] <;> rfl) | (simp [*, errW_none, errW_some] <;> rfl), by repeat (first | (with_reducible first | exact HB.out | apply below_alloc | apply pw_below_drewN | apply below_drew1 | refine below_set ?_ GE336.out) | exact HB.out)⟩

end Go.Proofs.Ytmheajenlhlbhaa.X

