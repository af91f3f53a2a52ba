/- What functions of the given program compute, step by step: the walks that the law LeafRise leans on, part 6. No conditions. -/
import Derived.Test.YtmheajenlhlbhaaGreatDoorULeafRise01
import Derived.Test.YtmheajenlhlbhaaGreatDoorVLeafRiseShelf
import Derived.Test.YtmheajenlhlbhaaGreatDoorULeafRise02
namespace Go.Proofs.YtmheajenlhlbhaaGreatDoor.X
open Go.RowKit Go.Proofs.YtmheajenlhlbhaaGreatDoorW.PrintWords Go.Proofs.YtmheajenlhlbhaaGreatDoorW.PrintLast Go.Proofs.YtmheajenlhlbhaaGreatDoorW.PrintMore
attribute [local go_sem] max2_int min2_int max_two min_two max_three min_three max_four min_four   -- for this text's walks alone
set_option linter.unusedVariables false
set_option linter.unusedSimpArgs false

mutual
def word_Read.j0 : Nat → ByteArray → Int → Bool → Option (Int × Int)
  | 0, _, _, _ => none
  | k + 1, x0, x1, x15 => if x15 = true then (some (0, 4)) else (if (wrap64 ((x0.size : Int) - x1)) < 4 then (some (0, 7)) else (word_Read.l0 k x0 x1 0 0))
def word_Read.l0 : Nat → ByteArray → Int → Int → Int → Option (Int × Int)
  | 0, _, _, _, _ => none
  | k + 1, x0, x1, x6, x21 => if x21 < 4 then (if 0 ≤ (wrap64 (x1 + x21)) then (if (wrap64 (x1 + x21)) < (x0.size : Int) then (if 0 ≤ (wrap64 (8 * x21)) then (word_Read.l0 k x0 x1 (Go.bits .or .u32 x6 (shl .u32 ((bt x0 (wrap64 (x1 + x21))) % 4294967296) (wrap64 (8 * x21)))) (wrap64 (x21 + 1))) else (none)) else (none)) else (none)) else (some (x6, 0))
end
def word_Read.f (k : Nat) (a0 : ByteArray) (a1 : Int) : Option (Int × Int) := if a1 < 0 then (word_Read.j0 k a0 a1 true) else (word_Read.j0 k a0 a1 (decide (a1 > (a0.size : Int))))
set_option maxHeartbeats 8000000 in
set_option maxRecDepth 100000 in
theorem word_Read.calls (k : Nat) (a0 : ByteArray) (a1 : Int) (r1 : Int) (r2 : Int) (w : World) (h : word_Read.f k a0 a1 = some (r1, r2)) :
    Calls Tryz.prog 82 #[.string a0, .int .i64 a1] w fun e w' => e = .returned (.tuple #[.int .u32 r1, .int .i64 r2]) ∧ Drawn0 w w' := by
  have H : (if a1 < 0 then (word_Read.j0 k a0 a1 true) else (word_Read.j0 k a0 a1 (decide (a1 > (a0.size : Int))))) = some (r1, r2) := h
  clear h
  have HC3 := Aside0.mk H
  clear H
  go_enter Tryz.func82, Tryz.ntmps82
  go_upto_region 1 with (fail)
  go_cut [15] (fun v15 wc => ∃ (kq : Nat) (x15_2 : Bool), v15 = .bool x15_2 ∧ Aside0 (word_Read.j0 kq a0 a1 x15_2 = some (r1, r2)) ∧ Aside0 (kq ≤ k) ∧ Drawn0 w wc)
  case first =>
    have H := HC3.out
    clear HC3
    by_cases c4 : a1 < 0
    · rw [if_pos c4] at H
      have c4b0 : decide (a1 < 0) = true := decide_eq_true c4
      clear c4
      (first | rw [c4b0] | (simp only [i64_w, i32_w]; rw [c4b0]) | skip)
      have H' := Aside0.mk H
      clear H
      go_wp2
      go_meet
      case rel => exact ⟨_, (true), (by first | rfl | (simp; done) | (simp [*]; done)), H', ⟨by first | omega | exact Nat.le_refl _⟩, by repeat (first | exact Drawn0.refl _ | apply Drawn0.step)⟩
    · rw [if_neg c4] at H
      have c4b0 : decide (a1 < 0) = false := decide_eq_false c4
      clear c4
      (first | rw [c4b0] | (simp only [i64_w, i32_w]; rw [c4b0]) | skip)
      have H' := Aside0.mk H
      clear H
      go_wp2
      go_meet
      case rel => exact ⟨_, (decide (a1 > (a0.size : Int))), (by first | rfl | (simp; done) | (simp [*]; done)), H', ⟨by first | omega | exact Nat.le_refl _⟩, by repeat (first | exact Drawn0.refl _ | apply Drawn0.step)⟩
  case rest =>
    clear HC3
    try clear p2
    try clear c4
    try clear c4b0
    obtain ⟨kq, x15_2, rfl, HA, HJ2, ⟨mc2, rfl⟩⟩ := hcut
    cases kq with
    | zero => exact absurd HA.out (by simp [word_Read.j0])
    | succ kj2 =>
      have H := HA.out
      clear HA
      simp only [word_Read.j0] at H
      by_cases c5 : x15_2 = true
      · subst c5
        have H1 : (some (0, 4)) = some (r1, r2) := by rw [if_pos rfl] at H; exact H
        clear H
        have H := H1
        clear H1
        simp only [Option.some.injEq, Prod.mk.injEq] at H
        obtain ⟨rfl, rfl⟩ := H
        go_wp2
        go_ret2
        exact ⟨by first | rfl | (simp; done) | (simp [*]; done), by repeat (first | exact Drawn0.refl _ | apply Drawn0.step)⟩
      · replace c5 := Bool.eq_false_iff.mpr c5
        subst c5
        have H1 : (if (wrap64 ((a0.size : Int) - a1)) < 4 then (some (0, 7)) else (word_Read.l0 kj2 a0 a1 0 0)) = some (r1, r2) := by rw [if_neg (show ¬ (false = true) by decide)] at H; exact H
        clear H
        have H := H1
        clear H1
        by_cases c6 : (wrap64 ((a0.size : Int) - a1)) < 4
        · rw [if_pos c6] at H
          have c6b0 : decide ((wrap64 ((a0.size : Int) - a1)) < 4) = true := decide_eq_true c6
          clear c6
          simp only [Option.some.injEq, Prod.mk.injEq] at H
          obtain ⟨rfl, rfl⟩ := H
          go_wp2
          go_ret2
          exact ⟨by first | rfl | (simp; done) | (simp [*]; done), by repeat (first | exact Drawn0.refl _ | apply Drawn0.step)⟩
        · rw [if_neg c6] at H
          have c6b0 : decide ((wrap64 ((a0.size : Int) - a1)) < 4) = false := decide_eq_false c6
          clear c6
          have H' := Aside0.mk H
          clear H
          go_wp2
          go_loopg [6, 21] kj2 (fun kq v6 v21 w' => ∃ (x6_2 : Int) (x21_2 : Int), v6 = .int .u32 x6_2 ∧ v21 = .int .i64 x21_2 ∧ Aside0 (word_Read.l0 kq a0 a1 x6_2 x21_2 = some (r1, r2)) ∧ Aside0 (kq ≤ kj2) ∧ Drawn0 w w')
          case atStart => exact ⟨(0), (0), (by first | rfl | (simp; done) | (simp [*]; done)), (by first | rfl | (simp; done) | (simp [*]; done)), H', ⟨Nat.le_refl _⟩, by repeat (first | exact Drawn0.refl _ | apply Drawn0.step)⟩
          case round =>
            clear H'
            try clear c2
            try clear p2
            try clear c4
            try clear c4b0
            try clear c5
            try clear c6
            try clear c6b0
            try clear p6
            try clear p2
            obtain ⟨x6_2, x21_2, rfl, rfl, HA, HK2, ⟨m2, rfl⟩⟩ := hrel
            cases gk with
            | zero => exact absurd HA.out (by simp [word_Read.l0])
            | succ k2 =>
              have H := HA.out
              clear HA
              simp only [word_Read.l0] at H
              by_cases c7 : x21_2 < 4
              · rw [if_pos c7] at H
                have c7b0 : decide (x21_2 < 4) = true := decide_eq_true c7
                clear c7
                obtain ⟨ji8, hji8⟩ : ∃ j_ : Int, (wrap64 (a1 + x21_2)) = j_ := ⟨_, rfl⟩
                replace H : (if 0 ≤ (ji8) then (if (ji8) < (a0.size : Int) then (if 0 ≤ (wrap64 (8 * x21_2)) then (word_Read.l0 k2 a0 a1 (Go.bits .or .u32 x6_2 (shl .u32 ((bt a0 (ji8)) % 4294967296) (wrap64 (8 * x21_2)))) (wrap64 (x21_2 + 1))) else (none)) else (none)) else (none)) = some (r1, r2) := by first | (rw [hji8] at H; exact H) | (simp only [hji8] at H ⊢; exact H)
                have hji8w : (IntKind.i64.wrap (a1 + x21_2)) = ji8 := (i64_w _).trans hji8
                by_cases c9 : 0 ≤ (ji8)
                · rw [if_pos c9] at H
                  have c9b0 : decide (0 ≤ (ji8)) = true := decide_eq_true c9
                  clear c9
                  by_cases c10 : (ji8) < (a0.size : Int)
                  · rw [if_pos c10] at H
                    have c10b0 : decide ((ji8) < (a0.size : Int)) = true := decide_eq_true c10
                    clear c10
                    obtain ⟨ji12, hji12⟩ : ∃ j_ : Int, (wrap64 (8 * x21_2)) = j_ := ⟨_, rfl⟩
                    replace H : (if 0 ≤ (ji12) then (word_Read.l0 k2 a0 a1 (Go.bits .or .u32 x6_2 (shl .u32 ((bt a0 (ji8)) % 4294967296) (ji12))) (wrap64 (x21_2 + 1))) else (none)) = some (r1, r2) := by first | (rw [hji12] at H; exact H) | (simp only [hji12] at H ⊢; exact H)
                    have hji12w : (IntKind.i64.wrap (8 * x21_2)) = ji12 := (i64_w _).trans hji12
                    by_cases c13 : 0 ≤ (ji12)
                    · rw [if_pos c13] at H
                      have c13b0 := eq_true c13
                      have c13b1 : decide (0 ≤ (ji12)) = true := decide_eq_true c13
                      clear c13
                      obtain ⟨ji14, hji14⟩ : ∃ j_ : Int, (shl .u32 ((bt a0 (ji8)) % 4294967296) (ji12)) = j_ := ⟨_, rfl⟩
                      replace H : (word_Read.l0 k2 a0 a1 (Go.bits .or .u32 x6_2 (ji14)) (wrap64 (x21_2 + 1))) = some (r1, r2) := by first | (rw [hji14] at H; exact H) | (simp only [hji14] at H ⊢; exact H)
                      have hji14_ : (IntKind.u32.wrap (((bt a0 (ji8)) % 4294967296) * 2 ^ min (ji12).toNat 32)) = ji14 := hji14
                      have hji14z : (ji12) ≤ 32 → (IntKind.u32.wrap (((bt a0 (ji8)) % 4294967296) * 2 ^ (ji12).toNat)) = ji14 := shl_small hji14
                      have H' := Aside0.mk H
                      clear H
                      have p11 : 0 ≤ ((ji8) : Int) := of_decide_eq_true (by first | (with_reducible assumption) | assumption)
                      have q11 : (ji8) < (a0.size : Int) := of_decide_eq_true (by first | (with_reducible assumption) | assumption)
                      have hx11 := bt_at a0 (ji8)
                      replace p11 := eq_true p11
                      replace q11 := eq_true q11
                      go_wp2
                      go_roundg k2
                      case measure => have := HJ2.out; have := HK2.out; omega
                      case rel => exact ⟨(Go.bits .or .u32 x6_2 (ji14)), (wrap64 (x21_2 + 1)), (by first | rfl | (simp; done) | (simp only [← hji14] <;> (first | rfl | simp)) | (simp [*]; done)), (by first | rfl | (simp; done) | (simp [*]; done)), H', ⟨by have := HJ2.out; have := HK2.out; omega⟩, by repeat (first | exact Drawn0.refl _ | apply Drawn0.step)⟩
                    · rw [if_neg c13] at H
                      exact absurd H (by simp)
                  · rw [if_neg c10] at H
                    exact absurd H (by simp)
                · rw [if_neg c9] at H
                  exact absurd H (by simp)
              · rw [if_neg c7] at H
                have c7b0 : decide (x21_2 < 4) = false := decide_eq_false c7
                clear c7
                simp only [Option.some.injEq, Prod.mk.injEq] at H
                obtain ⟨rfl, rfl⟩ := H
                go_wp2
                go_ret2
                exact ⟨by first | rfl | (simp; done) | (simp [*]; done), by repeat (first | exact Drawn0.refl _ | apply Drawn0.step)⟩

end Go.Proofs.YtmheajenlhlbhaaGreatDoor.X


namespace Go.Proofs.YtmheajenlhlbhaaGreatDoor.X
open Go.RowKit Go.Proofs.YtmheajenlhlbhaaGreatDoorW.PrintWords Go.Proofs.YtmheajenlhlbhaaGreatDoorW.PrintLast Go.Proofs.YtmheajenlhlbhaaGreatDoorW.PrintMore
attribute [local go_sem] max2_int min2_int max_two min_two max_three min_three max_four min_four   -- for this text's walks alone
set_option linter.unusedVariables false
set_option linter.unusedSimpArgs false

def zeroB (n : Nat) : ByteArray := ⟨(Lib.repeatL (⟨#[0]⟩ : ByteArray).data.toList n).toArray⟩
theorem zeroB_size (n : Nat) : (zeroB n).size = n := by
  unfold zeroB
  show (Lib.repeatL _ n).length = n
  induction n with
  | zero => rfl
  | succ n ih => simp [Lib.repeatL] at ih ⊢; omega
def strings_Repeat.f (s : ByteArray) (c : Int) : Option ByteArray :=
  if 0 ≤ c ∧ c ≤ 9223372036854775807 ∧ s.size * c.toNat ≤ 140737488355328 then some ⟨(Lib.repeatL s.data.toList c.toNat).toArray⟩ else none
theorem strings_Repeat.calls (a0 : ByteArray) (a1 : Int) (r : ByteArray) (w : World) (h : strings_Repeat.f a0 a1 = some r) :
    Calls Tryz.prog 118 #[.string a0, .int .i64 a1] w fun e w' => e = .returned (.string r) ∧ Below w.heap.size w w' := by
  unfold strings_Repeat.f at h
  by_cases hs : 0 ≤ a1 ∧ a1 ≤ 9223372036854775807 ∧ a0.size * a1.toNat ≤ 140737488355328
  · rw [if_pos hs] at h
    obtain rfl := Option.some.inj h
    obtain ⟨n, rfl⟩ := Int.eq_ofNat_of_zero_le hs.1
    rw [Int.toNat_natCast] at hs ⊢
    exact Tryz.strings_Repeat a0 n w (by omega) hs.2.2
  · rw [if_neg hs] at h
    exact absurd h (by simp)


end Go.Proofs.YtmheajenlhlbhaaGreatDoor.X


namespace Go.Proofs.YtmheajenlhlbhaaGreatDoor.X
open Go.RowKit Go.Proofs.YtmheajenlhlbhaaGreatDoorW.PrintWords Go.Proofs.YtmheajenlhlbhaaGreatDoorW.PrintLast Go.Proofs.YtmheajenlhlbhaaGreatDoorW.PrintMore
attribute [local go_sem] max2_int min2_int max_two min_two max_three min_three max_four min_four   -- for this text's walks alone
set_option linter.unusedVariables false
set_option linter.unusedSimpArgs false

set_option maxHeartbeats 1000000 in
theorem head_number_nil (w : World) :
    Calls Tryz.prog 134 #[.nilIface] w fun e w' => e = .returned (.int .i64 0) ∧ Below w.heap.size w w' := by
  go_enter Tryz.func134, Tryz.ntmps134
  go_wp2
  refine wp_loop_rounds 4 ?_
  rw [rounds_succ]
  go_wp2_with (first | (go_at_call 178; refine (Is_nil 4 _).mono ?_; rintro e w' ⟨rfl, rfl⟩))
  rw [rounds_succ]
  go_wp2_with (first | (go_at_call 178; refine (Is_nil 3 _).mono ?_; rintro e w' ⟨rfl, rfl⟩))
  rw [rounds_succ]
  go_wp2_with (first | (go_at_call 178; refine (Is_nil 8 _).mono ?_; rintro e w' ⟨rfl, rfl⟩))
  rw [rounds_succ]
  go_wp2
  go_ret
  exact ⟨rfl, below_alloc (Below.refl _ _) _⟩
set_option maxHeartbeats 1000000 in
theorem head_number_join (v : Value) (n : Int) (w : World) (hj : JoinOf w v n) (hn : n = 4 ∨ n = 3 ∨ n = 8) :
    Calls Tryz.prog 134 #[v] w fun e w' => e = .returned (.int .i64 n) ∧ Below w.heap.size w w' := by
  have HJ : Aside0 (JoinOf (w.alloc (.cells #[.int .i64 4, .int .i64 3, .int .i64 8] 25)) v n) := ⟨hj.below (below_alloc (Below.refl _ _) _)⟩
  clear hj
  rcases hn with rfl | rfl | rfl
  · go_enter Tryz.func134, Tryz.ntmps134
    go_wp2
    refine wp_loop_rounds 4 ?_
    rw [rounds_succ]
    go_wp2_with (first | (go_at_call 178; refine (Is_join v 4 4 _ HJ.out).mono ?_; rintro e w' ⟨rfl, rfl⟩))
    go_ret
    exact ⟨rfl, below_alloc (Below.refl _ _) _⟩
  · go_enter Tryz.func134, Tryz.ntmps134
    go_wp2
    refine wp_loop_rounds 4 ?_
    rw [rounds_succ]
    go_wp2_with (first | (go_at_call 178; refine (Is_join v 3 4 _ HJ.out).mono ?_; rintro e w' ⟨rfl, rfl⟩))
    rw [rounds_succ]
    go_wp2_with (first | (go_at_call 178; refine (Is_join v 3 3 _ HJ.out).mono ?_; rintro e w' ⟨rfl, rfl⟩))
    go_ret
    exact ⟨rfl, below_alloc (Below.refl _ _) _⟩
  · go_enter Tryz.func134, Tryz.ntmps134
    go_wp2
    refine wp_loop_rounds 4 ?_
    rw [rounds_succ]
    go_wp2_with (first | (go_at_call 178; refine (Is_join v 8 4 _ HJ.out).mono ?_; rintro e w' ⟨rfl, rfl⟩))
    rw [rounds_succ]
    go_wp2_with (first | (go_at_call 178; refine (Is_join v 8 3 _ HJ.out).mono ?_; rintro e w' ⟨rfl, rfl⟩))
    rw [rounds_succ]
    go_wp2_with (first | (go_at_call 178; refine (Is_join v 8 8 _ HJ.out).mono ?_; rintro e w' ⟨rfl, rfl⟩))
    go_ret
    exact ⟨rfl, below_alloc (Below.refl _ _) _⟩
theorem head_number.calls (v : Value) (n : Int) (w : World) (hf : FaultOf w v n) (hn : n = 0 ∨ n = 4 ∨ n = 3 ∨ n = 8) :
    Calls Tryz.prog 134 #[v] w fun e w' => e = .returned (.int .i64 n) ∧ Below w.heap.size w w' := by
  rcases hf with ⟨rfl, rfl⟩ | ⟨h0, hj⟩
  · exact head_number_nil w
  · exact head_number_join v n w hj (by omega)
theorem faultN_is (k l c r s : Int) (body : ByteArray) (p : Int) : faultN k l c r s body p = 0 ∨ faultN k l c r s body p = 4 ∨ faultN k l c r s body p = 3 ∨ faultN k l c r s body p = 8 := by
  unfold faultN
  split
  · split
    · split
      · omega
      · omega
    · omega
  · omega


end Go.Proofs.YtmheajenlhlbhaaGreatDoor.X


namespace Go.Proofs.YtmheajenlhlbhaaGreatDoor.X
open Go.RowKit Go.Proofs.YtmheajenlhlbhaaGreatDoorW.PrintWords Go.Proofs.YtmheajenlhlbhaaGreatDoorW.PrintLast Go.Proofs.YtmheajenlhlbhaaGreatDoorW.PrintMore
attribute [local go_sem] max2_int min2_int max_two min_two max_three min_three max_four min_four   -- for this text's walks alone
set_option linter.unusedVariables false
set_option linter.unusedSimpArgs false

def head_bytes.l0 : Nat → List Int → List Int → Int → Int → Option (ByteArray)
  | 0, _, _, _, _ => none
  | k + 1, x3, x6, x7, x8 => if x8 < x7 then (if 0 ≤ x8 then (if x8 < (x6.length : Int) then (if x3.length < 140737488355328 then (head_bytes.l0 k (x3 ++ [(rd x6 x8) % 256]) x6 x7 (wrap64 (x8 + 1))) else (none)) else (none)) else (none)) else (some (strOfNums x3))
def head_bytes.f (k : Nat) (l0 : List Int) : Option (ByteArray) := head_bytes.l0 k ([] : List Int) l0 (l0.length : Int) 0
set_option maxHeartbeats 8000000 in
set_option maxRecDepth 100000 in
theorem head_bytes.calls (k : Nat) (A0 : Option Addr) (c0 : Nat) (l0 : List Int) (r : ByteArray) (w : World) (hr0 : Kd.C (Kd.int .i64) w A0 l0.length l0) (hc0 : l0.length ≤ c0) (h : head_bytes.f k l0 = some r) :
    Calls Tryz.prog 136 #[.slice A0 l0.length c0] w fun e w' => e = .returned (.string r) ∧ Below w.heap.size w w' := by
  have HR0 := Aside0.mk hr0
  have HC0 := Aside0.mk hc0
  clear hr0 hc0
  have HB := Aside0.mk (Below.refl w.heap.size w)
  have H : (head_bytes.l0 k ([] : List Int) l0 (l0.length : Int) 0) = some r := h
  clear h
  have H' := Aside0.mk H
  clear H
  go_enter Tryz.func136, Tryz.ntmps136
  go_wp2
  go_loopg [3, 8] k (fun kq v3 v8 w' => ∃ (x3_1 : List Int) (x8_1 : Int), v8 = .int .i64 x8_1 ∧ Aside0 (head_bytes.l0 kq x3_1 l0 (l0.length : Int) x8_1 = some r) ∧ Aside0 (kq ≤ k) ∧ Aside0 (Kd.R (Kd.int .u8) 5 w' w.heap.size (fun _ => True) v3 x3_1) ∧ Aside0 (Below w.heap.size w w'))
  case atStart => exact ⟨(([] : List Int)), (0), (by first | rfl | (simp; done) | (simp [*]; done)), H', ⟨Nat.le_refl _⟩, ⟨by first | exact Kd.R_nil _ _ _ _ _ | exact Kd.N_nil _ _ _ _ _ | exact Kd.V_nil _ _ _ _ _ | exact Kd.Q_nil _ _ _ _ _ | exact Kd.S_nil _ _ _ _ _⟩, ⟨by repeat (first | (with_reducible first | exact HB.out | apply below_alloc | apply pw_below_drewN | apply below_drew1) | exact HB.out)⟩⟩
  case round =>
    clear H'
    try clear c1
    obtain ⟨x3_1, x8_1, rfl, HA, HK1, HO_3, HB⟩ := hrel
    cases gk with
    | zero => exact absurd HA.out (by simp [head_bytes.l0])
    | succ k1 =>
      have H := HA.out
      clear HA
      simp only [head_bytes.l0] at H
      by_cases c2 : x8_1 < (l0.length : Int)
      · rw [if_pos c2] at H
        have c2b0 : decide (x8_1 < (l0.length : Int)) = true := decide_eq_true c2
        clear c2
        by_cases c3 : 0 ≤ x8_1
        · rw [if_pos c3] at H
          have c3b0 : decide (0 ≤ x8_1) = true := decide_eq_true c3
          clear c3
          by_cases c4 : x8_1 < (l0.length : Int)
          · rw [if_pos c4] at H
            have c4b0 : decide (x8_1 < (l0.length : Int)) = true := decide_eq_true c4
            clear c4
            by_cases c5 : x3_1.length < 140737488355328
            · rw [if_pos c5] at H
              have LMc5 := Aside0.mk c5
              clear c5
              obtain ⟨y116, hy116⟩ : ∃ y_ : List Int, y_ = (x3_1 ++ [(rd l0 x8_1) % 256]) := ⟨_, rfl⟩
              replace H : (head_bytes.l0 k1 y116 l0 (l0.length : Int) (wrap64 (x8_1 + 1))) = some r := by first | (rw [hy116]; with_reducible exact H) | (have H2_ := (Option.bind_some _ _).symm.trans H; rw [hy116]; with_reducible exact H2_) | (have H2_ := (Option.bind_some _ _).symm.trans H; with_reducible exact H2_) | with_reducible exact H | (rw [hy116]; exact H) | exact H
              have Ny116 := Aside0.mk hy116
              clear hy116
              have H' := Aside0.mk H
              clear H
              have p115 : 0 ≤ (x8_1 : Int) := of_decide_eq_true (by first | (with_reducible assumption) | assumption)
              have q115 : x8_1 < (l0.length : Int) := of_decide_eq_true (by first | (with_reducible assumption) | assumption)
              obtain ⟨ad115, e115, hx115_0⟩ := Kd.at_int HR0.out x8_1 p115 q115
              cases e115
              replace hx115_0 := (HB.out.cell (World.block_lt_of_cell? w _ hx115_0)).trans hx115_0
              replace p115 := eq_true p115
              replace q115 := eq_true q115
              go_wp2_with (first | ((with_reducible refine gate_builtin (b := .append) (xs := #[.tmp 12, .tmp 15]) rfl ?_); at_builtin; refine Kd.R_append (Kd.int .u8) (w0 := w) w.heap.size rfl (.tmp 12) (.tmp 15) 96 5 (.int .u8 0) 1 rfl Tryz.underlying96 info5 rfl (by decide) (by omega) u3 x3_1 ((rd l0 x8_1) % 256) [.int .u8 ((rd l0 x8_1) % 256)] (fun _ => True) (fun _ => False) rfl rfl ?aP (fun _ hk => hk.elim) ?aF ?aO ?aB ?aS ?aL ?_; (case aP => exact rfl); (case aB => exact (by repeat (first | (with_reducible first | exact HB.out | apply below_alloc | apply pw_below_drewN | apply below_drew1) | exact HB.out))); (case aF => exact (fun _ _ => trivial)); (case aO => exact (by (with_reducible repeat (first | apply Kd.R_alloc | apply Kd.R_drewN | apply Kd.R_drew)); exact HO_3.out)); (case aS => exact (below_size (by repeat (first | (with_reducible first | exact HB.out | apply below_alloc | apply pw_below_drewN | apply below_drew1) | exact HB.out)))); (case aL => have := LMc5.out; omega); intro v117 w6 ho hb hg hat; rw [← Ny116.out] at ho; have n0_ := Aside0.mk (hb); have n1_ := Aside0.mk (ho); clear HB; clear HO_3; have HB := n0_; have HO118 := n1_; clear n0_ n1_; clear ho hb hg hat))
              go_roundg k1
              case measure => have := HK1.out; omega
              case rel => exact ⟨(y116), (wrap64 (x8_1 + 1)), (by first | rfl | (simp; done) | (simp [*]; done)), H', ⟨by have := HK1.out; omega⟩, ⟨by (with_reducible repeat (first | apply Kd.R_alloc | apply Kd.R_drewN | apply Kd.R_drew)); exact HO118.out⟩, ⟨by repeat (first | (with_reducible first | exact HB.out | apply below_alloc | apply pw_below_drewN | apply below_drew1) | exact HB.out)⟩⟩
            · rw [if_neg c5] at H
              exact absurd H (by simp)
          · rw [if_neg c4] at H
            exact absurd H (by simp)
        · rw [if_neg c3] at H
          exact absurd H (by simp)
      · rw [if_neg c2] at H
        have c2b0 : decide (x8_1 < (l0.length : Int)) = false := decide_eq_false c2
        clear c2
        obtain rfl := Option.some.inj H
        have hcv7 := own_string (P := Tryz.prog) Tryz.underlying96 Tryz.underlying5 Tryz.underlying9 (Kd.own_of_R HO_3.out)
        go_wp2
        go_ret
        exact ⟨by first | rfl | (simp [errW_none, errW_some] <;> rfl) | (simp [*, errW_none, errW_some] <;> rfl), by repeat (first | (with_reducible first | exact HB.out | apply below_alloc | apply pw_below_drewN | apply below_drew1) | exact HB.out)⟩

end Go.Proofs.YtmheajenlhlbhaaGreatDoor.X


namespace Go.Proofs.YtmheajenlhlbhaaGreatDoor.X
open Go.RowKit Go.Proofs.YtmheajenlhlbhaaGreatDoorW.PrintWords Go.Proofs.YtmheajenlhlbhaaGreatDoorW.PrintLast Go.Proofs.YtmheajenlhlbhaaGreatDoorW.PrintMore
attribute [local go_sem] max2_int min2_int max_two min_two max_three min_three max_four min_four   -- for this text's walks alone
set_option linter.unusedVariables false
set_option linter.unusedSimpArgs false

def sum_Table.f (a0 : ByteArray) : Option (Int) := (sum_More.f 0 a0).bind fun t119 => (some t119)
set_option maxHeartbeats 8000000 in
set_option maxRecDepth 100000 in
theorem sum_Table.calls (a0 : ByteArray) (r : Int) (w : World) (h : sum_Table.f a0 = some r) :
    Calls Tryz.prog 137 #[.string a0] w fun e w' => e = .returned (.int .u32 r) ∧ Below w.heap.size w w' := by
  have HB := Aside0.mk (Below.refl w.heap.size w)
  have H : ((sum_More.f 0 a0).bind fun t119 => (some t119)) = some r := h
  clear h
  replace H := Option.bind_eq_some_iff.mp H
  obtain ⟨t119, A20, H⟩ := H
  replace H : (some t119) = some r := H
  have A2 := Aside0.mk A20
  clear A20
  obtain rfl := Option.some.inj H
  go_enter Tryz.func137, Tryz.ntmps137
  go_wp2_with (first | ((with_reducible refine gate_callee (f := 181) rfl ?_); refine goesL_ (some 4) rfl rfl Tryz.func181 (by kernel_rfl) rfl #[.int .u32 0, .string a0] rfl (by (try simp only [List.map_toArray, List.map_cons, List.map_nil]); first | done | rfl | (simp only [List.length_drop, List.length_take]; rfl)) ?_; (with_reducible refine (sum_More.calls 0 a0 t119 _ A2.out).mono ?_); rintro e w3 ⟨rfl, hb⟩; refine ⟨_, rfl, ?_⟩; have n0_ := Aside0.mk (below_step (by repeat (first | (with_reducible first | exact HB.out | apply below_alloc | apply pw_below_drewN | apply below_drew1) | exact HB.out)) hb); clear HB; have HB := n0_; clear n0_; (try clear hb); (try clear hb2); (try clear hk); (try clear hi)))
  go_ret
  exact ⟨by first | rfl | (simp [errW_none, errW_some] <;> rfl) | (simp [*, errW_none, errW_some] <;> rfl), by repeat (first | (with_reducible first | exact HB.out | apply below_alloc | apply pw_below_drewN | apply below_drew1) | exact HB.out)⟩

end Go.Proofs.YtmheajenlhlbhaaGreatDoor.X


namespace Go.Proofs.YtmheajenlhlbhaaGreatDoor.X
open Go.RowKit Go.Proofs.YtmheajenlhlbhaaGreatDoorW.PrintWords Go.Proofs.YtmheajenlhlbhaaGreatDoorW.PrintLast Go.Proofs.YtmheajenlhlbhaaGreatDoorW.PrintMore
attribute [local go_sem] max2_int min2_int max_two min_two max_three min_three max_four min_four   -- for this text's walks alone
set_option linter.unusedVariables false
set_option linter.unusedSimpArgs false

def fourB (n : Int) : ByteArray := strOfNums [n % 256, n / 256 % 256, n / 65536 % 256, n / 16777216 % 256]
def rawPage (k l c r s : Int) (body : ByteArray) (p : Int) : ByteArray :=
  (((strOfNums [k % 256, l % 256, c % 256, c / 256 % 256] ++ fourB r) ++ fourB s) ++ ⟨#[0, 0, 0, 0]⟩) ++ body ++ zeroB (p - ((16 + body.size : Nat) : Int)).toNat
def crcB (s : ByteArray) : Int := notI (crcAt s (notI 0) s.size)
def sealOf (t : ByteArray) : ByteArray := t.extract 0 12 ++ fourB (crcB t) ++ t.extract 16 t.size
def head_Seal.f (k l c r s : Int) (body : ByteArray) (p : Int) : Option (ByteArray × Int) :=
  some (if faultN k l c r s body p = 0 then sealOf (rawPage k l c r s body p) else ⟨#[]⟩, faultN k l c r s body p)
theorem u32_wrap_id {n : Int} (h0 : 0 ≤ n) (h1 : n < 4294967296) : IntKind.u32.wrap n = n := by
  unfold IntKind.wrap
  simp [IntKind.bits, IntKind.signed]
  omega
theorem ints_at {w : World} {B : Nat} {l : List Int} (hs : l.length ≤ 1000000) (h : ∀ j, j < l.length → w.cell? ⟨B, j, none⟩ = some (.int .i64 (l.getD j 0))) : Kd.C (Kd.int .i64) w (some ⟨B, 0, none⟩) l.length l := by
  refine Kd.C_of_reads (enc := Value.int .i64) (d := (0 : Int)) (h1 := fun _ => rfl) ⟨rfl, by omega, fun _ => ⟨_, rfl, fun j hj => ?_⟩⟩
  have := h j hj
  have e1 : (⟨B, 0, none⟩ : Addr).add j = ⟨B, j, none⟩ := by
    unfold Addr.add
    split
    · rename_i h0
      rw [h0]
    · simp
  rw [e1]
  exact this
theorem bytes_step (k : Nat) (acc l : List Int) (i : Nat) (hi : i < l.length) (hl : l.length ≤ 10) (ha : acc.length ≤ 10) :
    head_bytes.l0 (k + 1) acc l l.length (i : Int) = head_bytes.l0 k (acc ++ [l[i] % 256]) l l.length ((i + 1 : Nat) : Int) := by
  have hw : wrap64 ((i : Int) + 1) = ((i + 1 : Nat) : Int) := by unfold wrap64; omega
  simp only [head_bytes.l0]
  rw [if_pos (by omega), if_pos (by omega), if_pos (by omega), if_pos (by omega), hw, show rd l (i : Int) = l[i] by simp [rd, List.getD_eq_getElem?_getD, List.getElem?_eq_getElem hi]]
theorem bytes_end (k : Nat) (acc l : List Int) : head_bytes.l0 (k + 1) acc l l.length (l.length : Int) = some (strOfNums acc) := by
  simp only [head_bytes.l0]
  rw [if_neg (by omega)]
theorem bytes_four (a b c d : Int) : head_bytes.f 9 [a, b, c, d] = some (strOfNums [a % 256, b % 256, c % 256, d % 256]) :=
  (bytes_step 8 [] [a, b, c, d] 0 (by simp) (by simp) (by simp)).trans ((bytes_step 7 _ [a, b, c, d] 1 (by simp) (by simp) (by simp)).trans ((bytes_step 6 _ [a, b, c, d] 2 (by simp) (by simp) (by simp)).trans ((bytes_step 5 _ [a, b, c, d] 3 (by simp) (by simp) (by simp)).trans (bytes_end 4 _ [a, b, c, d]))))
def SealS (w : World) (k l c r s : Int) (W : World) : Prop := (W.cell? ⟨w.heap.size, 0, none⟩ = some (.int .i64 k) ∧ W.cell? ⟨w.heap.size, 1, none⟩ = some (.int .i64 l) ∧ W.cell? ⟨w.heap.size, 2, none⟩ = some (.int .i64 c) ∧ W.cell? ⟨w.heap.size, 3, none⟩ = some (.int .i64 r) ∧ W.cell? ⟨w.heap.size, 4, none⟩ = some (.int .i64 s)) ∧ Below w.heap.size w W
theorem SealS.step {w W w2 : World} {k l c r s : Int} (h : SealS w k l c r s W) (hb : Below W.heap.size W w2) : SealS w k l c r s w2 := by
  obtain ⟨⟨h0, h1, h2, h3, h4⟩, hB⟩ := h
  exact ⟨⟨(hb.cell (World.block_lt_of_cell? W _ h0)).trans h0, (hb.cell (World.block_lt_of_cell? W _ h1)).trans h1, (hb.cell (World.block_lt_of_cell? W _ h2)).trans h2, (hb.cell (World.block_lt_of_cell? W _ h3)).trans h3, (hb.cell (World.block_lt_of_cell? W _ h4)).trans h4⟩, below_step hB hb⟩
theorem SealS.start (w : World) (k l c r s : Int) : SealS w k l c r s (w.alloc (.cells #[.int .i64 k, .int .i64 l, .int .i64 c, .int .i64 r, .int .i64 s] 82)) := by
  refine ⟨⟨?_, ?_, ?_, ?_, ?_⟩, below_alloc (Below.refl _ _) _⟩ <;> simp
theorem SealS.drew {w W : World} {k l c r s : Int} (h : SealS w k l c r s W) : SealS w k l c r s W.drew := h.step (below_drew (Below.refl _ _))
theorem SealS.alloc {w W : World} {k l c r s : Int} (h : SealS w k l c r s W) (o : Obj) : SealS w k l c r s (W.alloc o) := h.step (below_alloc (Below.refl _ _) _)
theorem SealS.below {w W : World} {k l c r s : Int} (h : SealS w k l c r s W) : Below w.heap.size w W := h.2
set_option maxRecDepth 100000 in
set_option maxHeartbeats 2000000 in
theorem head_Seal_no (k l c r s : Int) (body : ByteArray) (p : Int) (w : World) (n : Int) (hn : faultN k l c r s body p = n) (h0 : n ≠ 0) :
    Calls Tryz.prog 84 #[.agg #[.int .i64 k, .int .i64 l, .int .i64 c, .int .i64 r, .int .i64 s], .string body, .int .i64 p] w fun e w' => e = .returned (.tuple #[.string ⟨#[]⟩, .int .i64 n]) ∧ Below w.heap.size w w' := by
  have HN := Aside0.mk hn
  have hnn : (n != 0) = true := by simpa using h0
  have hq := faultN_is k l c r s body p
  rw [hn] at hq
  have HQ := Aside0.mk hq
  clear hn h0 hq
  go_enter Tryz.func84, Tryz.ntmps84
  go_wp2_with (first | (go_at_call 135; refine (head_may.calls k l c r s body p _).mono ?_; rintro e w1 ⟨v, rfl, hf, hb1⟩; rw [HN.out] at hf; have HB1 := Aside0.mk hb1; have HF := Aside0.mk hf; clear hb1 hf) | (go_at_call 134; refine (head_number.calls v n _ HF.out HQ.out).mono ?_; rintro e w2 ⟨rfl, hb2⟩; have HB2 := Aside0.mk hb2; clear hb2))
  go_ret2
  exact ⟨rfl, below_step (below_step (below_alloc (Below.refl _ _) _) HB1.out) HB2.out⟩
set_option maxRecDepth 100000 in
set_option maxHeartbeats 4000000 in
theorem head_Seal_yes (k l c r s : Int) (body : ByteArray) (p : Int) (w : World) (hn : faultN k l c r s body p = 0) (hk : 0 ≤ k ∧ k < 256) (hl : 0 ≤ l ∧ l < 256) (hc : 0 ≤ c ∧ c < 65536) (hr : 0 ≤ r ∧ r < 4096) (hs : 0 ≤ s ∧ s < 4096) (hp : 128 ≤ p ∧ p ≤ 1024) (hb : (body.size : Int) ≤ p - 16) :
    Calls Tryz.prog 84 #[.agg #[.int .i64 k, .int .i64 l, .int .i64 c, .int .i64 r, .int .i64 s], .string body, .int .i64 p] w fun e w' => e = .returned (.tuple #[.string (sealOf (rawPage k l c r s body p)), .int .i64 0]) ∧ Below w.heap.size w w' := by
  have HN := Aside0.mk hn
  obtain ⟨c0, c1⟩ := hc
  obtain ⟨r0, r1⟩ := hr
  obtain ⟨s0, s1⟩ := hs
  have hq : IntKind.i64.wrap (c.tdiv 256) = c / 256 := by rw [Int.tdiv_eq_ediv_of_nonneg c0]; exact IntWalk.i64_in _ (by omega)
  have hur : IntKind.u32.wrap r = r := u32_wrap_id r0 (by omega)
  have hus : IntKind.u32.wrap s = s := u32_wrap_id s0 (by omega)
  have HBY := Aside0.mk (bytes_four k l c (c / 256))
  obtain ⟨pre, hpre⟩ : ∃ pre, strOfNums [k % 256, l % 256, c % 256, c / 256 % 256] = pre := ⟨_, rfl⟩
  obtain ⟨fr, hfr⟩ : ∃ x, fourB r = x := ⟨_, rfl⟩
  obtain ⟨fs, hfs⟩ : ∃ x, fourB s = x := ⟨_, rfl⟩
  rw [hpre] at HBY
  have HFR := Aside0.mk (show word_Four.f r = some fr by rw [← hfr]; rfl)
  have HFS := Aside0.mk (show word_Four.f s = some fs by rw [← hfs]; rfl)
  have hpz : pre.size = 4 := by rw [← hpre]; exact strOfNums_size _
  have hrz : fr.size = 4 := by rw [← hfr]; exact strOfNums_size _
  have hsz : fs.size = 4 := by rw [← hfs]; exact strOfNums_size _
  have z1 : (9223372036854775807 < 16 + (body.size : Int)) = False := by apply eq_false; omega
  have g1 : (9223372036854775807 < 16 + body.size) = False := by apply eq_false; omega
  have g2 : ((pre ++ fr ++ fs ++ (⟨#[0, 0, 0, 0]⟩ : ByteArray)).size + body.size > 9223372036854775807) = False := by
    apply eq_false
    simp only [ByteArray.size_append, hpz, hrz, hsz]
    have : (⟨#[0, 0, 0, 0]⟩ : ByteArray).size = 4 := rfl
    omega
  have z2 : decide (16 + body.size ≤ 9223372036854775807) = true := decide_eq_true (by omega)
  have z3 : 16 + body.size ≤ 9223372036854775807 := by omega
  have HPRE := Aside0.mk hpre
  have HFR2 := Aside0.mk hfr
  have HFS2 := Aside0.mk hfs
  clear hn hpre hfr hfs
  go_enter Tryz.func84, Tryz.ntmps84
  go_wp2_with (first | (go_at_call 135; refine (head_may.calls k l c r s body p _).mono ?_; rintro e w1 ⟨v, rfl, hf, hb1⟩; rw [HN.out] at hf; have hS1 := (SealS.start w k l c r s).step hb1; have HF := Aside0.mk hf; clear hb1 hf) | (go_at_call 134; refine (head_number.calls v 0 _ HF.out (.inl rfl)).mono ?_; rintro e w2 ⟨rfl, hb2⟩; have hS2 := hS1.step hb2; clear hb2 hS1; have hS2' := id hS2; unfold SealS at hS2'))
  go_region_held3 (fun W => (W.cell? ⟨w.heap.size, 0, none⟩ = some (.int .i64 k) ∧ W.cell? ⟨w.heap.size, 1, none⟩ = some (.int .i64 l) ∧ W.cell? ⟨w.heap.size, 2, none⟩ = some (.int .i64 c) ∧ W.cell? ⟨w.heap.size, 3, none⟩ = some (.int .i64 r) ∧ W.cell? ⟨w.heap.size, 4, none⟩ = some (.int .i64 s)) ∧ Below w.heap.size w W)
    (first | assumption | exact hS2.drew | exact (hS2.alloc _).drew)
    (first | (go_at_call 136; refine (head_bytes.calls 9 (some ⟨w2.heap.size, 0, none⟩) 4 [k, l, c, c / 256] pre _ ?k1 (Nat.le_refl _) HBY.out).mono ?_; (case k1 => refine ints_at (by simp) (fun j hj => ?_); match j, hj with | 0, _ => simp | 1, _ => simp | 2, _ => simp | 3, _ => simp); rintro e w3 ⟨rfl, hb3⟩; have hS3 := (hS2.alloc _).drew.step hb3; clear hb3; have hS3' := id hS3; unfold SealS at hS3') | (go_at_call 125; ((with_reducible refine (word_Four.calls r fr _ HFR.out).mono ?_); rintro e w4 ⟨rfl, hb4⟩; have hS4 := hS3.step hb4; clear hb4; have hS4' := id hS4; unfold SealS at hS4')) | (go_at_call 125; ((with_reducible refine (word_Four.calls s fs _ HFS.out).mono ?_); rintro e w5 ⟨rfl, hb5⟩; have hS5 := hS4.step hb5; clear hb5; have hS5' := id hS5; unfold SealS at hS5')))
  have hrep : strings_Repeat.f ⟨#[0]⟩ (p - (16 + (body.size : Int))) = some (zeroB (p - ((16 + body.size : Nat) : Int)).toNat) := by
    unfold strings_Repeat.f
    rw [if_pos ⟨by omega, by omega, by
      show 1 * (p - (16 + (body.size : Int))).toNat ≤ _
      omega⟩]
    unfold zeroB
    rw [show (p - (16 + (body.size : Int))).toNat = (p - ((16 + body.size : Nat) : Int)).toNat by omega]
  have hzs : (zeroB (p - ((16 + body.size : Nat) : Int)).toNat).size = (p - ((16 + body.size : Nat) : Int)).toNat := zeroB_size _
  obtain ⟨zr, hzr⟩ : ∃ x, zeroB (p - ((16 + body.size : Nat) : Int)).toNat = x := ⟨_, rfl⟩
  rw [hzr] at hrep hzs
  have HZ := Aside0.mk hzr
  have HREP := Aside0.mk hrep
  have z4 : zr.size = (p - ((16 + body.size : Nat) : Int)).toNat := hzs
  have z5 : (9223372036854775807 < 16 + (body.size : Int) + (zr.size : Int)) = False := by apply eq_false; omega
  have z6 : decide (16 + body.size + zr.size ≤ 9223372036854775807) = true := decide_eq_true (by omega)
  have z7 : 16 + body.size + zr.size ≤ 9223372036854775807 := by omega
  have Z4 := Aside0.mk z4
  clear hrep hzr hzs z4
  go_wp2_with (first | (go_at_call 118; refine (strings_Repeat.calls ⟨#[0]⟩ _ zr _ HREP.out).mono ?_; rintro e w6 ⟨rfl, hb6⟩; have hS6 := hS5.step hb6; clear hb6))
  have hB := hS6.below
  generalize hT : pre ++ fr ++ fs ++ (⟨#[0, 0, 0, 0]⟩ : ByteArray) ++ body ++ zr = t
  have hts : (t.size : Int) = p := by
    rw [← hT]
    simp only [ByteArray.size_append, hpz, hrz, hsz, Z4.out]
    have : (⟨#[0, 0, 0, 0]⟩ : ByteArray).size = 4 := rfl
    omega
  have HSUM := Aside0.mk (show sum_Table.f t = some (crcB t) by
    unfold sum_Table.f sum_More.f
    rw [if_pos (by omega)]
    rfl)
  obtain ⟨cr, hcr⟩ : ∃ x, crcB t = x := ⟨_, rfl⟩
  rw [hcr] at HSUM
  obtain ⟨fc, hfc⟩ : ∃ x, fourB cr = x := ⟨_, rfl⟩
  have HFC := Aside0.mk (show word_Four.f cr = some fc by rw [← hfc]; rfl)
  have hfz : fc.size = 4 := by rw [← hfc]; exact strOfNums_size _
  have HEND := Aside0.mk (show t.extract 0 12 ++ fc ++ t.extract 16 t.size = sealOf (rawPage k l c r s body p) by
    unfold sealOf
    have : rawPage k l c r s body p = t := by
      unfold rawPage
      rw [← hT, HPRE.out, HFR2.out, HFS2.out, HZ.out]
    rw [this, hcr, hfc])
  clear hcr hfc hT
  have t1 : (12 : Int) ≤ (t.size : Int) := by omega
  have t2 : (16 : Int) ≤ (t.size : Int) := by omega
  have t3 : (9223372036854775807 < 16 + ((t.size - 16 : Nat) : Int)) = False := by apply eq_false; omega
  have t6 : (9223372036854775807 < 16 + (t.size - 16)) = False := by apply eq_false; omega
  have t7 : (9223372036854775807 < 12 + fc.size + (t.size - 16)) = False := by apply eq_false; omega
  have t4 : decide (16 + (t.size - 16) ≤ 9223372036854775807) = true := decide_eq_true (by omega)
  have t5 : 16 + (t.size - 16) ≤ 9223372036854775807 := by omega
  have e12 : (t.extract 0 12).size = 12 := by rw [ByteArray.size_extract]; omega
  have e16 : (t.extract 16 t.size).size = t.size - 16 := by rw [ByteArray.size_extract]; omega
  clear hS2 hS2' hS3 hS3' hS4 hS4' hS5 hS5' hS6 hur hus hq hts
  go_region_held3 (fun W => Below w.heap.size w W)
    (first | assumption | exact below_drew hB)
    (first | (go_at_call 137; ((with_reducible refine (sum_Table.calls t cr _ HSUM.out).mono ?_); rintro e w7 ⟨rfl, hb7⟩; have hB2 := below_step (below_drew hB) hb7; clear hb7)) | (go_at_call 125; ((with_reducible refine (word_Four.calls cr fc _ HFC.out).mono ?_); rintro e w8 ⟨rfl, hb8⟩; have hB3 := below_step hB2 hb8; clear hb8)))
  go_wp2
  go_ret2
  exact ⟨by rw [← HEND.out]; rfl, hB3⟩
theorem headOk_is {k l c r s : Int} (h : headOk k l c r s = true) : (1 ≤ k ∧ k < 5) ∧ (0 ≤ l ∧ l < 256) ∧ (0 ≤ c ∧ c < 65536) ∧ (0 ≤ r ∧ r < 4096) ∧ (0 ≤ s ∧ s < 4096) := by
  unfold headOk inB at h
  simp at h
  omega
theorem faultN_zero {k l c r s : Int} {body : ByteArray} {p : Int} (h : faultN k l c r s body p = 0) : sizeOk p = true ∧ headOk k l c r s = true ∧ (body.size : Int) ≤ p - 16 := by
  unfold faultN at h
  by_cases h1 : sizeOk p = true
  · rw [if_pos h1] at h
    by_cases h2 : headOk k l c r s = true
    · rw [if_pos h2] at h
      by_cases h3 : p - 16 < (body.size : Int)
      · rw [if_pos h3] at h
        omega
      · exact ⟨h1, h2, by omega⟩
    · rw [if_neg h2] at h
      omega
  · rw [if_neg h1] at h
    omega
theorem head_Seal.calls (a0_0 : Int) (a0_1 : Int) (a0_2 : Int) (a0_3 : Int) (a0_4 : Int) (a1 : ByteArray) (a2 : Int) (r1 : ByteArray) (r2 : Int) (w : World) (h : head_Seal.f a0_0 a0_1 a0_2 a0_3 a0_4 a1 a2 = some (r1, r2)) :
    Calls Tryz.prog 84 #[.agg #[.int .i64 a0_0, .int .i64 a0_1, .int .i64 a0_2, .int .i64 a0_3, .int .i64 a0_4], .string a1, .int .i64 a2] w fun e w' => e = .returned (.tuple #[.string r1, .int .i64 r2]) ∧ Below w.heap.size w w' := by
  unfold head_Seal.f at h
  have h := Option.some.inj h
  rw [Prod.mk.injEq] at h
  obtain ⟨h1, h2⟩ := h
  by_cases h0 : faultN a0_0 a0_1 a0_2 a0_3 a0_4 a1 a2 = 0
  · rw [if_pos h0] at h1
    rw [h0] at h2
    subst h1
    subst h2
    obtain ⟨q1, q2, q3⟩ := faultN_zero h0
    have q4 := sizeOk_bounds q1
    obtain ⟨q5, q6, q7, q8, q9⟩ := headOk_is q2
    exact head_Seal_yes a0_0 a0_1 a0_2 a0_3 a0_4 a1 a2 w h0 (by omega) q6 q7 q8 q9 q4 q3
  · rw [if_neg h0] at h1
    subst h1
    exact head_Seal_no a0_0 a0_1 a0_2 a0_3 a0_4 a1 a2 w r2 h2 (by omega)


end Go.Proofs.YtmheajenlhlbhaaGreatDoor.X

