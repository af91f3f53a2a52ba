/- What functions of the given program compute, step by step: the walks that the seat's laws lean on, part 12. No conditions. -/
import Derived.Test.YtmheajenlhlbhaaM01
import Derived.Test.YtmheajenlhlbhaaM04
import Derived.Test.YtmheajenlhlbhaaM10
import Derived.Test.YtmheajenlhlbhaaM03
import Derived.Test.YtmheajenlhlbhaaM09
import Derived.Test.YtmheajenlhlbhaaM11
namespace Go.Proofs.Ytmheajenlhlbhaa.X
open Go.RowKit Go.Proofs.YtmheajenlhlbhaaW.PrintWords Go.Proofs.YtmheajenlhlbhaaW.PrintLast Go.Proofs.YtmheajenlhlbhaaW.PrintMore
attribute [local go_sem] max2_int min2_int max_two min_two max_three min_three max_four min_four   -- for this text's walks alone
set_option linter.unusedVariables false
set_option linter.unusedSimpArgs false

/-! ### withyref01_Words: function 22 -/
def withyref01_Words.l0 : Nat → List ByteArray → List ByteArray → Int → Option (Bool)
  | 0, _, _, _ => none
  | k + 1, x0, x1, x5 => if x5 < (x0.length : Int) then (if 0 ≤ x5 then (if x5 < (x1.length : Int) then (if (rdOf ByteArray.empty x0 x5).toList = (rdOf ByteArray.empty x1 x5).toList then (withyref01_Words.l0 k x0 x1 (wrap64 (x5 + 1))) else (some false)) else (none)) else (none)) else (some true)
def withyref01_Words.f (k : Nat) (l0 : List ByteArray) (l1 : List ByteArray) : Option (Bool) := if (l0.length : Int) = (l1.length : Int) then (withyref01_Words.l0 k l0 l1 0) else (some false)
theorem withyref01_Words.mono_l : ∀ k, (∀ y0 y1 y2, LeO (withyref01_Words.l0 k y0 y1 y2) (withyref01_Words.l0 (k + 1) y0 y1 y2))
  | 0 => fun _ _ _ r h => by simp [withyref01_Words.l0] at h
  | k + 1 => by
    have ih0 := withyref01_Words.mono_l k
    · intro y0 y1 y2
      unfold withyref01_Words.l0
      repeat' first
      | (with_reducible exact ih0 _ _ _)
      | (with_reducible exact LeO.refl _)
      | (with_reducible exact LeO.none _)
      | (with_reducible refine LeO.ite ?_ ?_)
      | (with_reducible refine LeO.bind ?_ (fun _ => ?_))
      | exact ih0 _ _ _
      | exact LeO.none _
      | refine LeO.ite ?_ ?_
      | refine LeO.bind ?_ (fun _ => ?_)
theorem withyref01_Words.mono : ∀ a0 a1 k, LeO (withyref01_Words.f k a0 a1) (withyref01_Words.f (k + 1) a0 a1) := by
  intro a0 a1 k
  have ih0 := withyref01_Words.mono_l k
  unfold withyref01_Words.f
  repeat' first
      | (with_reducible exact ih0 _ _ _)
      | (with_reducible exact LeO.refl _)
      | (with_reducible exact LeO.none _)
      | (with_reducible refine LeO.ite ?_ ?_)
      | (with_reducible refine LeO.bind ?_ (fun _ => ?_))
      | exact ih0 _ _ _
      | exact LeO.none _
      | refine LeO.ite ?_ ?_
      | refine LeO.bind ?_ (fun _ => ?_)
set_option maxHeartbeats 8000000 in
set_option maxRecDepth 100000 in
theorem withyref01_Words.calls (k : Nat) (A0 : Option Addr) (c0 : Nat) (l0 : List ByteArray) (A1 : Option Addr) (c1 : Nat) (l1 : List ByteArray) (r : Bool) (w : World) (hr0 : Kd.C Kd.string w A0 l0.length l0) (hc0 : l0.length ≤ c0) (hr1 : Kd.C Kd.string w A1 l1.length l1) (hc1 : l1.length ≤ c1) (h : withyref01_Words.f k l0 l1 = some r) :
    Calls Try.prog 22 #[.slice A0 l0.length c0, .slice A1 l1.length c1] w fun e w' => e = .returned (.bool r) ∧ Drawn0 w w' := by
  have HR0 := Aside0.mk hr0
  have HC0 := Aside0.mk hc0
  clear hr0 hc0
  have HR1 := Aside0.mk hr1
  have HC1 := Aside0.mk hc1
  clear hr1 hc1
  have H : (if (l0.length : Int) = (l1.length : Int) then (withyref01_Words.l0 k l0 l1 0) else (some false)) = some r := h
  clear h
  by_cases c3 : (l0.length : Int) = (l1.length : Int)
  · rw [if_pos c3] at H
    have c3b0 : ((l0.length : Int) == (l1.length : Int)) = true := beq_iff_eq.mpr c3
    have c3b1 : ((l0.length : Int) != (l1.length : Int)) = false := bne_eq_false_iff_eq.mpr c3
    have c3b2 : (l0.length == l1.length) = true := by first | simpa using c3 | (simp at c3 ⊢; omega)
    clear c3
    have H' := Aside0.mk H
    clear H
    go_enter Try.func22, Try.ntmps22
    go_wp2
    repeat (go_quiet (fail); try go_wp2)
    go_loopg [5] k (fun kq v5 w' => ∃ (x5_1 : Int), v5 = .int .i64 x5_1 ∧ Aside0 (withyref01_Words.l0 kq l0 l1 x5_1 = some r) ∧ Aside0 (kq ≤ k) ∧ Drawn0 w w')
    case atStart => exact ⟨(0), (by first | rfl | (simp; done) | (simp [*]; done)), H', ⟨Nat.le_refl _⟩, by repeat (first | exact Drawn0.refl _ | apply Drawn0.step)⟩
    case round =>
      clear H'
      try clear c1
      try clear c2
      try clear p2
      try clear c3
      try clear c3b0
      try clear c3b1
      try clear c3b2
      obtain ⟨x5_1, rfl, HA, HK1, ⟨m1, rfl⟩⟩ := hrel
      cases gk with
      | zero => exact absurd HA.out (by simp [withyref01_Words.l0])
      | succ k1 =>
        have H := HA.out
        clear HA
        simp only [withyref01_Words.l0] at H
        by_cases c4 : x5_1 < (l0.length : Int)
        · rw [if_pos c4] at H
          have c4b0 : decide (x5_1 < (l0.length : Int)) = true := decide_eq_true c4
          clear c4
          by_cases c5 : 0 ≤ x5_1
          · rw [if_pos c5] at H
            have c5b0 : decide (0 ≤ x5_1) = true := decide_eq_true c5
            clear c5
            by_cases c6 : x5_1 < (l1.length : Int)
            · rw [if_pos c6] at H
              have c6b0 : decide (x5_1 < (l1.length : Int)) = true := decide_eq_true c6
              clear c6
              by_cases c7 : (rdOf ByteArray.empty l0 x5_1).toList = (rdOf ByteArray.empty l1 x5_1).toList
              · rw [if_pos c7] at H
                have c7b0 : ((rdOf ByteArray.empty l0 x5_1).toList == (rdOf ByteArray.empty l1 x5_1).toList) = true := beq_iff_eq.mpr c7
                have c7b1 : ((rdOf ByteArray.empty l0 x5_1).toList != (rdOf ByteArray.empty l1 x5_1).toList) = false := bne_eq_false_iff_eq.mpr c7
                clear c7
                have H' := Aside0.mk H
                clear H
                have p217 : 0 ≤ (x5_1 : Int) := of_decide_eq_true (by first | (with_reducible assumption) | assumption)
                have q217 : x5_1 < (l0.length : Int) := of_decide_eq_true (by first | (with_reducible assumption) | assumption)
                obtain ⟨ad217, e217, hx217_0⟩ := Kd.at_string HR0.out x5_1 p217 q217
                cases e217
                replace p217 := eq_true p217
                replace q217 := eq_true q217
                have p218 : 0 ≤ (x5_1 : Int) := of_decide_eq_true (by first | (with_reducible assumption) | assumption)
                have q218 : x5_1 < (l1.length : Int) := of_decide_eq_true (by first | (with_reducible assumption) | assumption)
                obtain ⟨ad218, e218, hx218_0⟩ := Kd.at_string HR1.out x5_1 p218 q218
                cases e218
                replace p218 := eq_true p218
                replace q218 := eq_true q218
                go_wp2
                repeat (go_quiet (fail); try go_wp2)
                go_roundg k1
                case measure => have := HK1.out; omega
                case rel => exact ⟨(wrap64 (x5_1 + 1)), (by first | rfl | (simp; done) | (simp [*]; done)), H', ⟨by have := HK1.out; omega⟩, by repeat (first | exact Drawn0.refl _ | apply Drawn0.step)⟩
              · rw [if_neg c7] at H
                have c7b0 : ((rdOf ByteArray.empty l0 x5_1).toList == (rdOf ByteArray.empty l1 x5_1).toList) = false := beq_eq_false_iff_ne.mpr c7
                have c7b1 : ((rdOf ByteArray.empty l0 x5_1).toList != (rdOf ByteArray.empty l1 x5_1).toList) = true := bne_iff_ne.mpr c7
                obtain rfl := Option.some.inj H
                have p217 : 0 ≤ (x5_1 : Int) := of_decide_eq_true (by first | (with_reducible assumption) | assumption)
                have q217 : x5_1 < (l0.length : Int) := of_decide_eq_true (by first | (with_reducible assumption) | assumption)
                obtain ⟨ad217, e217, hx217_0⟩ := Kd.at_string HR0.out x5_1 p217 q217
                cases e217
                replace p217 := eq_true p217
                replace q217 := eq_true q217
                have p218 : 0 ≤ (x5_1 : Int) := of_decide_eq_true (by first | (with_reducible assumption) | assumption)
                have q218 : x5_1 < (l1.length : Int) := of_decide_eq_true (by first | (with_reducible assumption) | assumption)
                obtain ⟨ad218, e218, hx218_0⟩ := Kd.at_string HR1.out x5_1 p218 q218
                cases e218
                replace p218 := eq_true p218
                replace q218 := eq_true q218
                go_wp2
                repeat (go_quiet (fail); try go_wp2)
                go_ret
                exact ⟨by first | rfl | (simp; done) | (simp [*]; done), by repeat (first | exact Drawn0.refl _ | apply Drawn0.step)⟩
            · rw [if_neg c6] at H
              exact absurd H (by simp)
          · rw [if_neg c5] at H
            exact absurd H (by simp)
        · rw [if_neg c4] at H
          have c4b0 : decide (x5_1 < (l0.length : Int)) = false := decide_eq_false c4
          clear c4
          obtain rfl := Option.some.inj H
          go_wp2
          repeat (go_quiet (fail); try go_wp2)
          go_ret
          exact ⟨by first | rfl | (simp; done) | (simp [*]; done), by repeat (first | exact Drawn0.refl _ | apply Drawn0.step)⟩
  · rw [if_neg c3] at H
    have c3b0 : ((l0.length : Int) == (l1.length : Int)) = false := beq_eq_false_iff_ne.mpr c3
    have c3b1 : ((l0.length : Int) != (l1.length : Int)) = true := bne_iff_ne.mpr c3
    have c3b2 : (l0.length == l1.length) = false := by first | simpa using c3 | (simp at c3 ⊢; omega)
    obtain rfl := Option.some.inj H
    go_enter Try.func22, Try.ntmps22
    go_wp2
    repeat (go_quiet (fail); try go_wp2)
    go_ret
    exact ⟨by first | rfl | (simp; done) | (simp [*]; done), by repeat (first | exact Drawn0.refl _ | apply Drawn0.step)⟩

end Go.Proofs.Ytmheajenlhlbhaa.X

namespace Go.Proofs.Ytmheajenlhlbhaa.X
open Go.RowKit Go.Proofs.YtmheajenlhlbhaaW.PrintWords Go.Proofs.YtmheajenlhlbhaaW.PrintLast Go.Proofs.YtmheajenlhlbhaaW.PrintMore
attribute [local go_sem] max2_int min2_int max_two min_two max_three min_three max_four min_four   -- for this text's walks alone
set_option linter.unusedVariables false
set_option linter.unusedSimpArgs false

/-! ### pack_Seps: function 23 -/
def pack_Seps.l0 : Nat → List (S35) → List ByteArray → Int → List Int → Int → Int → Option (List ByteArray)
  | 0, _, _, _, _, _, _ => none
  | k + 1, x0, x5, x6, x9, x10, x11 => if x11 < x10 then (if 0 ≤ x11 then (if x11 < (x9.length : Int) then (if x6 > 0 then ((pack_high.f x0 x6).bind fun t220 => (if x5.length < 8796093022208 then (pack_Seps.l0 k x0 (x5 ++ [t220]) (wrap64 (x6 + (rd x9 x11))) x9 x10 (wrap64 (x11 + 1))) else (none))) else (pack_Seps.l0 k x0 x5 (wrap64 (x6 + (rd x9 x11))) x9 x10 (wrap64 (x11 + 1)))) else (none)) else (none)) else (some x5)
def pack_Seps.f (k : Nat) (l0 : List (S35)) (l1 : List Int) : Option (List ByteArray) := pack_Seps.l0 k l0 ([] : List ByteArray) 0 l1 (l1.length : Int) 0
theorem pack_Seps.mono_l : ∀ k, (∀ y0 y1 y2 y3 y4 y5, LeO (pack_Seps.l0 k y0 y1 y2 y3 y4 y5) (pack_Seps.l0 (k + 1) y0 y1 y2 y3 y4 y5))
  | 0 => fun _ _ _ _ _ _ r h => by simp [pack_Seps.l0] at h
  | k + 1 => by
    have ih0 := pack_Seps.mono_l k
    · intro y0 y1 y2 y3 y4 y5
      unfold pack_Seps.l0
      repeat' first
      | (with_reducible exact ih0 _ _ _ _ _ _)
      | (with_reducible exact LeO.refl _)
      | (with_reducible exact LeO.none _)
      | (with_reducible refine LeO.ite ?_ ?_)
      | (with_reducible refine LeO.bind ?_ (fun _ => ?_))
      | exact ih0 _ _ _ _ _ _
      | exact LeO.none _
      | refine LeO.ite ?_ ?_
      | refine LeO.bind ?_ (fun _ => ?_)
theorem pack_Seps.mono : ∀ a0 a1 k, LeO (pack_Seps.f k a0 a1) (pack_Seps.f (k + 1) a0 a1) := by
  intro a0 a1 k
  have ih0 := pack_Seps.mono_l k
  unfold pack_Seps.f
  repeat' first
      | (with_reducible exact ih0 _ _ _ _ _ _)
      | (with_reducible exact LeO.refl _)
      | (with_reducible exact LeO.none _)
      | (with_reducible refine LeO.ite ?_ ?_)
      | (with_reducible refine LeO.bind ?_ (fun _ => ?_))
      | exact ih0 _ _ _ _ _ _
      | exact LeO.none _
      | refine LeO.ite ?_ ?_
      | refine LeO.bind ?_ (fun _ => ?_)
set_option maxHeartbeats 8000000 in
set_option maxRecDepth 100000 in
theorem pack_Seps.calls (k : Nat) (A0 : Option Addr) (c0 : Nat) (l0 : List (S35)) (A1 : Option Addr) (c1 : Nat) (l1 : List Int) (r : List ByteArray) (w : World) (hr0 : Kd.C k35 w A0 l0.length l0) (hc0 : l0.length ≤ c0) (hr1 : Kd.C (Kd.int .i64) w A1 l1.length l1) (hc1 : l1.length ≤ c1) (h : pack_Seps.f k l0 l1 = some r) :
    Calls Try.prog 23 #[.slice A0 l0.length c0, .slice A1 l1.length c1] w fun e w' => ∃ v0_ : Value, e = .returned (v0_) ∧ Kd.R Kd.string 9 w' w.heap.size (fun _ => True) v0_ r ∧ Below w.heap.size w w' := by
  have HR0 := Aside0.mk hr0
  have HC0 := Aside0.mk hc0
  clear hr0 hc0
  have HR1 := Aside0.mk hr1
  have HC1 := Aside0.mk hc1
  clear hr1 hc1
  have HB := Aside0.mk (Below.refl w.heap.size w)
  have H : (pack_Seps.l0 k l0 ([] : List ByteArray) 0 l1 (l1.length : Int) 0) = some r := h
  clear h
  have H' := Aside0.mk H
  clear H
  go_enter Try.func23, Try.ntmps23
  go_wp2
  go_loopg [5, 6, 11] k (fun kq v5 v6 v11 w' => ∃ (x5_1 : List ByteArray) (x6_1 : Int) (x11_1 : Int), v6 = .int .i64 x6_1 ∧ v11 = .int .i64 x11_1 ∧ Aside0 (pack_Seps.l0 kq l0 x5_1 x6_1 l1 (l1.length : Int) x11_1 = some r) ∧ Aside0 (kq ≤ k) ∧ Aside0 (Kd.R Kd.string 9 w' w.heap.size (fun _ => True) v5 x5_1) ∧ Aside0 (Below w.heap.size w w'))
  case atStart => exact ⟨(([] : List ByteArray)), (0), (0), (by first | rfl | (simp; done) | (simp [*]; done)), (by first | rfl | (simp; done) | (simp [*]; done)), H', ⟨Nat.le_refl _⟩, ⟨by first | exact Kd.R_nil _ _ _ _ _ | exact Kd.N_nil _ _ _ _ _ | exact Kd.V_nil _ _ _ _ _ | exact Kd.Q_nil _ _ _ _ _ | exact Kd.S_nil _ _ _ _ _⟩, ⟨by repeat (first | (with_reducible first | exact HB.out | apply below_alloc | apply pw_below_drewN | apply below_drew1) | exact HB.out)⟩⟩
  case round =>
    clear H'
    try clear c1
    try clear c2
    try clear p2
    obtain ⟨x5_1, x6_1, x11_1, rfl, rfl, HA, HK1, HO_5, HB⟩ := hrel
    cases gk with
    | zero => exact absurd HA.out (by simp [pack_Seps.l0])
    | succ k1 =>
      have H := HA.out
      clear HA
      simp only [pack_Seps.l0] at H
      by_cases c3 : x11_1 < (l1.length : Int)
      · rw [if_pos c3] at H
        have c3b0 : decide (x11_1 < (l1.length : Int)) = true := decide_eq_true c3
        clear c3
        by_cases c4 : 0 ≤ x11_1
        · rw [if_pos c4] at H
          have c4b0 : decide (0 ≤ x11_1) = true := decide_eq_true c4
          clear c4
          by_cases c5 : x11_1 < (l1.length : Int)
          · rw [if_pos c5] at H
            have c5b0 : decide (x11_1 < (l1.length : Int)) = true := decide_eq_true c5
            clear c5
            by_cases c6 : x6_1 > 0
            · rw [if_pos c6] at H
              have c6b0 : decide (0 < x6_1) = true := decide_eq_true c6
              clear c6
              replace H := Option.bind_eq_some_iff.mp H
              obtain ⟨t220, A70, H⟩ := H
              replace H : (if x5_1.length < 8796093022208 then (pack_Seps.l0 k1 l0 (x5_1 ++ [t220]) (wrap64 (x6_1 + (rd l1 x11_1))) l1 (l1.length : Int) (wrap64 (x11_1 + 1))) else (none)) = some r := H
              have A7 := Aside0.mk A70
              clear A70
              by_cases c8 : x5_1.length < 8796093022208
              · rw [if_pos c8] at H
                have LMc8 := Aside0.mk c8
                clear c8
                obtain ⟨y221, hy221⟩ : ∃ y_ : List ByteArray, y_ = (x5_1 ++ [t220]) := ⟨_, rfl⟩
                replace H : (pack_Seps.l0 k1 l0 y221 (wrap64 (x6_1 + (rd l1 x11_1))) l1 (l1.length : Int) (wrap64 (x11_1 + 1))) = some r := by first | (rw [hy221]; with_reducible exact H) | (have H2_ := (Option.bind_some _ _).symm.trans H; rw [hy221]; with_reducible exact H2_) | (have H2_ := (Option.bind_some _ _).symm.trans H; with_reducible exact H2_) | with_reducible exact H | (rw [hy221]; exact H) | exact H
                have Ny221 := Aside0.mk hy221
                clear hy221
                have H' := Aside0.mk H
                clear H
                have p219 : 0 ≤ (x11_1 : Int) := of_decide_eq_true (by first | (with_reducible assumption) | assumption)
                have q219 : x11_1 < (l1.length : Int) := of_decide_eq_true (by first | (with_reducible assumption) | assumption)
                obtain ⟨ad219, e219, hx219_0⟩ := Kd.at_int HR1.out x11_1 p219 q219
                cases e219
                replace hx219_0 := (HB.out.cell (World.block_lt_of_cell? w _ hx219_0)).trans hx219_0
                replace p219 := eq_true p219
                replace q219 := eq_true q219
                go_wp2_with (first | ((with_reducible refine gate_callee (f := 31) rfl ?_); refine goesL_ (some 20) rfl rfl Try.func31 (by kernel_rfl) rfl #[.slice A0 l0.length c0, .int .i64 x6_1] rfl (by (try simp only [List.map_toArray, List.map_cons, List.map_nil]); first | done | rfl | (simp only [List.length_drop, List.length_take]; rfl)) ?_; (with_reducible refine (pack_high.calls _ _ l0 x6_1 t220 _ ?side1 ?side2 A7.out).mono ?_); (case side1 => repeat (first | exact (Kd.C_below HR0.out HB.out) | (with_reducible refine Kd.C_alloc ?_ _) | (with_reducible refine Kd.C_drewN ?_ _) | (with_reducible refine Kd.C_drew ?_))); (case side2 => exact HC0.out); rintro e w9 ⟨rfl, hb⟩; refine ⟨_, rfl, ?_⟩; have n0_ := Aside0.mk (Kd.R_below (by (with_reducible repeat (first | apply Kd.R_alloc | apply Kd.R_drewN | apply Kd.R_drew)); exact HO_5.out) hb); have n1_ := Aside0.mk (below_step (by repeat (first | (with_reducible first | exact HB.out | apply below_alloc | apply pw_below_drewN | apply below_drew1) | exact HB.out)) hb); clear HO_5; clear HB; have HO_5 := n0_; have HB := n1_; clear n0_ n1_; (try clear hb); (try clear hb2); (try clear hk); (try clear hi)) | ((with_reducible refine gate_builtin (b := .append) (xs := #[.tmp 17, .tmp 21]) rfl ?_); at_builtin; refine Kd.R_append Kd.string (w0 := w) w.heap.size rfl (.tmp 17) (.tmp 21) 55 9 (.string ⟨#[]⟩) 16 rfl Try.underlying55 info9 rfl (by decide) (by omega) u5 x5_1 t220 [.string t220] (fun _ => True) (fun _ => False) rfl rfl ?aP (fun _ hk => hk.elim) ?aF ?aO ?aB ?aS ?aL ?_; (case aP => exact rfl); (case aB => exact (by repeat (first | (with_reducible first | exact HB.out | apply below_alloc | apply pw_below_drewN | apply below_drew1) | exact HB.out))); (case aF => exact (fun _ _ => trivial)); (case aO => exact (by (with_reducible repeat (first | apply Kd.R_alloc | apply Kd.R_drewN | apply Kd.R_drew)); exact HO_5.out)); (case aS => exact (below_size (by repeat (first | (with_reducible first | exact HB.out | apply below_alloc | apply pw_below_drewN | apply below_drew1) | exact HB.out)))); (case aL => have := LMc8.out; omega); intro v222 w10 ho hb hg hat; rw [← Ny221.out] at ho; have n0_ := Aside0.mk (hb); have n1_ := Aside0.mk (ho); clear HB; clear HO_5; have HB := n0_; have HO223 := n1_; clear n0_ n1_; clear ho hb hg hat))
                go_roundg k1
                case measure => have := HK1.out; omega
                case rel => exact ⟨(y221), (wrap64 (x6_1 + (rd l1 x11_1))), (wrap64 (x11_1 + 1)), (by first | rfl | (simp; done) | (simp [*]; done)), (by first | rfl | (simp; done) | (simp [*]; done)), H', ⟨by have := HK1.out; omega⟩, ⟨by (with_reducible repeat (first | apply Kd.R_alloc | apply Kd.R_drewN | apply Kd.R_drew)); exact HO223.out⟩, ⟨by repeat (first | (with_reducible first | exact HB.out | apply below_alloc | apply pw_below_drewN | apply below_drew1) | exact HB.out)⟩⟩
              · rw [if_neg c8] at H
                exact absurd H (by simp)
            · rw [if_neg c6] at H
              have c6b0 : decide (0 < x6_1) = false := decide_eq_false c6
              clear c6
              have H' := Aside0.mk H
              clear H
              have p219 : 0 ≤ (x11_1 : Int) := of_decide_eq_true (by first | (with_reducible assumption) | assumption)
              have q219 : x11_1 < (l1.length : Int) := of_decide_eq_true (by first | (with_reducible assumption) | assumption)
              obtain ⟨ad219, e219, hx219_0⟩ := Kd.at_int HR1.out x11_1 p219 q219
              cases e219
              replace hx219_0 := (HB.out.cell (World.block_lt_of_cell? w _ hx219_0)).trans hx219_0
              replace p219 := eq_true p219
              replace q219 := eq_true q219
              go_wp2
              go_roundg k1
              case measure => have := HK1.out; omega
              case rel => exact ⟨(x5_1), (wrap64 (x6_1 + (rd l1 x11_1))), (wrap64 (x11_1 + 1)), (by first | rfl | (simp; done) | (simp [*]; done)), (by first | rfl | (simp; done) | (simp [*]; done)), H', ⟨by have := HK1.out; omega⟩, ⟨by (with_reducible repeat (first | apply Kd.R_alloc | apply Kd.R_drewN | apply Kd.R_drew)); exact HO_5.out⟩, ⟨by repeat (first | (with_reducible first | exact HB.out | apply below_alloc | apply pw_below_drewN | apply below_drew1) | exact HB.out)⟩⟩
          · rw [if_neg c5] at H
            exact absurd H (by simp)
        · rw [if_neg c4] at H
          exact absurd H (by simp)
      · rw [if_neg c3] at H
        have c3b0 : decide (x11_1 < (l1.length : Int)) = false := decide_eq_false c3
        clear c3
        obtain rfl := Option.some.inj H
        go_wp2
        go_ret
        exact ⟨_, by first | rfl | (simp [errW_none, errW_some] <;> rfl) | (simp [*, errW_none, errW_some] <;> rfl), by (with_reducible repeat (first | apply Kd.R_alloc | apply Kd.R_drewN | apply Kd.R_drew)); exact HO_5.out, by repeat (first | (with_reducible first | exact HB.out | apply below_alloc | apply pw_below_drewN | apply below_drew1) | exact HB.out)⟩

end Go.Proofs.Ytmheajenlhlbhaa.X

namespace Go.Proofs.Ytmheajenlhlbhaa.X
open Go.RowKit Go.Proofs.YtmheajenlhlbhaaW.PrintWords Go.Proofs.YtmheajenlhlbhaaW.PrintLast Go.Proofs.YtmheajenlhlbhaaW.PrintMore
attribute [local go_sem] max2_int min2_int max_two min_two max_three min_three max_four min_four   -- for this text's walks alone
set_option linter.unusedVariables false
set_option linter.unusedSimpArgs false

--GIVEN-- withy/withylaw16.fixed
/-! ### withylaw16_fixed: function 12 -/
attribute [local go_sem high] eqA32
def fx_s (l : List UInt8) : ByteArray := ⟨l.toArray⟩
def fx_v : ByteArray := fx_s (List.replicate 32 118)
def fx_L0 : List S30 := [⟨fx_s [97], fx_v⟩, ⟨fx_s [98], fx_v⟩, ⟨fx_s [99], fx_v⟩]
def fx_M0 : List S35 := [⟨fx_s [97], ⟨false, fx_v, 0, 0⟩⟩, ⟨fx_s [98], ⟨false, fx_v, 0, 0⟩⟩, ⟨fx_s [99], ⟨false, fx_v, 0, 0⟩⟩]
def fx_r : ByteArray := fx_s (List.replicate 113 1)
def fx_q : ByteArray := fx_s (List.replicate 17 1)
def fx_L1 : List S30 := [⟨fx_s [97], fx_v ++ fx_s [120]⟩, ⟨fx_s [98], fx_r⟩, ⟨fx_s [99], fx_s []⟩]
def fx_M1 : List S35 := [⟨fx_s [97], ⟨true, fx_s [], 33, 5⟩⟩, ⟨fx_s [98], ⟨true, fx_s [], 113, 6⟩⟩, ⟨fx_s [99], ⟨false, fx_s [], 0, 0⟩⟩]
theorem fx_lit30 (W : World) (b : Nat) (l : List S30) (hl : l.length ≤ 3) (h : ∀ j x, l[j]? = some x → W.cell? ⟨b, j * 2, none⟩ = some (.string x.f0) ∧ W.cell? ⟨b, j * 2 + 1, none⟩ = some (.string x.f1)) : Kd.C k30 W (some ⟨b, 0, none⟩) l.length l := by
  refine ⟨rfl, by omega, fun _ => ⟨_, rfl, fun j p hj => ⟨[.string p.f0, .string p.f1], rfl, k30_mk _ _, fun i u hu => ?_⟩⟩⟩
  have hc := h j p hj
  have ea : ∀ n : Nat, (⟨b, 0, none⟩ : Addr).add n = ⟨b, n, none⟩ := by
    intro n
    unfold Addr.add
    split
    · rename_i h0
      rw [h0]
    · simp
  match i, hu with
  | 0, hu => cases hu; rw [ea]; exact hc.1
  | 1, hu => cases hu; rw [ea]; exact hc.2
theorem fx_litI (W : World) (b : Nat) (l : List Int) (hl : l.length ≤ 3) (h : ∀ j x, l[j]? = some x → W.cell? ⟨b, j, none⟩ = some (.int .i64 x)) : Kd.C (Kd.int .i64) W (some ⟨b, 0, none⟩) l.length l := by
  refine Kd.C_of_reads (enc := Value.int .i64) (d := (0 : Int)) (h1 := fun _ => rfl) ⟨rfl, by omega, fun _ => ⟨_, rfl, fun j hj => ?_⟩⟩
  have hc := h j (l.getD j 0) (by rw [List.getD_eq_getElem?_getD, List.getElem?_eq_getElem hj]; rfl)
  unfold Addr.add
  split
  · rename_i h0
    rw [h0] at hc ⊢
    exact hc
  · simpa using hc
theorem fx_litS (W : World) (b : Nat) (s : ByteArray) (h : W.cell? ⟨b, 0, none⟩ = some (.string s)) : Kd.C Kd.string W (some ⟨b, 0, none⟩) 1 [s] := by
  refine Kd.C_of_reads (enc := Value.string) (d := ByteArray.empty) (h1 := fun _ => rfl) ⟨rfl, by omega, fun _ => ⟨_, rfl, fun j hj => ?_⟩⟩
  obtain rfl : j = 0 := by omega
  exact h

theorem fx_f1 : withyref01_Repeat.f 120 118 32 = some fx_v := by decide +kernel
theorem fx_f2 : pack_Items.f 10 fx_L0 1 128 = some (fx_M0, 1) := by kernel_rfl
theorem fx_f3 : withyref01_Repeat.f 120 1 113 = some fx_r := by decide +kernel
theorem fx_f4 : pack_Items.f 10 fx_L1 5 128 = some (fx_M1, 8) := by kernel_rfl
theorem fx_f5 : pack_Right.f 10 fx_L0 128 = some true := by decide +kernel
theorem fx_f6 : pack_Right.f 10 fx_L0 64 = some false := by decide +kernel
theorem fx_f7 : pack_Right.f 10 [⟨fx_s [98], fx_s []⟩, ⟨fx_s [97], fx_s []⟩] 128 = some false := by decide +kernel
theorem fx_f8 : pack_Right.f 10 [⟨fx_s [98], fx_s []⟩, ⟨fx_s [98], fx_s []⟩] 128 = some false := by decide +kernel
theorem fx_f9 : withyref01_Repeat.f 120 1 17 = some fx_q := by decide +kernel
theorem fx_f10 : pack_Right.f 10 [⟨fx_q, fx_s []⟩] 128 = some false := by decide +kernel
theorem fx_f11 : pack_Group.f fx_M0 128 = some [2, 1] := by decide +kernel
theorem fx_f12 : withyref01_Ints.f 10 [2, 1] [2, 1] = some true := by decide +kernel
theorem fx_f13 : pack_Group.f [] 128 = some [0] := by decide +kernel
theorem fx_f14 : withyref01_Ints.f 10 [0] [0] = some true := by decide +kernel
theorem fx_f15 : pack_Seps.f 10 fx_M0 [2, 1] = some [fx_s [99]] := by decide +kernel
theorem fx_f16 : withyref01_Words.f 10 [fx_s [99]] [fx_s [99]] = some true := by decide +kernel
theorem fx_f17 : pack_Seps.f 10 fx_M0 [3] = some [] := by decide +kernel
def withylaw16_fixed.f : Option Bool := some true
set_option maxRecDepth 100000 in
set_option maxHeartbeats 8000000 in
theorem withylaw16_fixed.calls (r : Bool) (w : World) (h : withylaw16_fixed.f = some r) :
    Calls Try.prog 12 #[] w fun e w' => e = .returned (.bool r) ∧ Below w.heap.size w w' := by
  obtain rfl : true = r := Option.some.inj h
  clear h
  have HB := Aside0.mk (Below.refl w.heap.size w)
  go_enter Try.func12, Try.ntmps12
  go_wp2_with fail
  refine (withyref01_Repeat.calls 120 118 32 fx_v _ fx_f1).mono ?_
  rintro e w1 ⟨rfl, hb⟩
  have u : Below w.heap.size w w1 := by first | exact hb | exact below_step (by first | exact Below.refl _ _ | exact below_alloc (Below.refl _ _) _ | exact below_alloc (below_alloc (Below.refl _ _) _) _) hb
  have n0 := Aside0.mk (below_step HB.out u)
  clear u HB 
  have HB := n0
  clear n0 
  clear hb
  go_wp2_with fail
  have HL0 := Aside0.mk (fx_lit30 (w1.alloc (.cells #[.string (fx_s [97]), .string (fx_v), .string (fx_s [98]), .string (fx_v), .string (fx_s [99]), .string (fx_v)] 30)) w1.heap.size (fx_L0) (by decide) (fun j x hj => by (match j, hj with | 0, hj => cases hj; constructor <;> go_simp <;> rfl | 1, hj => cases hj; constructor <;> go_simp <;> rfl | 2, hj => cases hj; constructor <;> go_simp <;> rfl)))
  refine (pack_Items.calls 10 (some ⟨w1.heap.size, 0, none⟩) 3 fx_L0 1 128 fx_M0 1 _ HL0.out (Nat.le_refl _) fx_f2).mono ?_
  rintro e w2 ⟨v, rfl, ho, hb⟩
  have u : Below w1.heap.size w1 w2 := by first | exact hb | exact below_step (by first | exact Below.refl _ _ | exact below_alloc (Below.refl _ _) _ | exact below_alloc (below_alloc (Below.refl _ _) _) _) hb
  have n0 := Aside0.mk (below_step HB.out u)
  have nHL0 := Aside0.mk (Kd.C_below HL0.out hb)
  clear u HB HL0
  have HB := n0
  have HL0 := nHL0
  clear n0 nHL0
  obtain ⟨AHM0, cHM0, hv⟩ := Kd.R_slice ho
  subst hv
  have cHM0l := (Kd.R_reads' ho).2.1
  have HM0 := Aside0.mk (Kd.R_reads' ho).2.2
  rw [show fx_M0.length = 3 from rfl] at cHM0l HM0 ⊢
  clear ho hb
  go_wp2_with fail
  refine (withyref01_Repeat.calls 120 1 113 fx_r _ fx_f3).mono ?_
  rintro e w3 ⟨rfl, hb⟩
  have u : Below w2.heap.size w2 w3 := by first | exact hb | exact below_step (by first | exact Below.refl _ _ | exact below_alloc (Below.refl _ _) _ | exact below_alloc (below_alloc (Below.refl _ _) _) _) hb
  have n0 := Aside0.mk (below_step HB.out u)
  have nHL0 := Aside0.mk (Kd.C_below HL0.out u)
  have nHM0 := Aside0.mk (Kd.C_below HM0.out u)
  clear u HB HL0 HM0
  have HB := n0
  have HL0 := nHL0
  have HM0 := nHM0
  clear n0 nHL0 nHM0
  clear hb
  go_wp2_with fail
  have HL1 := Aside0.mk (fx_lit30 (w3.alloc (.cells #[.string (fx_s [97]), .string (fx_v ++ fx_s [120]), .string (fx_s [98]), .string (fx_r), .string (fx_s [99]), .string (fx_s [])] 30)) w3.heap.size (fx_L1) (by decide) (fun j x hj => by (match j, hj with | 0, hj => cases hj; constructor <;> go_simp <;> rfl | 1, hj => cases hj; constructor <;> go_simp <;> rfl | 2, hj => cases hj; constructor <;> go_simp <;> rfl)))
  refine (pack_Items.calls 10 (some ⟨w3.heap.size, 0, none⟩) 3 fx_L1 5 128 fx_M1 8 _ HL1.out (Nat.le_refl _) fx_f4).mono ?_
  rintro e w4 ⟨v, rfl, ho, hb⟩
  have u : Below w3.heap.size w3 w4 := by first | exact hb | exact below_step (by first | exact Below.refl _ _ | exact below_alloc (Below.refl _ _) _ | exact below_alloc (below_alloc (Below.refl _ _) _) _) hb
  have n0 := Aside0.mk (below_step HB.out u)
  have nHL0 := Aside0.mk (Kd.C_below HL0.out u)
  have nHM0 := Aside0.mk (Kd.C_below HM0.out u)
  clear u HB HL0 HM0 HL1
  have HB := n0
  have HL0 := nHL0
  have HM0 := nHM0
  clear n0 nHL0 nHM0
  obtain ⟨AHM1, cHM1, hv⟩ := Kd.R_slice ho
  subst hv
  have cHM1l := (Kd.R_reads' ho).2.1
  have HM1 := Aside0.mk (Kd.R_reads' ho).2.2
  rw [show fx_M1.length = 3 from rfl] at cHM1l HM1 ⊢
  clear ho hb
  go_wp2_with fail
  refine (pack_Right.calls 10 (some ⟨w1.heap.size, 0, none⟩) 3 fx_L0 128 true _ HL0.out (Nat.le_refl _) fx_f5).mono ?_
  rintro e w5 ⟨rfl, hb⟩
  have u : Below w4.heap.size w4 w5 := by first | exact hb | exact below_step (by first | exact Below.refl _ _ | exact below_alloc (Below.refl _ _) _ | exact below_alloc (below_alloc (Below.refl _ _) _) _) hb
  have n0 := Aside0.mk (below_step HB.out u)
  have nHL0 := Aside0.mk (Kd.C_below HL0.out u)
  have nHM0 := Aside0.mk (Kd.C_below HM0.out u)
  have nHM1 := Aside0.mk (Kd.C_below HM1.out u)
  clear u HB HL0 HM0 HM1
  have HB := n0
  have HL0 := nHL0
  have HM0 := nHM0
  have HM1 := nHM1
  clear n0 nHL0 nHM0 nHM1
  clear hb
  go_wp2_with fail
  refine (pack_Right.calls 10 (some ⟨w1.heap.size, 0, none⟩) 3 fx_L0 64 false _ HL0.out (Nat.le_refl _) fx_f6).mono ?_
  rintro e w6 ⟨rfl, hb⟩
  have u : Below w5.heap.size w5 w6 := by first | exact hb | exact below_step (by first | exact Below.refl _ _ | exact below_alloc (Below.refl _ _) _ | exact below_alloc (below_alloc (Below.refl _ _) _) _) hb
  have n0 := Aside0.mk (below_step HB.out u)
  have nHL0 := Aside0.mk (Kd.C_below HL0.out u)
  have nHM0 := Aside0.mk (Kd.C_below HM0.out u)
  have nHM1 := Aside0.mk (Kd.C_below HM1.out u)
  clear u HB HL0 HM0 HM1
  have HB := n0
  have HL0 := nHL0
  have HM0 := nHM0
  have HM1 := nHM1
  clear n0 nHL0 nHM0 nHM1
  clear hb
  clear HL0
  go_wp2_with fail
  have HX := Aside0.mk (fx_lit30 (w6.alloc (.cells #[.string (fx_s [98]), .string (fx_s []), .string (fx_s [97]), .string (fx_s [])] 30)) w6.heap.size ([⟨fx_s [98], fx_s []⟩, ⟨fx_s [97], fx_s []⟩]) (by decide) (fun j x hj => by (match j, hj with | 0, hj => cases hj; constructor <;> go_simp <;> rfl | 1, hj => cases hj; constructor <;> go_simp <;> rfl)))
  refine (pack_Right.calls 10 (some ⟨w6.heap.size, 0, none⟩) 2 ([⟨fx_s [98], fx_s []⟩, ⟨fx_s [97], fx_s []⟩]) 128 false _ HX.out (Nat.le_refl _) fx_f7).mono ?_
  rintro e w7 ⟨rfl, hb⟩
  have u : Below w6.heap.size w6 w7 := by first | exact hb | exact below_step (by first | exact Below.refl _ _ | exact below_alloc (Below.refl _ _) _ | exact below_alloc (below_alloc (Below.refl _ _) _) _) hb
  have n0 := Aside0.mk (below_step HB.out u)
  have nHM0 := Aside0.mk (Kd.C_below HM0.out u)
  have nHM1 := Aside0.mk (Kd.C_below HM1.out u)
  clear u HB HM0 HM1 HX
  have HB := n0
  have HM0 := nHM0
  have HM1 := nHM1
  clear n0 nHM0 nHM1
  clear hb
  go_wp2_with fail
  have HX := Aside0.mk (fx_lit30 (w7.alloc (.cells #[.string (fx_s [98]), .string (fx_s []), .string (fx_s [98]), .string (fx_s [])] 30)) w7.heap.size ([⟨fx_s [98], fx_s []⟩, ⟨fx_s [98], fx_s []⟩]) (by decide) (fun j x hj => by (match j, hj with | 0, hj => cases hj; constructor <;> go_simp <;> rfl | 1, hj => cases hj; constructor <;> go_simp <;> rfl)))
  refine (pack_Right.calls 10 (some ⟨w7.heap.size, 0, none⟩) 2 ([⟨fx_s [98], fx_s []⟩, ⟨fx_s [98], fx_s []⟩]) 128 false _ HX.out (Nat.le_refl _) fx_f8).mono ?_
  rintro e w8 ⟨rfl, hb⟩
  have u : Below w7.heap.size w7 w8 := by first | exact hb | exact below_step (by first | exact Below.refl _ _ | exact below_alloc (Below.refl _ _) _ | exact below_alloc (below_alloc (Below.refl _ _) _) _) hb
  have n0 := Aside0.mk (below_step HB.out u)
  have nHM0 := Aside0.mk (Kd.C_below HM0.out u)
  have nHM1 := Aside0.mk (Kd.C_below HM1.out u)
  clear u HB HM0 HM1 HX
  have HB := n0
  have HM0 := nHM0
  have HM1 := nHM1
  clear n0 nHM0 nHM1
  clear hb
  go_wp2_with fail
  refine (withyref01_Repeat.calls 120 1 17 fx_q _ fx_f9).mono ?_
  rintro e w9 ⟨rfl, hb⟩
  have u : Below w8.heap.size w8 w9 := by first | exact hb | exact below_step (by first | exact Below.refl _ _ | exact below_alloc (Below.refl _ _) _ | exact below_alloc (below_alloc (Below.refl _ _) _) _) hb
  have n0 := Aside0.mk (below_step HB.out u)
  have nHM0 := Aside0.mk (Kd.C_below HM0.out u)
  have nHM1 := Aside0.mk (Kd.C_below HM1.out u)
  clear u HB HM0 HM1
  have HB := n0
  have HM0 := nHM0
  have HM1 := nHM1
  clear n0 nHM0 nHM1
  clear hb
  go_wp2_with fail
  have HX := Aside0.mk (fx_lit30 (w9.alloc (.cells #[.string (fx_q), .string (fx_s [])] 30)) w9.heap.size ([⟨fx_q, fx_s []⟩]) (by decide) (fun j x hj => by (match j, hj with | 0, hj => cases hj; constructor <;> go_simp <;> rfl)))
  refine (pack_Right.calls 10 (some ⟨w9.heap.size, 0, none⟩) 1 ([⟨fx_q, fx_s []⟩]) 128 false _ HX.out (Nat.le_refl _) fx_f10).mono ?_
  rintro e w10 ⟨rfl, hb⟩
  have u : Below w9.heap.size w9 w10 := by first | exact hb | exact below_step (by first | exact Below.refl _ _ | exact below_alloc (Below.refl _ _) _ | exact below_alloc (below_alloc (Below.refl _ _) _) _) hb
  have n0 := Aside0.mk (below_step HB.out u)
  have nHM0 := Aside0.mk (Kd.C_below HM0.out u)
  have nHM1 := Aside0.mk (Kd.C_below HM1.out u)
  clear u HB HM0 HM1 HX
  have HB := n0
  have HM0 := nHM0
  have HM1 := nHM1
  clear n0 nHM0 nHM1
  clear hb
  go_wp2_with fail
  refine (pack_Group.calls AHM0 cHM0 fx_M0 128 [2, 1] _ HM0.out cHM0l fx_f11).mono ?_
  rintro e w11 ⟨v, rfl, ho, hb⟩
  have u : Below w10.heap.size w10 w11 := by first | exact hb | exact below_step (by first | exact Below.refl _ _ | exact below_alloc (Below.refl _ _) _ | exact below_alloc (below_alloc (Below.refl _ _) _) _) hb
  have n0 := Aside0.mk (below_step HB.out u)
  have nHM0 := Aside0.mk (Kd.C_below HM0.out u)
  have nHM1 := Aside0.mk (Kd.C_below HM1.out u)
  clear u HB HM0 HM1
  have HB := n0
  have HM0 := nHM0
  have HM1 := nHM1
  clear n0 nHM0 nHM1
  obtain ⟨AHG, cHG, hv⟩ := Kd.R_slice ho
  subst hv
  have cHGl := (Kd.R_reads' ho).2.1
  have HG := Aside0.mk (Kd.R_reads' ho).2.2
  rw [show ([2, 1] : List Int).length = 2 from rfl] at cHGl HG ⊢
  clear ho hb
  go_wp2_with fail
  have HX := Aside0.mk (fx_litI (w11.alloc (.cells #[.int .i64 2, .int .i64 1] 3)) w11.heap.size ([2, 1]) (by decide) (fun j x hj => by (match j, hj with | 0, hj => cases hj; (try go_simp); (try rfl) | 1, hj => cases hj; (try go_simp); (try rfl))))
  refine (withyref01_Ints.calls 10 AHG cHG [2, 1] (some ⟨w11.heap.size, 0, none⟩) 2 [2, 1] true _ (Kd.C_alloc HG.out _) cHGl HX.out (Nat.le_refl _) fx_f12).mono ?_
  rintro e w12 ⟨rfl, hd⟩
  have hb := hd.below; clear hd
  have u : Below w11.heap.size w11 w12 := by first | exact hb | exact below_step (by first | exact Below.refl _ _ | exact below_alloc (Below.refl _ _) _ | exact below_alloc (below_alloc (Below.refl _ _) _) _) hb
  have n0 := Aside0.mk (below_step HB.out u)
  have nHM0 := Aside0.mk (Kd.C_below HM0.out u)
  have nHM1 := Aside0.mk (Kd.C_below HM1.out u)
  have nHG := Aside0.mk (Kd.C_below HG.out u)
  clear u HB HM0 HM1 HG HX
  have HB := n0
  have HM0 := nHM0
  have HM1 := nHM1
  have HG := nHG
  clear n0 nHM0 nHM1 nHG
  clear hb
  clear HG
  go_wp2_with fail
  refine (pack_Group.calls none 0 [] 128 [0] _ ⟨rfl, by simp, fun h => absurd h (by decide)⟩ (Nat.le_refl _) fx_f13).mono ?_
  rintro e w13 ⟨v, rfl, ho, hb⟩
  have u : Below w12.heap.size w12 w13 := by first | exact hb | exact below_step (by first | exact Below.refl _ _ | exact below_alloc (Below.refl _ _) _ | exact below_alloc (below_alloc (Below.refl _ _) _) _) hb
  have n0 := Aside0.mk (below_step HB.out u)
  have nHM0 := Aside0.mk (Kd.C_below HM0.out u)
  have nHM1 := Aside0.mk (Kd.C_below HM1.out u)
  clear u HB HM0 HM1
  have HB := n0
  have HM0 := nHM0
  have HM1 := nHM1
  clear n0 nHM0 nHM1
  obtain ⟨AHG, cHG, hv⟩ := Kd.R_slice ho
  subst hv
  have cHGl := (Kd.R_reads' ho).2.1
  have HG := Aside0.mk (Kd.R_reads' ho).2.2
  rw [show ([0] : List Int).length = 1 from rfl] at cHGl HG ⊢
  clear ho hb
  go_wp2_with fail
  have HX := Aside0.mk (fx_litI (w13.alloc (.cells #[.int .i64 0] 3)) w13.heap.size ([0]) (by decide) (fun j x hj => by (match j, hj with | 0, hj => cases hj; (try go_simp); (try rfl))))
  refine (withyref01_Ints.calls 10 AHG cHG [0] (some ⟨w13.heap.size, 0, none⟩) 1 [0] true _ (Kd.C_alloc HG.out _) cHGl HX.out (Nat.le_refl _) fx_f14).mono ?_
  rintro e w14 ⟨rfl, hd⟩
  have hb := hd.below; clear hd
  have u : Below w13.heap.size w13 w14 := by first | exact hb | exact below_step (by first | exact Below.refl _ _ | exact below_alloc (Below.refl _ _) _ | exact below_alloc (below_alloc (Below.refl _ _) _) _) hb
  have n0 := Aside0.mk (below_step HB.out u)
  have nHM0 := Aside0.mk (Kd.C_below HM0.out u)
  have nHM1 := Aside0.mk (Kd.C_below HM1.out u)
  have nHG := Aside0.mk (Kd.C_below HG.out u)
  clear u HB HM0 HM1 HG HX
  have HB := n0
  have HM0 := nHM0
  have HM1 := nHM1
  have HG := nHG
  clear n0 nHM0 nHM1 nHG
  clear hb
  clear HG
  go_wp2_with fail
  have HX := Aside0.mk (fx_litI (w14.alloc (.cells #[.int .i64 2, .int .i64 1] 3)) w14.heap.size ([2, 1]) (by decide) (fun j x hj => by (match j, hj with | 0, hj => cases hj; (try go_simp); (try rfl) | 1, hj => cases hj; (try go_simp); (try rfl))))
  refine (pack_Seps.calls 10 AHM0 cHM0 fx_M0 (some ⟨w14.heap.size, 0, none⟩) 2 [2, 1] ([fx_s [99]]) _ (Kd.C_alloc HM0.out _) cHM0l HX.out (Nat.le_refl _) fx_f15).mono ?_
  rintro e w15 ⟨v, rfl, ho, hb⟩
  have u : Below w14.heap.size w14 w15 := by first | exact hb | exact below_step (by first | exact Below.refl _ _ | exact below_alloc (Below.refl _ _) _ | exact below_alloc (below_alloc (Below.refl _ _) _) _) hb
  have n0 := Aside0.mk (below_step HB.out u)
  have nHM0 := Aside0.mk (Kd.C_below HM0.out u)
  have nHM1 := Aside0.mk (Kd.C_below HM1.out u)
  clear u HB HM0 HM1 HX
  have HB := n0
  have HM0 := nHM0
  have HM1 := nHM1
  clear n0 nHM0 nHM1
  obtain ⟨AHS, cHS, hv⟩ := Kd.R_slice ho
  subst hv
  have cHSl := (Kd.R_reads' ho).2.1
  have HS := Aside0.mk (Kd.R_reads' ho).2.2
  rw [show ([fx_s [99]] : List ByteArray).length = 1 from rfl] at cHSl HS ⊢
  clear ho hb
  go_wp2_with fail
  have HX := Aside0.mk (fx_litS (w15.alloc (.cells #[.string (fx_s [99])] 9)) w15.heap.size (fx_s [99]) (by go_simp <;> rfl))
  refine (withyref01_Words.calls 10 AHS cHS [fx_s [99]] (some ⟨w15.heap.size, 0, none⟩) 1 [fx_s [99]] true _ (Kd.C_alloc HS.out _) cHSl HX.out (Nat.le_refl _) fx_f16).mono ?_
  rintro e w16 ⟨rfl, hd⟩
  have hb := hd.below; clear hd
  have u : Below w15.heap.size w15 w16 := by first | exact hb | exact below_step (by first | exact Below.refl _ _ | exact below_alloc (Below.refl _ _) _ | exact below_alloc (below_alloc (Below.refl _ _) _) _) hb
  have n0 := Aside0.mk (below_step HB.out u)
  have nHM0 := Aside0.mk (Kd.C_below HM0.out u)
  have nHM1 := Aside0.mk (Kd.C_below HM1.out u)
  have nHS := Aside0.mk (Kd.C_below HS.out u)
  clear u HB HM0 HM1 HS HX
  have HB := n0
  have HM0 := nHM0
  have HM1 := nHM1
  have HS := nHS
  clear n0 nHM0 nHM1 nHS
  clear hb
  clear HS
  go_wp2_with fail
  have HX := Aside0.mk (fx_litI (w16.alloc (.cells #[.int .i64 3] 3)) w16.heap.size ([3]) (by decide) (fun j x hj => by (match j, hj with | 0, hj => cases hj; (try go_simp); (try rfl))))
  refine (pack_Seps.calls 10 AHM0 cHM0 fx_M0 (some ⟨w16.heap.size, 0, none⟩) 1 [3] ([]) _ (Kd.C_alloc HM0.out _) cHM0l HX.out (Nat.le_refl _) fx_f17).mono ?_
  rintro e w17 ⟨v, rfl, ho, hb⟩
  have u : Below w16.heap.size w16 w17 := by first | exact hb | exact below_step (by first | exact Below.refl _ _ | exact below_alloc (Below.refl _ _) _ | exact below_alloc (below_alloc (Below.refl _ _) _) _) hb
  have n0 := Aside0.mk (below_step HB.out u)
  have nHM0 := Aside0.mk (Kd.C_below HM0.out u)
  have nHM1 := Aside0.mk (Kd.C_below HM1.out u)
  clear u HB HM0 HM1 HX
  have HB := n0
  have HM0 := nHM0
  have HM1 := nHM1
  clear n0 nHM0 nHM1
  obtain ⟨AHS, cHS, hv⟩ := Kd.R_slice ho
  subst hv
  have cHSl := (Kd.R_reads' ho).2.1
  have HS := Aside0.mk (Kd.R_reads' ho).2.2
  rw [show ([] : List ByteArray).length = 0 from rfl] at cHSl HS ⊢
  clear ho hb
  obtain ⟨d, e0, g0⟩ := at_T35 HM1.out 0 (by decide) (by decide)
  subst e0
  obtain ⟨d1, e1, g1⟩ := at_T35 HM1.out 1 (by decide) (by decide)
  obtain rfl := Option.some.inj e1
  obtain ⟨d2, e2, g2⟩ := at_T35 HM1.out 2 (by decide) (by decide)
  obtain rfl := Option.some.inj e2
  have k00 : w17.cell? ⟨d.block, d.off + 1, none⟩ = some (.bool true) := g0.2.1
  have k01 : w17.cell? ⟨d.block, d.off + 1 + 1, none⟩ = some (.string (fx_s [])) := g0.2.2.1
  have k02 : w17.cell? ⟨d.block, d.off + 1 + 2, none⟩ = some (.int .i64 33) := g0.2.2.2.1
  have k03 : w17.cell? ⟨d.block, d.off + 1 + 3, none⟩ = some (.int .i64 5) := g0.2.2.2.2
  have k10 : w17.cell? ⟨d.block, d.off + 5 + 1, none⟩ = some (.bool true) := g1.2.1
  have k11 : w17.cell? ⟨d.block, d.off + 5 + 1 + 1, none⟩ = some (.string (fx_s [])) := g1.2.2.1
  have k12 : w17.cell? ⟨d.block, d.off + 5 + 1 + 2, none⟩ = some (.int .i64 113) := g1.2.2.2.1
  have k13 : w17.cell? ⟨d.block, d.off + 5 + 1 + 3, none⟩ = some (.int .i64 6) := g1.2.2.2.2
  have k20 : w17.cell? ⟨d.block, d.off + 10 + 1, none⟩ = some (.bool false) := g2.2.1
  have k21 : w17.cell? ⟨d.block, d.off + 10 + 1 + 1, none⟩ = some (.string (fx_s [])) := g2.2.2.1
  have k22 : w17.cell? ⟨d.block, d.off + 10 + 1 + 2, none⟩ = some (.int .i64 0) := g2.2.2.2.1
  have k23 : w17.cell? ⟨d.block, d.off + 10 + 1 + 3, none⟩ = some (.int .i64 0) := g2.2.2.2.2
  clear g0 g1 g2 HM1 HM0 HS
  have he : (fx_s []).toList = [] := by first | rfl | decide +kernel
  go_wp2_with fail
  all_goals first | (exact absurd he (by assumption)) | (go_ret; exact ⟨rfl, HB.out⟩)


end Go.Proofs.Ytmheajenlhlbhaa.X
