/- The law PackRoom of the given program returns true for every input and leaves its arguments as they were. No conditions beyond the given statement's own. -/
import Derived.Test.YtmheajenlhlbhaaUPackRoom01
import Derived.Test.YtmheajenlhlbhaaUPackRoom03
import Derived.Test.YtmheajenlhlbhaaUPackRoom11
import Derived.Test.YtmheajenlhlbhaaUPackRoom02
import Derived.Test.YtmheajenlhlbhaaUPackRoom07
import Derived.Deep.QuietTactic
import Derived.BigQuiet
import Derived.Test.YtmheajenlhlbhaaRows
import Derived.WalkKit
import Derived.ProofKit
import Derived.OpenShut
import Derived.ShutString
import Derived.ChangeOld
import Derived.Below
import Derived.SizedLaws
namespace Go.Proofs.Ytmheajenlhlbhaa.X
open Go.RowKit Go.Proofs.YtmheajenlhlbhaaW.PrintWords Go.Proofs.YtmheajenlhlbhaaW.PrintLast Go.Proofs.YtmheajenlhlbhaaW.PrintMore
attribute [local go_sem] max2_int min2_int max_two min_two max_three min_three max_four min_four   -- for this text's walks alone
set_option linter.unusedVariables false
set_option linter.unusedSimpArgs false

/-! ### withyref01_Repeat: function 21 -/
def withyref01_Repeat.l0 : Nat → Int → Int → List Int → Int → Option (ByteArray)
  | 0, _, _, _, _ => none
  | k + 1, x0, x1, x5, x6 => if x6 < x1 then (if x5.length < 140737488355328 then (withyref01_Repeat.l0 k x0 x1 (x5 ++ [x0]) (wrap64 (x6 + 1))) else (none)) else (some (strOfNums x5))
def withyref01_Repeat.f (k : Nat) (a0 : Int) (a1 : Int) : Option (ByteArray) := withyref01_Repeat.l0 k a0 a1 (([] : List Int)) 0
set_option maxHeartbeats 8000000 in
set_option maxRecDepth 100000 in
theorem withyref01_Repeat.calls (k : Nat) (a0 : Int) (a1 : Int) (r : ByteArray) (w : World) (h : withyref01_Repeat.f k a0 a1 = some r) :
    Calls Try.prog 21 #[.int .u8 a0, .int .i64 a1] w fun e w' => e = .returned (.string r) ∧ Below w.heap.size w w' := by
  have HB := Aside0.mk (Below.refl w.heap.size w)
  have H : (withyref01_Repeat.l0 k a0 a1 (([] : List Int)) 0) = some r := h
  clear h
  obtain ⟨y211, hy211⟩ : ∃ y_ : List Int, y_ = (([] : List Int)) := ⟨_, rfl⟩
  replace H : (withyref01_Repeat.l0 k a0 a1 y211 0) = some r := by first | (rw [hy211]; with_reducible exact H) | (have H2_ := (Option.bind_some _ _).symm.trans H; rw [hy211]; with_reducible exact H2_) | (have H2_ := (Option.bind_some _ _).symm.trans H; with_reducible exact H2_) | with_reducible exact H | (rw [hy211]; exact H) | exact H
  have Ny211 := Aside0.mk hy211
  clear hy211
  have H' := Aside0.mk H
  clear H
  go_enter Try.func21, Try.ntmps21
  go_wp2_with (first | ((with_reducible refine gate_dst (N := 7) rfl ?_); refine Kd.R_lit (Kd.int .u8) _ 5 ?hg (N := 7) ?hd (xs := ([] : List Int)) (inner := []) (ok := fun _ => True) (okp := fun _ => True) ?hr ?hp (fun _ hk => hk) trivial (Below.refl _ _) (Nat.le_refl _) (by simp) ?_; (case hd => rfl); (case hg => rfl); (case hr => first | (go_simp; done) | (go_simp; rfl)); (case hp => exact (Reps.none _ _)); intro v212 w3 ho4 hb hg_ hnew_; clear hg_ hnew_; (first | rw [← Ny211.out] at ho4 | (simp only [Int.reduceToNat] at ho4; rw [← Ny211.out] at ho4)); have n0_ := Aside0.mk (Kd.R_lower ho4 (below_size (by repeat (first | (with_reducible first | exact HB.out | apply below_alloc | apply pw_below_drewN | apply below_drew1) | exact HB.out)))); have n1_ := Aside0.mk (below_step (by repeat (first | (with_reducible first | exact HB.out | apply below_alloc | apply pw_below_drewN | apply below_drew1) | exact HB.out)) hb); clear HB; have HO213 := n0_; have HB := n1_; clear n0_ n1_; clear hb ho4))
  go_loopg [5, 6] k (fun kq v5 v6 w' => ∃ (x5_1 : List Int) (x6_1 : Int), v6 = .int .i64 x6_1 ∧ Aside0 (withyref01_Repeat.l0 kq a0 a1 x5_1 x6_1 = some r) ∧ Aside0 (kq ≤ k) ∧ Aside0 (Kd.R (Kd.int .u8) 5 w' w.heap.size (fun _ => True) v5 x5_1) ∧ Aside0 (Below w.heap.size w w'))
  case atStart => exact ⟨(y211), (0), (by first | rfl | (simp; done) | (simp [*]; done)), H', ⟨Nat.le_refl _⟩, ⟨by (with_reducible repeat (first | apply Kd.R_alloc | apply Kd.R_drewN | apply Kd.R_drew)); exact HO213.out⟩, ⟨by repeat (first | (with_reducible first | exact HB.out | apply below_alloc | apply pw_below_drewN | apply below_drew1) | exact HB.out)⟩⟩
  case round =>
    clear H'
    try clear c2
    try clear p2
    obtain ⟨x5_1, x6_1, rfl, HA, HK1, HO_5, HB⟩ := hrel
    cases gk with
    | zero => exact absurd HA.out (by simp [withyref01_Repeat.l0])
    | succ k1 =>
      have H := HA.out
      clear HA
      simp only [withyref01_Repeat.l0] at H
      by_cases c5 : x6_1 < a1
      · rw [if_pos c5] at H
        have c5b0 : decide (x6_1 < a1) = true := decide_eq_true c5
        clear c5
        by_cases c6 : x5_1.length < 140737488355328
        · rw [if_pos c6] at H
          have LMc6 := Aside0.mk c6
          clear c6
          obtain ⟨y214, hy214⟩ : ∃ y_ : List Int, y_ = (x5_1 ++ [a0]) := ⟨_, rfl⟩
          replace H : (withyref01_Repeat.l0 k1 a0 a1 y214 (wrap64 (x6_1 + 1))) = some r := by first | (rw [hy214]; with_reducible exact H) | (have H2_ := (Option.bind_some _ _).symm.trans H; rw [hy214]; with_reducible exact H2_) | (have H2_ := (Option.bind_some _ _).symm.trans H; with_reducible exact H2_) | with_reducible exact H | (rw [hy214]; exact H) | exact H
          have Ny214 := Aside0.mk hy214
          clear hy214
          have H' := Aside0.mk H
          clear H
          go_wp2_with (first | ((with_reducible refine gate_builtin (b := .append) (xs := #[.tmp 13, .tmp 15]) rfl ?_); at_builtin; refine Kd.R_append (Kd.int .u8) (w0 := w) w.heap.size rfl (.tmp 13) (.tmp 15) 67 5 (.int .u8 0) 1 rfl Try.underlying67 info5 rfl (by decide) (by omega) u5 x5_1 a0 [.int .u8 a0] (fun _ => True) (fun _ => False) rfl rfl ?aP (fun _ hk => hk.elim) ?aF ?aO ?aB ?aS ?aL ?_; (case aP => exact rfl); (case aB => exact (by repeat (first | (with_reducible first | exact HB.out | apply below_alloc | apply pw_below_drewN | apply below_drew1) | exact HB.out))); (case aF => exact (fun _ _ => trivial)); (case aO => exact (by (with_reducible repeat (first | apply Kd.R_alloc | apply Kd.R_drewN | apply Kd.R_drew)); exact HO_5.out)); (case aS => exact (below_size (by repeat (first | (with_reducible first | exact HB.out | apply below_alloc | apply pw_below_drewN | apply below_drew1) | exact HB.out)))); (case aL => have := LMc6.out; omega); intro v215 w7 ho hb hg hat; rw [← Ny214.out] at ho; have n0_ := Aside0.mk (hb); have n1_ := Aside0.mk (ho); clear HB; clear HO_5; have HB := n0_; have HO216 := n1_; clear n0_ n1_; clear ho hb hg hat))
          go_roundg k1
          case measure => have := HK1.out; omega
          case rel => exact ⟨(y214), (wrap64 (x6_1 + 1)), (by first | rfl | (simp; done) | (simp [*]; done)), H', ⟨by have := HK1.out; omega⟩, ⟨by (with_reducible repeat (first | apply Kd.R_alloc | apply Kd.R_drewN | apply Kd.R_drew)); exact HO216.out⟩, ⟨by repeat (first | (with_reducible first | exact HB.out | apply below_alloc | apply pw_below_drewN | apply below_drew1) | exact HB.out)⟩⟩
        · rw [if_neg c6] at H
          exact absurd H (by simp)
      · rw [if_neg c5] at H
        have c5b0 : decide (x6_1 < a1) = false := decide_eq_false c5
        clear c5
        obtain rfl := Option.some.inj H
        have hcv8 := own_string (P := Try.prog) Try.underlying67 Try.underlying5 Try.underlying9 (Kd.own_of_R HO_5.out)
        go_wp2
        go_ret
        exact ⟨by first | rfl | (simp [errW_none, errW_some] <;> rfl) | (simp [*, errW_none, errW_some] <;> rfl), by repeat (first | (with_reducible first | exact HB.out | apply below_alloc | apply pw_below_drewN | apply below_drew1) | exact HB.out)⟩

end Go.Proofs.Ytmheajenlhlbhaa.X


namespace Go.Proofs.Ytmheajenlhlbhaa.X
open Go.RowKit Go.Proofs.YtmheajenlhlbhaaW.PrintWords Go.Proofs.YtmheajenlhlbhaaW.PrintLast Go.Proofs.YtmheajenlhlbhaaW.PrintMore
attribute [local go_sem] max2_int min2_int max_two min_two max_three min_three max_four min_four   -- for this text's walks alone
set_option linter.unusedVariables false
set_option linter.unusedSimpArgs false

/-! ### withyref01_Words: function 22 -/
def withyref01_Words.l0 : Nat → List ByteArray → List ByteArray → Int → Option (Bool)
  | 0, _, _, _ => none
  | k + 1, x0, x1, x5 => if x5 < (x0.length : Int) then (if 0 ≤ x5 then (if x5 < (x1.length : Int) then (if (rdOf ByteArray.empty x0 x5).toList = (rdOf ByteArray.empty x1 x5).toList then (withyref01_Words.l0 k x0 x1 (wrap64 (x5 + 1))) else (some false)) else (none)) else (none)) else (some true)
def withyref01_Words.f (k : Nat) (l0 : List ByteArray) (l1 : List ByteArray) : Option (Bool) := if (l0.length : Int) = (l1.length : Int) then (withyref01_Words.l0 k l0 l1 0) else (some false)
set_option maxHeartbeats 8000000 in
set_option maxRecDepth 100000 in
theorem withyref01_Words.calls (k : Nat) (A0 : Option Addr) (c0 : Nat) (l0 : List ByteArray) (A1 : Option Addr) (c1 : Nat) (l1 : List ByteArray) (r : Bool) (w : World) (hr0 : Kd.C Kd.string w A0 l0.length l0) (hc0 : l0.length ≤ c0) (hr1 : Kd.C Kd.string w A1 l1.length l1) (hc1 : l1.length ≤ c1) (h : withyref01_Words.f k l0 l1 = some r) :
    Calls Try.prog 22 #[.slice A0 l0.length c0, .slice A1 l1.length c1] w fun e w' => e = .returned (.bool r) ∧ Drawn0 w w' := by
  have HR0 := Aside0.mk hr0
  have HC0 := Aside0.mk hc0
  clear hr0 hc0
  have HR1 := Aside0.mk hr1
  have HC1 := Aside0.mk hc1
  clear hr1 hc1
  have H : (if (l0.length : Int) = (l1.length : Int) then (withyref01_Words.l0 k l0 l1 0) else (some false)) = some r := h
  clear h
  by_cases c3 : (l0.length : Int) = (l1.length : Int)
  · rw [if_pos c3] at H
    have c3b0 : ((l0.length : Int) == (l1.length : Int)) = true := beq_iff_eq.mpr c3
    have c3b1 : ((l0.length : Int) != (l1.length : Int)) = false := bne_eq_false_iff_eq.mpr c3
    have c3b2 : (l0.length == l1.length) = true := by first | simpa using c3 | (simp at c3 ⊢; omega)
    clear c3
    have H' := Aside0.mk H
    clear H
    go_enter Try.func22, Try.ntmps22
    go_wp2
    repeat (go_quiet (fail); try go_wp2)
    go_loopg [5] k (fun kq v5 w' => ∃ (x5_1 : Int), v5 = .int .i64 x5_1 ∧ Aside0 (withyref01_Words.l0 kq l0 l1 x5_1 = some r) ∧ Aside0 (kq ≤ k) ∧ Drawn0 w w')
    case atStart => exact ⟨(0), (by first | rfl | (simp; done) | (simp [*]; done)), H', ⟨Nat.le_refl _⟩, by repeat (first | exact Drawn0.refl _ | apply Drawn0.step)⟩
    case round =>
      clear H'
      try clear c1
      try clear c2
      try clear p2
      try clear c3
      try clear c3b0
      try clear c3b1
      try clear c3b2
      obtain ⟨x5_1, rfl, HA, HK1, ⟨m1, rfl⟩⟩ := hrel
      cases gk with
      | zero => exact absurd HA.out (by simp [withyref01_Words.l0])
      | succ k1 =>
        have H := HA.out
        clear HA
        simp only [withyref01_Words.l0] at H
        by_cases c4 : x5_1 < (l0.length : Int)
        · rw [if_pos c4] at H
          have c4b0 : decide (x5_1 < (l0.length : Int)) = true := decide_eq_true c4
          clear c4
          by_cases c5 : 0 ≤ x5_1
          · rw [if_pos c5] at H
            have c5b0 : decide (0 ≤ x5_1) = true := decide_eq_true c5
            clear c5
            by_cases c6 : x5_1 < (l1.length : Int)
            · rw [if_pos c6] at H
              have c6b0 : decide (x5_1 < (l1.length : Int)) = true := decide_eq_true c6
              clear c6
              by_cases c7 : (rdOf ByteArray.empty l0 x5_1).toList = (rdOf ByteArray.empty l1 x5_1).toList
              · rw [if_pos c7] at H
                have c7b0 : ((rdOf ByteArray.empty l0 x5_1).toList == (rdOf ByteArray.empty l1 x5_1).toList) = true := beq_iff_eq.mpr c7
                have c7b1 : ((rdOf ByteArray.empty l0 x5_1).toList != (rdOf ByteArray.empty l1 x5_1).toList) = false := bne_eq_false_iff_eq.mpr c7
                clear c7
                have H' := Aside0.mk H
                clear H
                have p217 : 0 ≤ (x5_1 : Int) := of_decide_eq_true (by first | (with_reducible assumption) | assumption)
                have q217 : x5_1 < (l0.length : Int) := of_decide_eq_true (by first | (with_reducible assumption) | assumption)
                obtain ⟨ad217, e217, hx217_0⟩ := Kd.at_string HR0.out x5_1 p217 q217
                cases e217
                replace p217 := eq_true p217
                replace q217 := eq_true q217
                have p218 : 0 ≤ (x5_1 : Int) := of_decide_eq_true (by first | (with_reducible assumption) | assumption)
                have q218 : x5_1 < (l1.length : Int) := of_decide_eq_true (by first | (with_reducible assumption) | assumption)
                obtain ⟨ad218, e218, hx218_0⟩ := Kd.at_string HR1.out x5_1 p218 q218
                cases e218
                replace p218 := eq_true p218
                replace q218 := eq_true q218
                go_wp2
                repeat (go_quiet (fail); try go_wp2)
                go_roundg k1
                case measure => have := HK1.out; omega
                case rel => exact ⟨(wrap64 (x5_1 + 1)), (by first | rfl | (simp; done) | (simp [*]; done)), H', ⟨by have := HK1.out; omega⟩, by repeat (first | exact Drawn0.refl _ | apply Drawn0.step)⟩
              · rw [if_neg c7] at H
                have c7b0 : ((rdOf ByteArray.empty l0 x5_1).toList == (rdOf ByteArray.empty l1 x5_1).toList) = false := beq_eq_false_iff_ne.mpr c7
                have c7b1 : ((rdOf ByteArray.empty l0 x5_1).toList != (rdOf ByteArray.empty l1 x5_1).toList) = true := bne_iff_ne.mpr c7
                obtain rfl := Option.some.inj H
                have p217 : 0 ≤ (x5_1 : Int) := of_decide_eq_true (by first | (with_reducible assumption) | assumption)
                have q217 : x5_1 < (l0.length : Int) := of_decide_eq_true (by first | (with_reducible assumption) | assumption)
                obtain ⟨ad217, e217, hx217_0⟩ := Kd.at_string HR0.out x5_1 p217 q217
                cases e217
                replace p217 := eq_true p217
                replace q217 := eq_true q217
                have p218 : 0 ≤ (x5_1 : Int) := of_decide_eq_true (by first | (with_reducible assumption) | assumption)
                have q218 : x5_1 < (l1.length : Int) := of_decide_eq_true (by first | (with_reducible assumption) | assumption)
                obtain ⟨ad218, e218, hx218_0⟩ := Kd.at_string HR1.out x5_1 p218 q218
                cases e218
                replace p218 := eq_true p218
                replace q218 := eq_true q218
                go_wp2
                repeat (go_quiet (fail); try go_wp2)
                go_ret
                exact ⟨by first | rfl | (simp; done) | (simp [*]; done), by repeat (first | exact Drawn0.refl _ | apply Drawn0.step)⟩
            · rw [if_neg c6] at H
              exact absurd H (by simp)
          · rw [if_neg c5] at H
            exact absurd H (by simp)
        · rw [if_neg c4] at H
          have c4b0 : decide (x5_1 < (l0.length : Int)) = false := decide_eq_false c4
          clear c4
          obtain rfl := Option.some.inj H
          go_wp2
          repeat (go_quiet (fail); try go_wp2)
          go_ret
          exact ⟨by first | rfl | (simp; done) | (simp [*]; done), by repeat (first | exact Drawn0.refl _ | apply Drawn0.step)⟩
  · rw [if_neg c3] at H
    have c3b0 : ((l0.length : Int) == (l1.length : Int)) = false := beq_eq_false_iff_ne.mpr c3
    have c3b1 : ((l0.length : Int) != (l1.length : Int)) = true := bne_iff_ne.mpr c3
    have c3b2 : (l0.length == l1.length) = false := by first | simpa using c3 | (simp at c3 ⊢; omega)
    obtain rfl := Option.some.inj H
    go_enter Try.func22, Try.ntmps22
    go_wp2
    repeat (go_quiet (fail); try go_wp2)
    go_ret
    exact ⟨by first | rfl | (simp; done) | (simp [*]; done), by repeat (first | exact Drawn0.refl _ | apply Drawn0.step)⟩

end Go.Proofs.Ytmheajenlhlbhaa.X


namespace Go.Proofs.Ytmheajenlhlbhaa.X
open Go.RowKit Go.Proofs.YtmheajenlhlbhaaW.PrintWords Go.Proofs.YtmheajenlhlbhaaW.PrintLast Go.Proofs.YtmheajenlhlbhaaW.PrintMore
attribute [local go_sem] max2_int min2_int max_two min_two max_three min_three max_four min_four   -- for this text's walks alone
set_option linter.unusedVariables false
set_option linter.unusedSimpArgs false

/-! ### pack_Seps: function 23 -/
def pack_Seps.l0 : Nat → List (S35) → List ByteArray → Int → List Int → Int → Int → Option (List ByteArray)
  | 0, _, _, _, _, _, _ => none
  | k + 1, x0, x5, x6, x9, x10, x11 => if x11 < x10 then (if 0 ≤ x11 then (if x11 < (x9.length : Int) then (if x6 > 0 then ((pack_high.f x0 x6).bind fun t220 => (if x5.length < 8796093022208 then (pack_Seps.l0 k x0 (x5 ++ [t220]) (wrap64 (x6 + (rd x9 x11))) x9 x10 (wrap64 (x11 + 1))) else (none))) else (pack_Seps.l0 k x0 x5 (wrap64 (x6 + (rd x9 x11))) x9 x10 (wrap64 (x11 + 1)))) else (none)) else (none)) else (some x5)
def pack_Seps.f (k : Nat) (l0 : List (S35)) (l1 : List Int) : Option (List ByteArray) := pack_Seps.l0 k l0 ([] : List ByteArray) 0 l1 (l1.length : Int) 0
set_option maxHeartbeats 8000000 in
set_option maxRecDepth 100000 in
theorem pack_Seps.calls (k : Nat) (A0 : Option Addr) (c0 : Nat) (l0 : List (S35)) (A1 : Option Addr) (c1 : Nat) (l1 : List Int) (r : List ByteArray) (w : World) (hr0 : Kd.C k35 w A0 l0.length l0) (hc0 : l0.length ≤ c0) (hr1 : Kd.C (Kd.int .i64) w A1 l1.length l1) (hc1 : l1.length ≤ c1) (h : pack_Seps.f k l0 l1 = some r) :
    Calls Try.prog 23 #[.slice A0 l0.length c0, .slice A1 l1.length c1] w fun e w' => ∃ v0_ : Value, e = .returned (v0_) ∧ Kd.R Kd.string 9 w' w.heap.size (fun _ => True) v0_ r ∧ Below w.heap.size w w' := by
  have HR0 := Aside0.mk hr0
  have HC0 := Aside0.mk hc0
  clear hr0 hc0
  have HR1 := Aside0.mk hr1
  have HC1 := Aside0.mk hc1
  clear hr1 hc1
  have HB := Aside0.mk (Below.refl w.heap.size w)
  have H : (pack_Seps.l0 k l0 ([] : List ByteArray) 0 l1 (l1.length : Int) 0) = some r := h
  clear h
  have H' := Aside0.mk H
  clear H
  go_enter Try.func23, Try.ntmps23
  go_wp2
  go_loopg [5, 6, 11] k (fun kq v5 v6 v11 w' => ∃ (x5_1 : List ByteArray) (x6_1 : Int) (x11_1 : Int), v6 = .int .i64 x6_1 ∧ v11 = .int .i64 x11_1 ∧ Aside0 (pack_Seps.l0 kq l0 x5_1 x6_1 l1 (l1.length : Int) x11_1 = some r) ∧ Aside0 (kq ≤ k) ∧ Aside0 (Kd.R Kd.string 9 w' w.heap.size (fun _ => True) v5 x5_1) ∧ Aside0 (Below w.heap.size w w'))
  case atStart => exact ⟨(([] : List ByteArray)), (0), (0), (by first | rfl | (simp; done) | (simp [*]; done)), (by first | rfl | (simp; done) | (simp [*]; done)), H', ⟨Nat.le_refl _⟩, ⟨by first | exact Kd.R_nil _ _ _ _ _ | exact Kd.N_nil _ _ _ _ _ | exact Kd.V_nil _ _ _ _ _ | exact Kd.Q_nil _ _ _ _ _ | exact Kd.S_nil _ _ _ _ _⟩, ⟨by repeat (first | (with_reducible first | exact HB.out | apply below_alloc | apply pw_below_drewN | apply below_drew1) | exact HB.out)⟩⟩
  case round =>
    clear H'
    try clear c1
    try clear c2
    try clear p2
    obtain ⟨x5_1, x6_1, x11_1, rfl, rfl, HA, HK1, HO_5, HB⟩ := hrel
    cases gk with
    | zero => exact absurd HA.out (by simp [pack_Seps.l0])
    | succ k1 =>
      have H := HA.out
      clear HA
      simp only [pack_Seps.l0] at H
      by_cases c3 : x11_1 < (l1.length : Int)
      · rw [if_pos c3] at H
        have c3b0 : decide (x11_1 < (l1.length : Int)) = true := decide_eq_true c3
        clear c3
        by_cases c4 : 0 ≤ x11_1
        · rw [if_pos c4] at H
          have c4b0 : decide (0 ≤ x11_1) = true := decide_eq_true c4
          clear c4
          by_cases c5 : x11_1 < (l1.length : Int)
          · rw [if_pos c5] at H
            have c5b0 : decide (x11_1 < (l1.length : Int)) = true := decide_eq_true c5
            clear c5
            by_cases c6 : x6_1 > 0
            · rw [if_pos c6] at H
              have c6b0 : decide (0 < x6_1) = true := decide_eq_true c6
              clear c6
              replace H := Option.bind_eq_some_iff.mp H
              obtain ⟨t220, A70, H⟩ := H
              replace H : (if x5_1.length < 8796093022208 then (pack_Seps.l0 k1 l0 (x5_1 ++ [t220]) (wrap64 (x6_1 + (rd l1 x11_1))) l1 (l1.length : Int) (wrap64 (x11_1 + 1))) else (none)) = some r := H
              have A7 := Aside0.mk A70
              clear A70
              by_cases c8 : x5_1.length < 8796093022208
              · rw [if_pos c8] at H
                have LMc8 := Aside0.mk c8
                clear c8
                obtain ⟨y221, hy221⟩ : ∃ y_ : List ByteArray, y_ = (x5_1 ++ [t220]) := ⟨_, rfl⟩
                replace H : (pack_Seps.l0 k1 l0 y221 (wrap64 (x6_1 + (rd l1 x11_1))) l1 (l1.length : Int) (wrap64 (x11_1 + 1))) = some r := by first | (rw [hy221]; with_reducible exact H) | (have H2_ := (Option.bind_some _ _).symm.trans H; rw [hy221]; with_reducible exact H2_) | (have H2_ := (Option.bind_some _ _).symm.trans H; with_reducible exact H2_) | with_reducible exact H | (rw [hy221]; exact H) | exact H
                have Ny221 := Aside0.mk hy221
                clear hy221
                have H' := Aside0.mk H
                clear H
                have p219 : 0 ≤ (x11_1 : Int) := of_decide_eq_true (by first | (with_reducible assumption) | assumption)
                have q219 : x11_1 < (l1.length : Int) := of_decide_eq_true (by first | (with_reducible assumption) | assumption)
                obtain ⟨ad219, e219, hx219_0⟩ := Kd.at_int HR1.out x11_1 p219 q219
                cases e219
                replace hx219_0 := (HB.out.cell (World.block_lt_of_cell? w _ hx219_0)).trans hx219_0
                replace p219 := eq_true p219
                replace q219 := eq_true q219
                go_wp2_with (first | ((with_reducible refine gate_callee (f := 31) rfl ?_); refine goesL_ (some 20) rfl rfl Try.func31 (by kernel_rfl) rfl #[.slice A0 l0.length c0, .int .i64 x6_1] rfl (by (try simp only [List.map_toArray, List.map_cons, List.map_nil]); first | done | rfl | (simp only [List.length_drop, List.length_take]; rfl)) ?_; (with_reducible refine (pack_high.calls _ _ l0 x6_1 t220 _ ?side1 ?side2 A7.out).mono ?_); (case side1 => repeat (first | exact (Kd.C_below HR0.out HB.out) | (with_reducible refine Kd.C_alloc ?_ _) | (with_reducible refine Kd.C_drewN ?_ _) | (with_reducible refine Kd.C_drew ?_))); (case side2 => exact HC0.out); rintro e w9 ⟨rfl, hb⟩; refine ⟨_, rfl, ?_⟩; have n0_ := Aside0.mk (Kd.R_below (by (with_reducible repeat (first | apply Kd.R_alloc | apply Kd.R_drewN | apply Kd.R_drew)); exact HO_5.out) hb); have n1_ := Aside0.mk (below_step (by repeat (first | (with_reducible first | exact HB.out | apply below_alloc | apply pw_below_drewN | apply below_drew1) | exact HB.out)) hb); clear HO_5; clear HB; have HO_5 := n0_; have HB := n1_; clear n0_ n1_; (try clear hb); (try clear hb2); (try clear hk); (try clear hi)) | ((with_reducible refine gate_builtin (b := .append) (xs := #[.tmp 17, .tmp 21]) rfl ?_); at_builtin; refine Kd.R_append Kd.string (w0 := w) w.heap.size rfl (.tmp 17) (.tmp 21) 55 9 (.string ⟨#[]⟩) 16 rfl Try.underlying55 info9 rfl (by decide) (by omega) u5 x5_1 t220 [.string t220] (fun _ => True) (fun _ => False) rfl rfl ?aP (fun _ hk => hk.elim) ?aF ?aO ?aB ?aS ?aL ?_; (case aP => exact rfl); (case aB => exact (by repeat (first | (with_reducible first | exact HB.out | apply below_alloc | apply pw_below_drewN | apply below_drew1) | exact HB.out))); (case aF => exact (fun _ _ => trivial)); (case aO => exact (by (with_reducible repeat (first | apply Kd.R_alloc | apply Kd.R_drewN | apply Kd.R_drew)); exact HO_5.out)); (case aS => exact (below_size (by repeat (first | (with_reducible first | exact HB.out | apply below_alloc | apply pw_below_drewN | apply below_drew1) | exact HB.out)))); (case aL => have := LMc8.out; omega); intro v222 w10 ho hb hg hat; rw [← Ny221.out] at ho; have n0_ := Aside0.mk (hb); have n1_ := Aside0.mk (ho); clear HB; clear HO_5; have HB := n0_; have HO223 := n1_; clear n0_ n1_; clear ho hb hg hat))
                go_roundg k1
                case measure => have := HK1.out; omega
                case rel => exact ⟨(y221), (wrap64 (x6_1 + (rd l1 x11_1))), (wrap64 (x11_1 + 1)), (by first | rfl | (simp; done) | (simp [*]; done)), (by first | rfl | (simp; done) | (simp [*]; done)), H', ⟨by have := HK1.out; omega⟩, ⟨by (with_reducible repeat (first | apply Kd.R_alloc | apply Kd.R_drewN | apply Kd.R_drew)); exact HO223.out⟩, ⟨by repeat (first | (with_reducible first | exact HB.out | apply below_alloc | apply pw_below_drewN | apply below_drew1) | exact HB.out)⟩⟩
              · rw [if_neg c8] at H
                exact absurd H (by simp)
            · rw [if_neg c6] at H
              have c6b0 : decide (0 < x6_1) = false := decide_eq_false c6
              clear c6
              have H' := Aside0.mk H
              clear H
              have p219 : 0 ≤ (x11_1 : Int) := of_decide_eq_true (by first | (with_reducible assumption) | assumption)
              have q219 : x11_1 < (l1.length : Int) := of_decide_eq_true (by first | (with_reducible assumption) | assumption)
              obtain ⟨ad219, e219, hx219_0⟩ := Kd.at_int HR1.out x11_1 p219 q219
              cases e219
              replace hx219_0 := (HB.out.cell (World.block_lt_of_cell? w _ hx219_0)).trans hx219_0
              replace p219 := eq_true p219
              replace q219 := eq_true q219
              go_wp2
              go_roundg k1
              case measure => have := HK1.out; omega
              case rel => exact ⟨(x5_1), (wrap64 (x6_1 + (rd l1 x11_1))), (wrap64 (x11_1 + 1)), (by first | rfl | (simp; done) | (simp [*]; done)), (by first | rfl | (simp; done) | (simp [*]; done)), H', ⟨by have := HK1.out; omega⟩, ⟨by (with_reducible repeat (first | apply Kd.R_alloc | apply Kd.R_drewN | apply Kd.R_drew)); exact HO_5.out⟩, ⟨by repeat (first | (with_reducible first | exact HB.out | apply below_alloc | apply pw_below_drewN | apply below_drew1) | exact HB.out)⟩⟩
          · rw [if_neg c5] at H
            exact absurd H (by simp)
        · rw [if_neg c4] at H
          exact absurd H (by simp)
      · rw [if_neg c3] at H
        have c3b0 : decide (x11_1 < (l1.length : Int)) = false := decide_eq_false c3
        clear c3
        obtain rfl := Option.some.inj H
        go_wp2
        go_ret
        exact ⟨_, by first | rfl | (simp [errW_none, errW_some] <;> rfl) | (simp [*, errW_none, errW_some] <;> rfl), by (with_reducible repeat (first | apply Kd.R_alloc | apply Kd.R_drewN | apply Kd.R_drew)); exact HO_5.out, by repeat (first | (with_reducible first | exact HB.out | apply below_alloc | apply pw_below_drewN | apply below_drew1) | exact HB.out)⟩

end Go.Proofs.Ytmheajenlhlbhaa.X


namespace Go.Proofs.Ytmheajenlhlbhaa.X
open Go.RowKit Go.Proofs.YtmheajenlhlbhaaW.PrintWords Go.Proofs.YtmheajenlhlbhaaW.PrintLast Go.Proofs.YtmheajenlhlbhaaW.PrintMore
attribute [local go_sem] max2_int min2_int max_two min_two max_three min_three max_four min_four   -- for this text's walks alone
set_option linter.unusedVariables false
set_option linter.unusedSimpArgs false

--GIVEN-- withy/withylaw16.fixed
/-! ### withylaw16_fixed: function 12 -/
attribute [local go_sem high] eqA32
def fx_s (l : List UInt8) : ByteArray := ⟨l.toArray⟩
def fx_v : ByteArray := fx_s (List.replicate 32 118)
def fx_L0 : List S30 := [⟨fx_s [97], fx_v⟩, ⟨fx_s [98], fx_v⟩, ⟨fx_s [99], fx_v⟩]
def fx_M0 : List S35 := [⟨fx_s [97], ⟨false, fx_v, 0, 0⟩⟩, ⟨fx_s [98], ⟨false, fx_v, 0, 0⟩⟩, ⟨fx_s [99], ⟨false, fx_v, 0, 0⟩⟩]
def fx_r : ByteArray := fx_s (List.replicate 113 1)
def fx_q : ByteArray := fx_s (List.replicate 17 1)
def fx_L1 : List S30 := [⟨fx_s [97], fx_v ++ fx_s [120]⟩, ⟨fx_s [98], fx_r⟩, ⟨fx_s [99], fx_s []⟩]
def fx_M1 : List S35 := [⟨fx_s [97], ⟨true, fx_s [], 33, 5⟩⟩, ⟨fx_s [98], ⟨true, fx_s [], 113, 6⟩⟩, ⟨fx_s [99], ⟨false, fx_s [], 0, 0⟩⟩]
theorem fx_lit30 (W : World) (b : Nat) (l : List S30) (hl : l.length ≤ 3) (h : ∀ j x, l[j]? = some x → W.cell? ⟨b, j * 2, none⟩ = some (.string x.f0) ∧ W.cell? ⟨b, j * 2 + 1, none⟩ = some (.string x.f1)) : Kd.C k30 W (some ⟨b, 0, none⟩) l.length l := by
  refine ⟨rfl, by omega, fun _ => ⟨_, rfl, fun j p hj => ⟨[.string p.f0, .string p.f1], rfl, k30_mk _ _, fun i u hu => ?_⟩⟩⟩
  have hc := h j p hj
  have ea : ∀ n : Nat, (⟨b, 0, none⟩ : Addr).add n = ⟨b, n, none⟩ := by
    intro n
    unfold Addr.add
    split
    · rename_i h0
      rw [h0]
    · simp
  match i, hu with
  | 0, hu => cases hu; rw [ea]; exact hc.1
  | 1, hu => cases hu; rw [ea]; exact hc.2
theorem fx_litI (W : World) (b : Nat) (l : List Int) (hl : l.length ≤ 3) (h : ∀ j x, l[j]? = some x → W.cell? ⟨b, j, none⟩ = some (.int .i64 x)) : Kd.C (Kd.int .i64) W (some ⟨b, 0, none⟩) l.length l := by
  refine Kd.C_of_reads (enc := Value.int .i64) (d := (0 : Int)) (h1 := fun _ => rfl) ⟨rfl, by omega, fun _ => ⟨_, rfl, fun j hj => ?_⟩⟩
  have hc := h j (l.getD j 0) (by rw [List.getD_eq_getElem?_getD, List.getElem?_eq_getElem hj]; rfl)
  unfold Addr.add
  split
  · rename_i h0
    rw [h0] at hc ⊢
    exact hc
  · simpa using hc
theorem fx_litS (W : World) (b : Nat) (s : ByteArray) (h : W.cell? ⟨b, 0, none⟩ = some (.string s)) : Kd.C Kd.string W (some ⟨b, 0, none⟩) 1 [s] := by
  refine Kd.C_of_reads (enc := Value.string) (d := ByteArray.empty) (h1 := fun _ => rfl) ⟨rfl, by omega, fun _ => ⟨_, rfl, fun j hj => ?_⟩⟩
  obtain rfl : j = 0 := by omega
  exact h

theorem fx_f1 : withyref01_Repeat.f 120 118 32 = some fx_v := by decide +kernel
theorem fx_f2 : pack_Items.f 10 fx_L0 1 128 = some (fx_M0, 1) := by kernel_rfl
theorem fx_f3 : withyref01_Repeat.f 120 1 113 = some fx_r := by decide +kernel
theorem fx_f4 : pack_Items.f 10 fx_L1 5 128 = some (fx_M1, 8) := by kernel_rfl
theorem fx_f5 : pack_Right.f 10 fx_L0 128 = some true := by decide +kernel
theorem fx_f6 : pack_Right.f 10 fx_L0 64 = some false := by decide +kernel
theorem fx_f7 : pack_Right.f 10 [⟨fx_s [98], fx_s []⟩, ⟨fx_s [97], fx_s []⟩] 128 = some false := by decide +kernel
theorem fx_f8 : pack_Right.f 10 [⟨fx_s [98], fx_s []⟩, ⟨fx_s [98], fx_s []⟩] 128 = some false := by decide +kernel
theorem fx_f9 : withyref01_Repeat.f 120 1 17 = some fx_q := by decide +kernel
theorem fx_f10 : pack_Right.f 10 [⟨fx_q, fx_s []⟩] 128 = some false := by decide +kernel
theorem fx_f11 : pack_Group.f fx_M0 128 = some [2, 1] := by decide +kernel
theorem fx_f12 : withyref01_Ints.f 10 [2, 1] [2, 1] = some true := by decide +kernel
theorem fx_f13 : pack_Group.f [] 128 = some [0] := by decide +kernel
theorem fx_f14 : withyref01_Ints.f 10 [0] [0] = some true := by decide +kernel
theorem fx_f15 : pack_Seps.f 10 fx_M0 [2, 1] = some [fx_s [99]] := by decide +kernel
theorem fx_f16 : withyref01_Words.f 10 [fx_s [99]] [fx_s [99]] = some true := by decide +kernel
theorem fx_f17 : pack_Seps.f 10 fx_M0 [3] = some [] := by decide +kernel
def withylaw16_fixed.f : Option Bool := some true
set_option maxRecDepth 100000 in
set_option maxHeartbeats 8000000 in
theorem withylaw16_fixed.calls (r : Bool) (w : World) (h : withylaw16_fixed.f = some r) :
    Calls Try.prog 12 #[] w fun e w' => e = .returned (.bool r) ∧ Below w.heap.size w w' := by
  obtain rfl : true = r := Option.some.inj h
  clear h
  have HB := Aside0.mk (Below.refl w.heap.size w)
  go_enter Try.func12, Try.ntmps12
  go_wp2_with fail
  refine (withyref01_Repeat.calls 120 118 32 fx_v _ fx_f1).mono ?_
  rintro e w1 ⟨rfl, hb⟩
  have u : Below w.heap.size w w1 := by first | exact hb | exact below_step (by first | exact Below.refl _ _ | exact below_alloc (Below.refl _ _) _ | exact below_alloc (below_alloc (Below.refl _ _) _) _) hb
  have n0 := Aside0.mk (below_step HB.out u)
  clear u HB 
  have HB := n0
  clear n0 
  clear hb
  go_wp2_with fail
  have HL0 := Aside0.mk (fx_lit30 (w1.alloc (.cells #[.string (fx_s [97]), .string (fx_v), .string (fx_s [98]), .string (fx_v), .string (fx_s [99]), .string (fx_v)] 30)) w1.heap.size (fx_L0) (by decide) (fun j x hj => by (match j, hj with | 0, hj => cases hj; constructor <;> go_simp <;> rfl | 1, hj => cases hj; constructor <;> go_simp <;> rfl | 2, hj => cases hj; constructor <;> go_simp <;> rfl)))
  refine (pack_Items.calls 10 (some ⟨w1.heap.size, 0, none⟩) 3 fx_L0 1 128 fx_M0 1 _ HL0.out (Nat.le_refl _) fx_f2).mono ?_
  rintro e w2 ⟨v, rfl, ho, hb⟩
  have u : Below w1.heap.size w1 w2 := by first | exact hb | exact below_step (by first | exact Below.refl _ _ | exact below_alloc (Below.refl _ _) _ | exact below_alloc (below_alloc (Below.refl _ _) _) _) hb
  have n0 := Aside0.mk (below_step HB.out u)
  have nHL0 := Aside0.mk (Kd.C_below HL0.out hb)
  clear u HB HL0
  have HB := n0
  have HL0 := nHL0
  clear n0 nHL0
  obtain ⟨AHM0, cHM0, hv⟩ := Kd.R_slice ho
  subst hv
  have cHM0l := (Kd.R_reads' ho).2.1
  have HM0 := Aside0.mk (Kd.R_reads' ho).2.2
  rw [show fx_M0.length = 3 from rfl] at cHM0l HM0 ⊢
  clear ho hb
  go_wp2_with fail
  refine (withyref01_Repeat.calls 120 1 113 fx_r _ fx_f3).mono ?_
  rintro e w3 ⟨rfl, hb⟩
  have u : Below w2.heap.size w2 w3 := by first | exact hb | exact below_step (by first | exact Below.refl _ _ | exact below_alloc (Below.refl _ _) _ | exact below_alloc (below_alloc (Below.refl _ _) _) _) hb
  have n0 := Aside0.mk (below_step HB.out u)
  have nHL0 := Aside0.mk (Kd.C_below HL0.out u)
  have nHM0 := Aside0.mk (Kd.C_below HM0.out u)
  clear u HB HL0 HM0
  have HB := n0
  have HL0 := nHL0
  have HM0 := nHM0
  clear n0 nHL0 nHM0
  clear hb
  go_wp2_with fail
  have HL1 := Aside0.mk (fx_lit30 (w3.alloc (.cells #[.string (fx_s [97]), .string (fx_v ++ fx_s [120]), .string (fx_s [98]), .string (fx_r), .string (fx_s [99]), .string (fx_s [])] 30)) w3.heap.size (fx_L1) (by decide) (fun j x hj => by (match j, hj with | 0, hj => cases hj; constructor <;> go_simp <;> rfl | 1, hj => cases hj; constructor <;> go_simp <;> rfl | 2, hj => cases hj; constructor <;> go_simp <;> rfl)))
  refine (pack_Items.calls 10 (some ⟨w3.heap.size, 0, none⟩) 3 fx_L1 5 128 fx_M1 8 _ HL1.out (Nat.le_refl _) fx_f4).mono ?_
  rintro e w4 ⟨v, rfl, ho, hb⟩
  have u : Below w3.heap.size w3 w4 := by first | exact hb | exact below_step (by first | exact Below.refl _ _ | exact below_alloc (Below.refl _ _) _ | exact below_alloc (below_alloc (Below.refl _ _) _) _) hb
  have n0 := Aside0.mk (below_step HB.out u)
  have nHL0 := Aside0.mk (Kd.C_below HL0.out u)
  have nHM0 := Aside0.mk (Kd.C_below HM0.out u)
  clear u HB HL0 HM0 HL1
  have HB := n0
  have HL0 := nHL0
  have HM0 := nHM0
  clear n0 nHL0 nHM0
  obtain ⟨AHM1, cHM1, hv⟩ := Kd.R_slice ho
  subst hv
  have cHM1l := (Kd.R_reads' ho).2.1
  have HM1 := Aside0.mk (Kd.R_reads' ho).2.2
  rw [show fx_M1.length = 3 from rfl] at cHM1l HM1 ⊢
  clear ho hb
  go_wp2_with fail
  refine (pack_Right.calls 10 (some ⟨w1.heap.size, 0, none⟩) 3 fx_L0 128 true _ HL0.out (Nat.le_refl _) fx_f5).mono ?_
  rintro e w5 ⟨rfl, hb⟩
  have u : Below w4.heap.size w4 w5 := by first | exact hb | exact below_step (by first | exact Below.refl _ _ | exact below_alloc (Below.refl _ _) _ | exact below_alloc (below_alloc (Below.refl _ _) _) _) hb
  have n0 := Aside0.mk (below_step HB.out u)
  have nHL0 := Aside0.mk (Kd.C_below HL0.out u)
  have nHM0 := Aside0.mk (Kd.C_below HM0.out u)
  have nHM1 := Aside0.mk (Kd.C_below HM1.out u)
  clear u HB HL0 HM0 HM1
  have HB := n0
  have HL0 := nHL0
  have HM0 := nHM0
  have HM1 := nHM1
  clear n0 nHL0 nHM0 nHM1
  clear hb
  go_wp2_with fail
  refine (pack_Right.calls 10 (some ⟨w1.heap.size, 0, none⟩) 3 fx_L0 64 false _ HL0.out (Nat.le_refl _) fx_f6).mono ?_
  rintro e w6 ⟨rfl, hb⟩
  have u : Below w5.heap.size w5 w6 := by first | exact hb | exact below_step (by first | exact Below.refl _ _ | exact below_alloc (Below.refl _ _) _ | exact below_alloc (below_alloc (Below.refl _ _) _) _) hb
  have n0 := Aside0.mk (below_step HB.out u)
  have nHL0 := Aside0.mk (Kd.C_below HL0.out u)
  have nHM0 := Aside0.mk (Kd.C_below HM0.out u)
  have nHM1 := Aside0.mk (Kd.C_below HM1.out u)
  clear u HB HL0 HM0 HM1
  have HB := n0
  have HL0 := nHL0
  have HM0 := nHM0
  have HM1 := nHM1
  clear n0 nHL0 nHM0 nHM1
  clear hb
  clear HL0
  go_wp2_with fail
  have HX := Aside0.mk (fx_lit30 (w6.alloc (.cells #[.string (fx_s [98]), .string (fx_s []), .string (fx_s [97]), .string (fx_s [])] 30)) w6.heap.size ([⟨fx_s [98], fx_s []⟩, ⟨fx_s [97], fx_s []⟩]) (by decide) (fun j x hj => by (match j, hj with | 0, hj => cases hj; constructor <;> go_simp <;> rfl | 1, hj => cases hj; constructor <;> go_simp <;> rfl)))
  refine (pack_Right.calls 10 (some ⟨w6.heap.size, 0, none⟩) 2 ([⟨fx_s [98], fx_s []⟩, ⟨fx_s [97], fx_s []⟩]) 128 false _ HX.out (Nat.le_refl _) fx_f7).mono ?_
  rintro e w7 ⟨rfl, hb⟩
  have u : Below w6.heap.size w6 w7 := by first | exact hb | exact below_step (by first | exact Below.refl _ _ | exact below_alloc (Below.refl _ _) _ | exact below_alloc (below_alloc (Below.refl _ _) _) _) hb
  have n0 := Aside0.mk (below_step HB.out u)
  have nHM0 := Aside0.mk (Kd.C_below HM0.out u)
  have nHM1 := Aside0.mk (Kd.C_below HM1.out u)
  clear u HB HM0 HM1 HX
  have HB := n0
  have HM0 := nHM0
  have HM1 := nHM1
  clear n0 nHM0 nHM1
  clear hb
  go_wp2_with fail
  have HX := Aside0.mk (fx_lit30 (w7.alloc (.cells #[.string (fx_s [98]), .string (fx_s []), .string (fx_s [98]), .string (fx_s [])] 30)) w7.heap.size ([⟨fx_s [98], fx_s []⟩, ⟨fx_s [98], fx_s []⟩]) (by decide) (fun j x hj => by (match j, hj with | 0, hj => cases hj; constructor <;> go_simp <;> rfl | 1, hj => cases hj; constructor <;> go_simp <;> rfl)))
  refine (pack_Right.calls 10 (some ⟨w7.heap.size, 0, none⟩) 2 ([⟨fx_s [98], fx_s []⟩, ⟨fx_s [98], fx_s []⟩]) 128 false _ HX.out (Nat.le_refl _) fx_f8).mono ?_
  rintro e w8 ⟨rfl, hb⟩
  have u : Below w7.heap.size w7 w8 := by first | exact hb | exact below_step (by first | exact Below.refl _ _ | exact below_alloc (Below.refl _ _) _ | exact below_alloc (below_alloc (Below.refl _ _) _) _) hb
  have n0 := Aside0.mk (below_step HB.out u)
  have nHM0 := Aside0.mk (Kd.C_below HM0.out u)
  have nHM1 := Aside0.mk (Kd.C_below HM1.out u)
  clear u HB HM0 HM1 HX
  have HB := n0
  have HM0 := nHM0
  have HM1 := nHM1
  clear n0 nHM0 nHM1
  clear hb
  go_wp2_with fail
  refine (withyref01_Repeat.calls 120 1 17 fx_q _ fx_f9).mono ?_
  rintro e w9 ⟨rfl, hb⟩
  have u : Below w8.heap.size w8 w9 := by first | exact hb | exact below_step (by first | exact Below.refl _ _ | exact below_alloc (Below.refl _ _) _ | exact below_alloc (below_alloc (Below.refl _ _) _) _) hb
  have n0 := Aside0.mk (below_step HB.out u)
  have nHM0 := Aside0.mk (Kd.C_below HM0.out u)
  have nHM1 := Aside0.mk (Kd.C_below HM1.out u)
  clear u HB HM0 HM1
  have HB := n0
  have HM0 := nHM0
  have HM1 := nHM1
  clear n0 nHM0 nHM1
  clear hb
  go_wp2_with fail
  have HX := Aside0.mk (fx_lit30 (w9.alloc (.cells #[.string (fx_q), .string (fx_s [])] 30)) w9.heap.size ([⟨fx_q, fx_s []⟩]) (by decide) (fun j x hj => by (match j, hj with | 0, hj => cases hj; constructor <;> go_simp <;> rfl)))
  refine (pack_Right.calls 10 (some ⟨w9.heap.size, 0, none⟩) 1 ([⟨fx_q, fx_s []⟩]) 128 false _ HX.out (Nat.le_refl _) fx_f10).mono ?_
  rintro e w10 ⟨rfl, hb⟩
  have u : Below w9.heap.size w9 w10 := by first | exact hb | exact below_step (by first | exact Below.refl _ _ | exact below_alloc (Below.refl _ _) _ | exact below_alloc (below_alloc (Below.refl _ _) _) _) hb
  have n0 := Aside0.mk (below_step HB.out u)
  have nHM0 := Aside0.mk (Kd.C_below HM0.out u)
  have nHM1 := Aside0.mk (Kd.C_below HM1.out u)
  clear u HB HM0 HM1 HX
  have HB := n0
  have HM0 := nHM0
  have HM1 := nHM1
  clear n0 nHM0 nHM1
  clear hb
  go_wp2_with fail
  refine (pack_Group.calls AHM0 cHM0 fx_M0 128 [2, 1] _ HM0.out cHM0l fx_f11).mono ?_
  rintro e w11 ⟨v, rfl, ho, hb⟩
  have u : Below w10.heap.size w10 w11 := by first | exact hb | exact below_step (by first | exact Below.refl _ _ | exact below_alloc (Below.refl _ _) _ | exact below_alloc (below_alloc (Below.refl _ _) _) _) hb
  have n0 := Aside0.mk (below_step HB.out u)
  have nHM0 := Aside0.mk (Kd.C_below HM0.out u)
  have nHM1 := Aside0.mk (Kd.C_below HM1.out u)
  clear u HB HM0 HM1
  have HB := n0
  have HM0 := nHM0
  have HM1 := nHM1
  clear n0 nHM0 nHM1
  obtain ⟨AHG, cHG, hv⟩ := Kd.R_slice ho
  subst hv
  have cHGl := (Kd.R_reads' ho).2.1
  have HG := Aside0.mk (Kd.R_reads' ho).2.2
  rw [show ([2, 1] : List Int).length = 2 from rfl] at cHGl HG ⊢
  clear ho hb
  go_wp2_with fail
  have HX := Aside0.mk (fx_litI (w11.alloc (.cells #[.int .i64 2, .int .i64 1] 3)) w11.heap.size ([2, 1]) (by decide) (fun j x hj => by (match j, hj with | 0, hj => cases hj; (try go_simp); (try rfl) | 1, hj => cases hj; (try go_simp); (try rfl))))
  refine (withyref01_Ints.calls 10 AHG cHG [2, 1] (some ⟨w11.heap.size, 0, none⟩) 2 [2, 1] true _ (Kd.C_alloc HG.out _) cHGl HX.out (Nat.le_refl _) fx_f12).mono ?_
  rintro e w12 ⟨rfl, hd⟩
  have hb := hd.below; clear hd
  have u : Below w11.heap.size w11 w12 := by first | exact hb | exact below_step (by first | exact Below.refl _ _ | exact below_alloc (Below.refl _ _) _ | exact below_alloc (below_alloc (Below.refl _ _) _) _) hb
  have n0 := Aside0.mk (below_step HB.out u)
  have nHM0 := Aside0.mk (Kd.C_below HM0.out u)
  have nHM1 := Aside0.mk (Kd.C_below HM1.out u)
  have nHG := Aside0.mk (Kd.C_below HG.out u)
  clear u HB HM0 HM1 HG HX
  have HB := n0
  have HM0 := nHM0
  have HM1 := nHM1
  have HG := nHG
  clear n0 nHM0 nHM1 nHG
  clear hb
  clear HG
  go_wp2_with fail
  refine (pack_Group.calls none 0 [] 128 [0] _ ⟨rfl, by simp, fun h => absurd h (by decide)⟩ (Nat.le_refl _) fx_f13).mono ?_
  rintro e w13 ⟨v, rfl, ho, hb⟩
  have u : Below w12.heap.size w12 w13 := by first | exact hb | exact below_step (by first | exact Below.refl _ _ | exact below_alloc (Below.refl _ _) _ | exact below_alloc (below_alloc (Below.refl _ _) _) _) hb
  have n0 := Aside0.mk (below_step HB.out u)
  have nHM0 := Aside0.mk (Kd.C_below HM0.out u)
  have nHM1 := Aside0.mk (Kd.C_below HM1.out u)
  clear u HB HM0 HM1
  have HB := n0
  have HM0 := nHM0
  have HM1 := nHM1
  clear n0 nHM0 nHM1
  obtain ⟨AHG, cHG, hv⟩ := Kd.R_slice ho
  subst hv
  have cHGl := (Kd.R_reads' ho).2.1
  have HG := Aside0.mk (Kd.R_reads' ho).2.2
  rw [show ([0] : List Int).length = 1 from rfl] at cHGl HG ⊢
  clear ho hb
  go_wp2_with fail
  have HX := Aside0.mk (fx_litI (w13.alloc (.cells #[.int .i64 0] 3)) w13.heap.size ([0]) (by decide) (fun j x hj => by (match j, hj with | 0, hj => cases hj; (try go_simp); (try rfl))))
  refine (withyref01_Ints.calls 10 AHG cHG [0] (some ⟨w13.heap.size, 0, none⟩) 1 [0] true _ (Kd.C_alloc HG.out _) cHGl HX.out (Nat.le_refl _) fx_f14).mono ?_
  rintro e w14 ⟨rfl, hd⟩
  have hb := hd.below; clear hd
  have u : Below w13.heap.size w13 w14 := by first | exact hb | exact below_step (by first | exact Below.refl _ _ | exact below_alloc (Below.refl _ _) _ | exact below_alloc (below_alloc (Below.refl _ _) _) _) hb
  have n0 := Aside0.mk (below_step HB.out u)
  have nHM0 := Aside0.mk (Kd.C_below HM0.out u)
  have nHM1 := Aside0.mk (Kd.C_below HM1.out u)
  have nHG := Aside0.mk (Kd.C_below HG.out u)
  clear u HB HM0 HM1 HG HX
  have HB := n0
  have HM0 := nHM0
  have HM1 := nHM1
  have HG := nHG
  clear n0 nHM0 nHM1 nHG
  clear hb
  clear HG
  go_wp2_with fail
  have HX := Aside0.mk (fx_litI (w14.alloc (.cells #[.int .i64 2, .int .i64 1] 3)) w14.heap.size ([2, 1]) (by decide) (fun j x hj => by (match j, hj with | 0, hj => cases hj; (try go_simp); (try rfl) | 1, hj => cases hj; (try go_simp); (try rfl))))
  refine (pack_Seps.calls 10 AHM0 cHM0 fx_M0 (some ⟨w14.heap.size, 0, none⟩) 2 [2, 1] ([fx_s [99]]) _ (Kd.C_alloc HM0.out _) cHM0l HX.out (Nat.le_refl _) fx_f15).mono ?_
  rintro e w15 ⟨v, rfl, ho, hb⟩
  have u : Below w14.heap.size w14 w15 := by first | exact hb | exact below_step (by first | exact Below.refl _ _ | exact below_alloc (Below.refl _ _) _ | exact below_alloc (below_alloc (Below.refl _ _) _) _) hb
  have n0 := Aside0.mk (below_step HB.out u)
  have nHM0 := Aside0.mk (Kd.C_below HM0.out u)
  have nHM1 := Aside0.mk (Kd.C_below HM1.out u)
  clear u HB HM0 HM1 HX
  have HB := n0
  have HM0 := nHM0
  have HM1 := nHM1
  clear n0 nHM0 nHM1
  obtain ⟨AHS, cHS, hv⟩ := Kd.R_slice ho
  subst hv
  have cHSl := (Kd.R_reads' ho).2.1
  have HS := Aside0.mk (Kd.R_reads' ho).2.2
  rw [show ([fx_s [99]] : List ByteArray).length = 1 from rfl] at cHSl HS ⊢
  clear ho hb
  go_wp2_with fail
  have HX := Aside0.mk (fx_litS (w15.alloc (.cells #[.string (fx_s [99])] 9)) w15.heap.size (fx_s [99]) (by go_simp <;> rfl))
  refine (withyref01_Words.calls 10 AHS cHS [fx_s [99]] (some ⟨w15.heap.size, 0, none⟩) 1 [fx_s [99]] true _ (Kd.C_alloc HS.out _) cHSl HX.out (Nat.le_refl _) fx_f16).mono ?_
  rintro e w16 ⟨rfl, hd⟩
  have hb := hd.below; clear hd
  have u : Below w15.heap.size w15 w16 := by first | exact hb | exact below_step (by first | exact Below.refl _ _ | exact below_alloc (Below.refl _ _) _ | exact below_alloc (below_alloc (Below.refl _ _) _) _) hb
  have n0 := Aside0.mk (below_step HB.out u)
  have nHM0 := Aside0.mk (Kd.C_below HM0.out u)
  have nHM1 := Aside0.mk (Kd.C_below HM1.out u)
  have nHS := Aside0.mk (Kd.C_below HS.out u)
  clear u HB HM0 HM1 HS HX
  have HB := n0
  have HM0 := nHM0
  have HM1 := nHM1
  have HS := nHS
  clear n0 nHM0 nHM1 nHS
  clear hb
  clear HS
  go_wp2_with fail
  have HX := Aside0.mk (fx_litI (w16.alloc (.cells #[.int .i64 3] 3)) w16.heap.size ([3]) (by decide) (fun j x hj => by (match j, hj with | 0, hj => cases hj; (try go_simp); (try rfl))))
  refine (pack_Seps.calls 10 AHM0 cHM0 fx_M0 (some ⟨w16.heap.size, 0, none⟩) 1 [3] ([]) _ (Kd.C_alloc HM0.out _) cHM0l HX.out (Nat.le_refl _) fx_f17).mono ?_
  rintro e w17 ⟨v, rfl, ho, hb⟩
  have u : Below w16.heap.size w16 w17 := by first | exact hb | exact below_step (by first | exact Below.refl _ _ | exact below_alloc (Below.refl _ _) _ | exact below_alloc (below_alloc (Below.refl _ _) _) _) hb
  have n0 := Aside0.mk (below_step HB.out u)
  have nHM0 := Aside0.mk (Kd.C_below HM0.out u)
  have nHM1 := Aside0.mk (Kd.C_below HM1.out u)
  clear u HB HM0 HM1 HX
  have HB := n0
  have HM0 := nHM0
  have HM1 := nHM1
  clear n0 nHM0 nHM1
  obtain ⟨AHS, cHS, hv⟩ := Kd.R_slice ho
  subst hv
  have cHSl := (Kd.R_reads' ho).2.1
  have HS := Aside0.mk (Kd.R_reads' ho).2.2
  rw [show ([] : List ByteArray).length = 0 from rfl] at cHSl HS ⊢
  clear ho hb
  obtain ⟨d, e0, g0⟩ := at_T35 HM1.out 0 (by decide) (by decide)
  subst e0
  obtain ⟨d1, e1, g1⟩ := at_T35 HM1.out 1 (by decide) (by decide)
  obtain rfl := Option.some.inj e1
  obtain ⟨d2, e2, g2⟩ := at_T35 HM1.out 2 (by decide) (by decide)
  obtain rfl := Option.some.inj e2
  have k00 : w17.cell? ⟨d.block, d.off + 1, none⟩ = some (.bool true) := g0.2.1
  have k01 : w17.cell? ⟨d.block, d.off + 1 + 1, none⟩ = some (.string (fx_s [])) := g0.2.2.1
  have k02 : w17.cell? ⟨d.block, d.off + 1 + 2, none⟩ = some (.int .i64 33) := g0.2.2.2.1
  have k03 : w17.cell? ⟨d.block, d.off + 1 + 3, none⟩ = some (.int .i64 5) := g0.2.2.2.2
  have k10 : w17.cell? ⟨d.block, d.off + 5 + 1, none⟩ = some (.bool true) := g1.2.1
  have k11 : w17.cell? ⟨d.block, d.off + 5 + 1 + 1, none⟩ = some (.string (fx_s [])) := g1.2.2.1
  have k12 : w17.cell? ⟨d.block, d.off + 5 + 1 + 2, none⟩ = some (.int .i64 113) := g1.2.2.2.1
  have k13 : w17.cell? ⟨d.block, d.off + 5 + 1 + 3, none⟩ = some (.int .i64 6) := g1.2.2.2.2
  have k20 : w17.cell? ⟨d.block, d.off + 10 + 1, none⟩ = some (.bool false) := g2.2.1
  have k21 : w17.cell? ⟨d.block, d.off + 10 + 1 + 1, none⟩ = some (.string (fx_s [])) := g2.2.2.1
  have k22 : w17.cell? ⟨d.block, d.off + 10 + 1 + 2, none⟩ = some (.int .i64 0) := g2.2.2.2.1
  have k23 : w17.cell? ⟨d.block, d.off + 10 + 1 + 3, none⟩ = some (.int .i64 0) := g2.2.2.2.2
  clear g0 g1 g2 HM1 HM0 HS
  have he : (fx_s []).toList = [] := by first | rfl | decide +kernel
  go_wp2_with fail
  all_goals first | (exact absurd he (by assumption)) | (go_ret; exact ⟨rfl, HB.out⟩)


end Go.Proofs.Ytmheajenlhlbhaa.X


-- PackRoom: the law's walk, with what its calls answer.
namespace Go.Proofs.Ytmheajenlhlbhaa.X
open Go.RowKit Go.Proofs.YtmheajenlhlbhaaW.PrintWords Go.Proofs.YtmheajenlhlbhaaW.PrintLast Go.Proofs.YtmheajenlhlbhaaW.PrintMore
attribute [local go_sem] max2_int min2_int max_two min_two max_three min_three max_four min_four
set_option linter.unusedVariables false
set_option linter.unusedSimpArgs false
/-- Where a leaf's items begin. -/
def sAt (p : Int) (M : List S35) (k : Nat) : Nat := ((groupN p M).take k).sum.toNat
/-- What is known of leaf number k: where it begins, how many it has, and whether others follow. -/
def LeafAt (p : Int) (M : List S35) (k s : Nat) : Prop := s + firstN (M.drop s) p ≤ M.length ∧ (groupN p M)[k]? = some (firstN (M.drop s) p : Int) ∧ ((groupN p M).take k).sum = (s : Int) ∧ (s < M.length ∨ M.length = 0) ∧ (k + 1 = (groupN p M).length ↔ s + firstN (M.drop s) p = M.length)
theorem leaf_at (p : Int) : ∀ (d : Nat) (M : List S35), M.length ≤ d → ∀ k, k < (groupN p M).length → ∃ s, LeafAt p M k s
  | d, M, h, k, hk => by
    have hb := firstN_bounds M p
    have e := groupN_eq p M
    by_cases c : firstN M p = M.length
    · rw [if_pos c] at e
      have hk0 : k = 0 := by rw [e] at hk; simpa using hk
      subst hk0
      refine ⟨0, ?_⟩
      unfold LeafAt
      rw [e, List.drop_zero]
      refine ⟨by omega, rfl, rfl, by omega, ?_⟩
      simp [c]
    · rw [if_neg c] at e
      match d with
      | 0 => omega
      | d + 1 =>
        have hp := groupN_length p _ (M.drop (firstN M p)) (Nat.le_refl _)
        match k with
        | 0 =>
          refine ⟨0, ?_⟩
          unfold LeafAt
          rw [e, List.drop_zero]
          have hne : 0 < (groupN p (M.drop (firstN M p))).length := by
            rw [groupN_eq]
            split <;> simp
          refine ⟨by omega, rfl, rfl, by omega, ?_⟩
          simp only [List.length_cons]
          omega
        | k + 1 =>
          have hk2 : k < (groupN p (M.drop (firstN M p))).length := by rw [e, List.length_cons] at hk; omega
          obtain ⟨s, h1, h2, h3, h4, h5⟩ := leaf_at p d (M.drop (firstN M p)) (by rw [List.length_drop]; omega) k hk2
          refine ⟨firstN M p + s, ?_⟩
          unfold LeafAt
          rw [List.drop_drop] at h1 h2 h5
          rw [List.length_drop] at h1 h4 h5
          rw [e]
          refine ⟨by omega, by simpa using h2, by simp [h3], by omega, ?_⟩
          simp only [List.length_cons]
          omega
theorem LeafAt.sAt {p : Int} {M : List S35} {k s : Nat} (h : LeafAt p M k s) : sAt p M k = s := by
  unfold X.sAt
  rw [h.2.2.1, Int.toNat_natCast]
theorem LeafAt.next {p : Int} {M : List S35} {k s : Nat} (h : LeafAt p M k s) : X.sAt p M (k + 1) = s + firstN (M.drop s) p := by
  unfold X.sAt
  obtain ⟨hk, he⟩ := List.getElem?_eq_some_iff.1 h.2.1
  rw [List.take_succ_eq_append_getElem hk, List.sum_append, h.2.2.1, he]
  simp
  omega
theorem sAt_end (p : Int) (M : List S35) : sAt p M (groupN p M).length = M.length := by
  have hne : 0 < (groupN p M).length := by
    rw [groupN_eq]
    split <;> simp
  obtain ⟨s, h⟩ := leaf_at p _ M (Nat.le_refl _) ((groupN p M).length - 1) (by omega)
  have hn := h.next
  rw [show (groupN p M).length - 1 + 1 = (groupN p M).length by omega] at hn
  rw [hn]
  exact h.2.2.2.2.1 (by omega)
/-- What the rounds keep. -/
def RoomS (w : World) (M : List S35) (G : List Int) (AM : Option Addr) (cM : Nat) (AG : Option Addr) (W : World) : Prop := Kd.C k35 W AM M.length M ∧ M.length ≤ cM ∧ Kd.C (Kd.int .i64) W AG G.length G ∧ Below w.heap.size w W
theorem RoomS.mk {w W : World} {M : List S35} {G : List Int} {AM : Option Addr} {cM : Nat} {AG : Option Addr} (h1 : Kd.C k35 W AM M.length M) (h2 : M.length ≤ cM) (h3 : Kd.C (Kd.int .i64) W AG G.length G) (h4 : Below w.heap.size w W) : RoomS w M G AM cM AG W := ⟨h1, h2, h3, h4⟩
theorem RoomS.items {w W : World} {M : List S35} {G : List Int} {AM : Option Addr} {cM : Nat} {AG : Option Addr} (h : RoomS w M G AM cM AG W) : Kd.C k35 W AM M.length M := h.1
theorem RoomS.step {w W W2 : World} {M : List S35} {G : List Int} {AM : Option Addr} {cM : Nat} {AG : Option Addr} (h : RoomS w M G AM cM AG W) (hb : Below W.heap.size W W2) : RoomS w M G AM cM AG W2 := ⟨Kd.C_below h.1 hb, h.2.1, Kd.C_below h.2.2.1 hb, below_step h.2.2.2 hb⟩
set_option maxRecDepth 100000 in
theorem cut_range (A : Option Addr) (c : Nat) (M : List S35) (s n : Nat) (e : Int) (hee : e = (s : Int) + (n : Int)) (h : s + n ≤ M.length) (hc : M.length ≤ c) : ∃ A', (∀ W : World, (Instr.slice 26 (.slice A M.length c) (some (.int .i64 (s : Int))) (some (.int .i64 e)) none).run Try.prog W = .ok (.slice A' ((M.drop s).take n).length (c - s)) W) ∧
    (∀ w : World, Kd.C k35 w A M.length M → Kd.C k35 w A' ((M.drop s).take n).length ((M.drop s).take n)) ∧ ((M.drop s).take n).length ≤ c - s := by
  subst hee
  have hz : (Try.prog.info? 35).map (·.size) = some 5 := by kernel_rfl
  obtain ⟨i, hi, hi5⟩ := Option.map_eq_some_iff.1 hz
  have he : (M.take (s + n)).drop s = (M.drop s).take n := by rw [List.drop_take]; congr 1; omega
  have hl : ((M.drop s).take n).length = n := by rw [List.length_take, List.length_drop]; omega
  refine ⟨if c = s then A else A.map (·.add (s * 5)), fun W => ?_, fun w hC => ?_, by omega⟩
  · have := cut_mid (P := Try.prog) 26 35 .i64 .i64 Try.underlying26 hi 5 hi5 A M.length c (s : Int) ((s : Int) + (n : Int)) (by omega) (by omega) (by omega) hc W
    rw [this, hl]
    have e1 : ((s : Int) + (n : Int)).toNat - (s : Int).toNat = n := by omega
    rw [e1, Int.toNat_natCast]
  · have := Kd.C_mid (c := c) hC (show s ≤ s + n by omega) h hc
    rw [he] at this
    exact this
def BelC (W0 W : World) : Prop := Below W0.heap.size W0 W
theorem BelC.cell {W0 W : World} {a : Addr} {v : Value} (h : BelC W0 W) (hv : W0.cell? a = some v) : W.cell? a = some v := (Below.cell h (World.block_lt_of_cell? W0 _ hv)).trans hv
/-- A leaf's box, its High and its Right stored. -/
theorem box_stores {W : World} {B : Nat} {sl : Value} (hb : Block W B 46 #[.int .i64 1, .int .i64 0, .string ⟨#[]⟩, sl]) (hi : ByteArray) :
    (W.cell? ⟨B, 2, none⟩ = some (.string ⟨#[]⟩) ∧ W.frozen? ⟨B, 2, none⟩ = false) ∧
    ((W.setCell ⟨B, 2, none⟩ (.string hi)).cell? ⟨B, 1, none⟩ = some (.int .i64 0) ∧ (W.setCell ⟨B, 2, none⟩ (.string hi)).frozen? ⟨B, 1, none⟩ = false) ∧
    (((W.setCell ⟨B, 2, none⟩ (.string hi)).setCell ⟨B, 1, none⟩ (.int .i64 2)).cell? ⟨B, 0, none⟩ = some (.int .i64 1) ∧ ((W.setCell ⟨B, 2, none⟩ (.string hi)).setCell ⟨B, 1, none⟩ (.int .i64 2)).cell? ⟨B, 1, none⟩ = some (.int .i64 2) ∧
      ((W.setCell ⟨B, 2, none⟩ (.string hi)).setCell ⟨B, 1, none⟩ (.int .i64 2)).cell? ⟨B, 2, none⟩ = some (.string hi) ∧ ((W.setCell ⟨B, 2, none⟩ (.string hi)).setCell ⟨B, 1, none⟩ (.int .i64 2)).cell? ⟨B, 3, none⟩ = some sl) := by
  have h1 : Block (W.setCell ⟨B, 2, none⟩ (.string hi)) B 46 #[.int .i64 1, .int .i64 0, .string hi, sl] := hb.set 2 (.string hi)
  have h2 : Block ((W.setCell ⟨B, 2, none⟩ (.string hi)).setCell ⟨B, 1, none⟩ (.int .i64 2)) B 46 #[.int .i64 1, .int .i64 2, .string hi, sl] := h1.set 1 (.int .i64 2)
  exact ⟨⟨hb.cell 2 (by simp), hb.frozen 2⟩, ⟨h1.cell 1 (by simp), h1.frozen 1⟩, h2.cell 0 (by simp), h2.cell 1 (by simp), h2.cell 2 (by simp), h2.cell 3 (by simp)⟩
set_option maxRecDepth 100000 in
set_option maxHeartbeats 4000000 in
theorem room_loop (l0 : List S30) (a1 q : Int) (r : List S30) (A0 : Option Addr) (c0 : Nat) (w : World) (hr0 : Kd.C k30 w A0 l0.length l0) (hc0 : l0.length ≤ c0) (hq : withylaw16_Size.f a1 = some q) (hp : P4 q)
    (hrise : withylaw16_Rise.f 100 l0 q = some r) (hcut : Cutted r) (hlaid : Laid q (itemsN q 1 r)) :
    Calls Try.prog 6 #[.slice A0 l0.length c0, .int .i64 a1] w fun e w' => e = .returned (.bool true) ∧ Below w.heap.size w w' := by
  have hq2 : 128 ≤ q ∧ q ≤ 1024 := by rcases hp with rfl | rfl | rfl | rfl <;> decide
  have HSZ := Aside0.mk hq
  have HRISE := Aside0.mk hrise
  have HIT := Aside0.mk (Items_ok 100 r 1 q (by omega) hcut (by omega) (by omega))
  have HGR := Aside0.mk (show pack_Group.f (itemsN q 1 r) q = some (groupN q (itemsN q 1 r)) by have := Group_ok q 1 r (by omega) hcut 0; rwa [List.drop_zero] at this)
  have hml := itemsN_length q r 1
  have hgl := groupN_length q _ (itemsN q 1 r) (Nat.le_refl _)
  have hml2 := hlaid.1
  generalize hM : itemsN q 1 r = M at HIT HGR hml hgl hml2 hlaid
  generalize hG : groupN q M = G at HGR hgl
  generalize atN q 1 r = pg at HIT
  have HM := Aside0.mk hM
  have HG := Aside0.mk hG
  have HL := Aside0.mk hlaid
  have HP := Aside0.mk hp
  have HRL := Aside0.mk hml
  have HR0 := Aside0.mk hr0
  have HC0 := Aside0.mk hc0
  have hlen : ((M.length : Int) != (r.length : Int)) = false := by rw [hml]; simp
  clear hM hG hlaid hp hml hr0 hc0 hq hrise hcut
  go_enter Try.func6, Try.ntmps6
  go_wp2_with (first
    | (go_at_call 7; ((with_reducible refine (withylaw16_Size.calls a1 q _ HSZ.out).mono ?_); rintro e w1 ⟨rfl, ⟨nd, rfl⟩⟩))
    | (go_at_call 8; ((with_reducible refine (withylaw16_Rise.calls 100 A0 c0 l0 q r _ ?s1 HC0.out HRISE.out).mono ?_); (case s1 => repeat (first | exact HR0.out | (with_reducible refine Kd.C_drewN ?_ _) | (with_reducible refine Kd.C_drew ?_))); rintro e w2 ⟨v2, rfl, ho2, hb2⟩; have HB2 := Aside0.mk (below_step (pw_below_drewN (Below.refl _ _) _) hb2); clear hb2; obtain ⟨A2, c2, rfl⟩ := Kd.R_slice ho2; have HO2 := Aside0.mk ho2; clear ho2))
    | (go_at_call 9; ((with_reducible refine (pack_Items.calls 100 A2 c2 r 1 q M pg _ (Kd.R_reads' HO2.out).2.2 (Kd.R_reads' HO2.out).2.1 HIT.out).mono ?_); rintro e w3 ⟨v3, rfl, ho3, hb3⟩; have HB3 := Aside0.mk (below_step HB2.out hb3); clear hb3; obtain ⟨A3, c3, rfl⟩ := Kd.R_slice ho3; have HO3 := Aside0.mk ho3; clear ho3))
    | (go_at_call 13; ((with_reducible refine (pack_Group.calls A3 c3 M q G _ (Kd.R_reads' HO3.out).2.2 (Kd.R_reads' HO3.out).2.1 HGR.out).mono ?_); rintro e w4 ⟨v4, rfl, ho4, hb4⟩; have HB4 := Aside0.mk (below_step HB3.out hb4); have HC3 := Aside0.mk (Kd.C_below (Kd.R_reads' HO3.out).2.2 hb4); clear hb4; obtain ⟨A4, c4, rfl⟩ := Kd.R_slice ho4; have HO4 := Aside0.mk ho4; clear ho4)))
  have hS := RoomS.mk HC3.out (Kd.R_reads' HO3.out).2.1 (Kd.R_reads' HO4.out).2.2 HB4.out
  have HF := Aside0.mk (show withylaw16_fixed.f = some true from rfl)
  clear HB2 HB3 HB4 HO2 HO3 HO4 HC3
  go_loopw [9, 10] (fun a i wr => ∃ k s : Nat, k ≤ G.length ∧ i = .int .i64 k ∧ a = .int .i64 s ∧ Aside0 (s = sAt q M k) ∧ Aside0 (RoomS w M G A3 c3 A4 wr)) (fun _ i _ => G.length - (intOf i).toNat)
  case atStart => exact ⟨0, 0, by omega, rfl, rfl, ⟨rfl⟩, ⟨hS⟩⟩
  case round =>
    clear hS
    obtain ⟨k, s, h0, rfl, rfl, HSK, HS⟩ := hrel
    by_cases hx : k < G.length
    · obtain ⟨s', hL⟩ := leaf_at q _ M (Nat.le_refl _) k (by rw [HG.out]; exact hx)
      obtain rfl : s = s' := HSK.out.trans hL.sAt
      have HNX := Aside0.mk hL.next
      obtain ⟨hle, hgk, _, hs0, hlast⟩ := hL
      rw [HG.out] at hgk hlast
      obtain ⟨ad4, e4, g4⟩   := Kd.at_int HS.out.2.2.1 (k : Int) (by omega) (by omega)
      cases e4
      rw [Int.toNat_natCast, rdI hx, (List.getElem?_eq_some_iff.1 hgk).2] at g4
      obtain ⟨A5, hcut, hC5, hl5⟩ := cut_range A3 c3 M s (firstN (M.drop s) q) _ rfl hle HS.out.2.1
      have HI5 := Aside0.mk (hC5 _ HS.out.1)
      have hsl : s ≤ 40 := by omega
      have hnl : firstN (M.drop s) q ≤ 40 := by omega
      have hd1 : decide ((s : Int) + (firstN (M.drop s) q : Int) < (s : Int)) = false := decide_eq_false (by omega)
      have hd2 : decide ((M.length : Int) < (s : Int) + (firstN (M.drop s) q : Int)) = false := decide_eq_false (by omega)
      by_cases ce : s + firstN (M.drop s) q = M.length
      · obtain ⟨t, hE, ht⟩ : ∃ t, leaf_Encode.f 1 0 ⟨#[]⟩ ((M.drop s).take (firstN (M.drop s) q)) q = some (t, 0) ∧ (t.size : Int) = q := by
          by_cases c0 : s < M.length
          · have := group_yes HP.out (HL.out.drop s) (by rw [List.length_drop]; omega)
            have e1 : firstN (M.drop s) q = (M.drop s).length := by rw [List.length_drop]; omega
            have e2 : rightOf (M.drop s) (firstN (M.drop s) q) = 0 := by unfold rightOf; rw [if_pos e1]
            have e3 : highB (M.drop s) (firstN (M.drop s) q) = ⟨#[]⟩ := by unfold highB; rw [if_pos (.inr e1)]
            rw [e2, e3] at this
            exact this
          · have hm0 : M = [] := List.eq_nil_of_length_eq_zero (by omega)
            subst hm0
            simpa using group_none HP.out
        have HE := Aside0.mk hE
        have hts : ((t.size : Int) != q) = false := by rw [ht]; simp
        have hd3 : decide ((s : Int) + (firstN (M.drop s) q : Int) < (M.length : Int)) = false := decide_eq_false (by omega)
        have HCE := Aside0.mk ce
        clear hE ht hgk hlast hs0 ce hle hC5
        generalize firstN (M.drop s) q = n at *
        generalize (M.drop s).take n = I at *
        go_wp2_with (first
          | (go_at_call 17; ((with_reducible refine (leaf_Encode.calls 1 0 ⟨#[]⟩ A5 (c3 - s) I q t 0 _ (Kd.C_alloc HI5.out _) hl5 HE.out).mono ?_); rintro e w5 ⟨rfl, hb5⟩; have HS5 := Aside0.mk ((HS.out.step (below_alloc (Below.refl _ _) _)).step hb5); clear hb5)))
        go_roundw
        case rel => exact ⟨k + 1, s + n, by omega, by go_num, by go_num, ⟨HNX.out.symm⟩, HS5⟩
        case measure => simp [intOf]; omega
      · have hlt : s + firstN (M.drop s) q < M.length := by omega
        have hN : firstN (M.drop s) q < (M.drop s).length := by rw [List.length_drop]; omega
        obtain ⟨hn1, _⟩ := first_room HP.out (HL.out.drop s) (by rw [List.length_drop]; omega)
        obtain ⟨t, hE, ht⟩ := group_yes HP.out (HL.out.drop s) (by rw [List.length_drop]; omega)
        have hno := group_no HP.out (HL.out.drop s) hN
        rw [show rightOf (M.drop s) (firstN (M.drop s) q) = 2 by unfold rightOf; rw [if_neg (by omega)]] at hE
        obtain ⟨m1, hm1⟩ : ∃ m1, s + firstN (M.drop s) q = m1 + 1 := ⟨s + firstN (M.drop s) q - 1, by omega⟩
        have hhi : highB (M.drop s) (firstN (M.drop s) q) = leastB (M[m1]'(by omega)).f0 (M[m1 + 1]'(by omega)).f0 := by
          rw [highB_in (M.drop s) _ hn1 hN]
          congr 2
          · rw [List.getElem_drop]; congr 1; omega
          · rw [List.getElem_drop]; congr 1
        have hless := HL.out.2.2 m1 (by omega)
        have hle1 : sep_Least.f (M[m1]'(by omega)).f0 (M[m1 + 1]'(by omega)).f0 = some (highB (M.drop s) (firstN (M.drop s) q), 0) := by
          have z1 := (HL.out.2.1 _ (List.getElem_mem (l := M) (n := m1) (by omega))).1
          have z2 := (HL.out.2.1 _ (List.getElem_mem (l := M) (n := m1 + 1) (by omega))).1
          unfold sep_Least.f
          rw [if_pos ⟨by omega, by omega⟩, hhi, if_pos hless]
        obtain ⟨ad3, e3, g1, _⟩ := at_T35 HS.out.1 (m1 : Int) (by omega) (by omega)
        cases e3
        obtain ⟨ad3', e3, g2, _⟩ := at_T35 HS.out.1 ((m1 + 1 : Nat) : Int) (by omega) (by omega)
        cases e3
        rw [Int.toNat_natCast, rd35 (by omega)] at g1 g2
        generalize (M[m1]'(by omega)).f0 = k1 at g1 hle1
        generalize (M[m1 + 1]'(by omega)).f0 = k2 at g2 hle1
        generalize highB (M.drop s) (firstN (M.drop s) q) = hi at hE hle1
        have HE := Aside0.mk hE
        have HLE := Aside0.mk hle1
        have hts : ((t.size : Int) != q) = false := by rw [ht]; simp
        obtain ⟨m2, hm2⟩ : ∃ m2 : Nat, m2 = m1 + 1 := ⟨_, rfl⟩
        rw [← hm2] at g2
        have hto : (s : Int) + (firstN (M.drop s) q : Int) = (m2 : Int) := by omega
        have hw1 : IntKind.i64.wrap ((m2 : Int) - 1) = (m1 : Int) := by rw [show (m2 : Int) - 1 = (m1 : Int) by omega]; exact IntWalk.i64_in _ (by omega)
        have hm21 : (m2 : Int) - 1 = (m1 : Int) := by omega
        have hd3 : decide ((m2 : Int) < (M.length : Int)) = true := decide_eq_true (by omega)
        have hd4 : decide (m2 < M.length) = true := decide_eq_true (by omega)
        have hd5 : decide ((0 : Int) < (firstN (M.drop s) q : Int)) = true := decide_eq_true (by omega)
        have hd6 : decide (0 < firstN (M.drop s) q) = true := decide_eq_true (by omega)
        have i1 : (0 : Int) ≤ (m1 : Int) := by omega
        have i2 : (m1 : Int) < (M.length : Int) := by omega
        have i3 : (0 : Int) ≤ (m2 : Int) := by omega
        have i4 : (m2 : Int) < (M.length : Int) := by omega
        rw [hto] at hcut hd1 hd2
        obtain ⟨I, hI⟩ : ∃ I, (M.drop s).take (firstN (M.drop s) q) = I := ⟨_, rfl⟩
        rw [hI] at hcut HI5 hl5 HE
        have HM2 := Aside0.mk hm2
        have HM1 := Aside0.mk hm1
        have HNO := Aside0.mk hno
        have HLT := Aside0.mk hlt
        have HLE2 := Aside0.mk hle
        have HN2 := Aside0.mk hN
        have Q1 : Aside0 (wr.cell? (ad3.add (m1 * 5)) = some (.string k1) ∧ wr.cell? (ad3.add (m2 * 5)) = some (.string k2)) := ⟨g1, g2⟩
        have g4b : ∀ o : Obj, (wr.alloc o).cell? (ad4.add k) = some (.int .i64 (firstN (M.drop s) q : Int)) := fun o => ((below_alloc (Below.refl _ _) o).cell (World.block_lt_of_cell? wr _ g4)).trans g4
        clear hE hle1 ht hgk hlast hs0 hless hhi hC5 hm2 hm1 hno hlt hle hN g1 g2
        go_wp2
        refine wp_region_class (BelC (wr.alloc (.cells #[.int .i64 1, .int .i64 0, .string ⟨#[]⟩, .slice A5 I.length (c3 - s)] 46))) (by kernel_rfl) (by kernel_rfl) (below_drew (Below.refl _ _)) ?_
        repeat (first | go_big_quiet_skip | (go_big_quiet_want; go_big_quiet_op; first | go_big_quiet_on | (apply Exists.intro; refine ⟨fun W hW => ?_, ?_⟩; (first | (with_reducible exact rfl) | (go_at_call 16; ((with_reducible refine (sep_Least.calls k1 k2 hi 0 _ HLE.out).mono ?_); rintro e w5 ⟨rfl, hb5⟩; exact ⟨rfl, below_step hW hb5⟩)) | (have y0 := hW.cell (((below_alloc (Below.refl _ _) _).cell (World.block_lt_of_cell? wr _ Q1.out.1)).trans Q1.out.1); have y1 := hW.cell (((below_alloc (Below.refl _ _) _).cell (World.block_lt_of_cell? wr _ Q1.out.2)).trans Q1.out.2); go_simp; with_reducible rfl)); go_big_quiet_on)))
        refine wpQuiet_nil ?_
        intro W hW
        have hBk : Block W wr.heap.size 46 #[.int .i64 1, .int .i64 0, .string ⟨#[]⟩, .slice A5 I.length (c3 - s)] := Block.below (World.alloc_heap_new wr _) hW (by simp)
        obtain ⟨⟨b1, b2⟩, ⟨b3, b4⟩, b5, b6, b7, b8⟩ := box_stores hBk hi
        have hbw : Below wr.heap.size wr ((W.setCell ⟨wr.heap.size, 2, none⟩ (.string hi)).setCell ⟨wr.heap.size, 1, none⟩ (.int .i64 2)) := below_set (below_set (below_step (below_alloc (Below.refl _ _) _) hW) (Nat.le_refl _)) (Nat.le_refl _)
        have HBW := Aside0.mk hbw
        have HS5 := Aside0.mk (HS.out.step hbw)
        have HI6 := Aside0.mk (Kd.C_below HI5.out hbw)
        clear hBk hbw
        -- with the next item
        obtain ⟨m3, hm3⟩ : ∃ m3 : Nat, m3 = m2 + 1 := ⟨_, rfl⟩
        have hm3i : (m2 : Int) + 1 = (m3 : Int) := by omega
        obtain ⟨A6, hcut2, hC6, hl6⟩ := cut_range (some ad3) c3 M s (firstN (M.drop s) q + 1) (m3 : Int) (by have := HM1.out; have := HM2.out; omega) (by have := HLT.out; omega) HS.out.2.1
        have HNO2 := HNO.out
        obtain ⟨I2, hI2⟩ : ∃ I, (M.drop s).take (firstN (M.drop s) q + 1) = I := ⟨_, rfl⟩
        rw [hI2] at hcut2 hl6 hC6 HNO2
        have HC6 := Aside0.mk hC6
        clear hI2 hC6
        have j1 : (0 : Int) ≤ (m3 : Int) := by omega
        have j2 : (s : Int) ≤ (m3 : Int) := by have := HM1.out; have := HM2.out; omega
        have hsn : s + firstN (M.drop s) q = m2 := by have := HM1.out; have := HM2.out; omega
        have HSN := Aside0.mk hsn
        by_cases cz : m3 = M.length
        · have e1 : rightOf (M.drop s) (firstN (M.drop s) q + 1) = 0 := by unfold rightOf; rw [if_pos (by rw [List.length_drop]; omega)]
          have e2 : highB (M.drop s) (firstN (M.drop s) q + 1) = ⟨#[]⟩ := by unfold highB; rw [if_pos (.inr (by rw [List.length_drop]; omega))]
          rw [e1, e2] at HNO2
          have HNO3 := Aside0.mk HNO2
          have hd7 : decide ((m3 : Int) < (M.length : Int)) = false := decide_eq_false (by omega)
          have hd8 : decide (m3 < M.length) = false := decide_eq_false (by omega)
          clear e1 e2 HNO2 hm3 cz hsn
          go_wp2_with (first
            | (go_at_call 17; ((with_reducible refine (leaf_Encode.calls 1 2 hi A5 (c3 - s) I q t 0 _ HI6.out hl5 HE.out).mono ?_); rintro e w6 ⟨rfl, hb6⟩; have HS6 := Aside0.mk (HS5.out.step hb6); clear hb6))
            | (go_at_call 17; ((with_reducible refine (leaf_Encode.calls 1 0 ⟨#[]⟩ A6 (c3 - s) I2 q ⟨#[]⟩ 8 _ (Kd.C_alloc (HC6.out _ HS6.out.items) _) hl6 HNO3.out).mono ?_); rintro e w7 ⟨rfl, hb7⟩; have HS7 := Aside0.mk ((HS6.out.step (below_alloc (Below.refl _ _) _)).step hb7); clear hb7)))
          go_roundw
          case rel => exact ⟨k + 1, m2, by omega, by go_num, rfl, ⟨by rw [HNX.out]; exact HSN.out.symm⟩, HS7⟩
          case measure => simp [intOf]; omega
        · have hz3 : m3 < M.length := by have := HLT.out; omega
          have e1 : rightOf (M.drop s) (firstN (M.drop s) q + 1) = 2 := by unfold rightOf; rw [if_neg (by rw [List.length_drop]; omega)]
          have e2 : highB (M.drop s) (firstN (M.drop s) q + 1) = leastB (M[m2]'(by omega)).f0 (M[m3]'(by omega)).f0 := by
            rw [highB_in (M.drop s) _ (by omega) (by rw [List.length_drop]; omega)]
            congr 2
            · rw [List.getElem_drop]; congr 1
            · rw [List.getElem_drop]; congr 1; omega
          have hless2 := HL.out.2.2 m2 (by omega)
          have hle2 : sep_Least.f (M[m2]'(by omega)).f0 (M[m3]'(by omega)).f0 = some (highB (M.drop s) (firstN (M.drop s) q + 1), 0) := by
            have z1 := (HL.out.2.1 _ (List.getElem_mem (l := M) (n := m2) (by omega))).1
            have z2 := (HL.out.2.1 _ (List.getElem_mem (l := M) (n := m3) (by omega))).1
            unfold sep_Least.f
            rw [if_pos ⟨by omega, by omega⟩, e2, if_pos (by subst hm3; exact hless2)]
          rw [e1] at HNO2
          obtain ⟨ad3', e3, g1, _⟩ := at_T35 HS.out.1 (m2 : Int) (by omega) (by omega)
          cases e3
          obtain ⟨ad3', e3, g2, _⟩ := at_T35 HS.out.1 (m3 : Int) (by omega) (by omega)
          cases e3
          rw [Int.toNat_natCast, rd35 (by omega)] at g1 g2
          clear hless2 e2 e1
          generalize (M[m2]'(by omega)).f0 = k2 at g1 hle2
          generalize (M[m3]'(by omega)).f0 = k3 at g2 hle2
          generalize highB (M.drop s) (firstN (M.drop s) q + 1) = hi2 at HNO2 hle2
          have HLE4 := Aside0.mk hle2
          have HNO3 := Aside0.mk HNO2
          have G1 := Aside0.mk g1
          have G2 := Aside0.mk g2
          have hd7 : decide ((m3 : Int) < (M.length : Int)) = true := decide_eq_true (by omega)
          have hd8 : decide (m3 < M.length) = true := decide_eq_true (by omega)
          have i5 : (m3 : Int) < (M.length : Int) := by omega
          clear HNO2 hle2 hm3 cz hsn g1 g2 hz3
          go_wp2_with (first
            | (go_at_call 17; ((with_reducible refine (leaf_Encode.calls 1 2 hi A5 (c3 - s) I q t 0 _ HI6.out hl5 HE.out).mono ?_); rintro e w6 ⟨rfl, hb6⟩; have HS6 := Aside0.mk (HS5.out.step hb6); have HB6 := Aside0.mk (below_step HBW.out hb6); clear hb6)))
          have Q2 : Aside0 ((∀ o : Obj, (w6.alloc o).cell? (ad3.add (m2 * 5)) = some (.string k2)) ∧ (∀ o : Obj, (w6.alloc o).cell? (ad3.add (m3 * 5)) = some (.string k3))) := ⟨fun o => ((below_step HB6.out (below_alloc (Below.refl _ _) o)).cell (World.block_lt_of_cell? wr _ G1.out)).trans G1.out, fun o => ((below_step HB6.out (below_alloc (Below.refl _ _) o)).cell (World.block_lt_of_cell? wr _ G2.out)).trans G2.out⟩
          refine wp_region_class (BelC (w6.alloc (.cells #[.int .i64 1, .int .i64 0, .string ⟨#[]⟩, .slice A6 I2.length (c3 - s)] 46))) (by kernel_rfl) (by kernel_rfl) (below_drew (Below.refl _ _)) ?_
          repeat (first | go_big_quiet_skip | (go_big_quiet_want; go_big_quiet_op; first | go_big_quiet_on | (apply Exists.intro; refine ⟨fun W hW => ?_, ?_⟩; (first | (with_reducible exact rfl) | (go_at_call 16; ((with_reducible refine (sep_Least.calls k2 k3 hi2 0 _ HLE4.out).mono ?_); rintro e w5 ⟨rfl, hb5⟩; exact ⟨rfl, below_step hW hb5⟩)) | (have y0 := hW.cell (Q2.out.1 _); have y1 := hW.cell (Q2.out.2 _); go_simp; with_reducible rfl)); go_big_quiet_on)))
          refine wpQuiet_nil ?_
          intro W2 hW2
          have hBk : Block W2 w6.heap.size 46 #[.int .i64 1, .int .i64 0, .string ⟨#[]⟩, .slice A6 I2.length (c3 - s)] := Block.below (World.alloc_heap_new w6 _) hW2 (by simp)
          obtain ⟨⟨d1, d2⟩, ⟨d3, d4⟩, d5, d6, d7, d8⟩ := box_stores hBk hi2
          have hbw : Below w6.heap.size w6 ((W2.setCell ⟨w6.heap.size, 2, none⟩ (.string hi2)).setCell ⟨w6.heap.size, 1, none⟩ (.int .i64 2)) := below_set (below_set (below_step (below_alloc (Below.refl _ _) _) hW2) (Nat.le_refl _)) (Nat.le_refl _)
          have HS7 := Aside0.mk (HS6.out.step hbw)
          clear hBk hbw
          go_wp2_with (first
            | (go_at_call 17; ((with_reducible refine (leaf_Encode.calls 1 2 hi2 A6 (c3 - s) I2 q ⟨#[]⟩ 8 _ (HC6.out _ HS7.out.items) hl6 HNO3.out).mono ?_); rintro e w7 ⟨rfl, hb7⟩; have HS8 := Aside0.mk (HS7.out.step hb7); clear hb7)))
          go_roundw
          case rel => exact ⟨k + 1, m2, by omega, by go_num, rfl, ⟨by rw [HNX.out]; exact HSN.out.symm⟩, HS8⟩
          case measure => simp [intOf]; omega
    · have hk : k = G.length := by omega
      have hs : s = M.length := by rw [HSK.out, hk, ← HG.out]; exact sAt_end q M
      have hd : decide (k < G.length) = false := decide_eq_false (by omega)
      subst hs
      clear hk h0
      go_wp2_with (first
        | (go_at_call 12; ((with_reducible refine (withylaw16_fixed.calls true _ HF.out).mono ?_); rintro e w5 ⟨rfl, hb5⟩; have HB5 := Aside0.mk (below_step HS.out.2.2.2 hb5); clear hb5)))
      go_ret
      exact ⟨rfl, HB5.out⟩
theorem PackRoom_calls (l0 : List S30) (a1 : Int) (A0 : Option Addr) (c0 : Nat) (w : World) (hr0 : Kd.C k30 w A0 l0.length l0) (hc0 : l0.length ≤ c0) :
    Calls Try.prog 6 #[.slice A0 l0.length c0, .int .i64 a1] w fun e w' => e = .returned (.bool true) ∧ Below w.heap.size w w' := by
  obtain ⟨q, hq, hp⟩ := Size_ok a1
  have hq2 : 0 ≤ q ∧ q ≤ 100000 := by omega
  obtain ⟨r, h1, h2, h3, h4⟩ := Rise_full 100 l0 q hq2 (by omega)
  exact room_loop l0 a1 q r A0 c0 w hr0 hc0 hq hp h1 h2 (items_laid hp h2 h3 h4 1 (by omega))
end Go.Proofs.Ytmheajenlhlbhaa.X


-- The row of PackRoom: its statement out of the walk and the plain law.
namespace Go.Proofs.Ytmheajenlhlbhaa.packRoom
open Go.ChangeShapes Go.WideShapes Go.ChangeAt Go.RowKit
open Go.ChangeMaps (open_string shut_string)
theorem own : ownKnob Try.prog.godebug = none := by kernel_rfl
theorem laidOut : laidOutB Try.prog = true := by kernel_rfl
set_option maxRecDepth 100000 in
theorem lifted (os : Os) (started : os.Started) (H : Type) (enc : TypeId × Value → H) :
    ReturnsInHanded {} Try.checked os 6 .any (Rows.packRoomSpec.pre6 enc Try.prog Try.f6 Rows.packRoomRow.domain false) (Rows.packRoomSpec.post enc Try.prog Try.f6 false true false false) := by
  refine returnsInHanded_of_change_sized (C := Try.checked) own started (by kernel_rfl) Try.func6
    (ChangeSpec.witness6 (enc := enc) (C := Try.checked) false ⟨#[], #[.slice none 0 0, .int .i64 0], []⟩ 8 (by kernel_rfl) (by kernel_rfl) (by kernel_rfl) (by kernel_rfl)) ?_
  intro W base args ds gs before hval0 hW hcnd hsz0 _
  have hsz : (DataW.weightsEach Try.prog (Try.f6.params.toList ++ Rows.packRoomSpec.plain.varTypes Try.prog) (ds ++ gs)).all (· ≤ reachBytes) = true := hsz0
  have hval : ∀ (j : Nat) t v, Try.f6.params[j]? = some t → args[j]? = some v → Value.okWide Try.prog W .any base t v := hval0
  have hW' := hW
  obtain ⟨p, q, hA0, hV, rfl, hfz, hnd⟩ := hW
  have hA : DataW.TrodAll enc Try.prog W 0 (fun _ => true) true Try.f6.params.toList args.toList ds p := hA0
  rw [Try.params6] at hA hval hsz
  obtain ⟨v0, vs0, d0, ds0, p0, q0, hargs, rfl, rfl, h0, r0⟩ := trodAll_cons hA
  obtain ⟨v1, vs1, d1, ds1, p1, q1, rfl, rfl, rfl, h1, r1⟩ := trodAll_cons r0
  obtain ⟨rfl, rfl, rfl⟩ := trodAll_nil r1
  obtain rfl : args = #[v0, v1] := by cases args; simp_all
  obtain ⟨rfl, rfl⟩ := trodVars_none hV
  have k0 := h0
  have lt0 : ∀ x ∈ p0, x.block < W.heap.size := by obtain ⟨m, hm⟩ := k0; exact DataW.trod_lt m _ _ _ hm
  obtain ⟨A0, c0, l0, rfl, hC0, hc0⟩ := X.open_pairs (t := 22) hsz (j := 0) rfl rfl Try.underlying22 (okWide_slice Try.underlying22 (hval 0 22 v0 rfl rfl)) h0
  obtain ⟨a1, rfl, rfl, rfl, w1⟩ := open_int Try.underlying3 (hval 1 3 v1 rfl rfl) h1
  clear hA0 hval0 hsz0 hsz
  refine (X.PackRoom_calls l0 a1 A0 c0 W hC0 hc0).mono fun e W' ⟨he, bel⟩ => ?_
  subst he
  exact ⟨_, rfl, _, _, _, [], _, [], hW', trodAll_mk1 (shut_bool Try.underlying4 _), (trodAll_cons_mk (Below.trod laidOut (by kernel_rfl) (of_decide_eq_true (by kernel_rfl)) k0 bel lt0) (trodAll_cons_mk (shut_int Try.underlying3 w1) trodAll_mk0)), rfl, bel.frame _, fun h => by cases h⟩
theorem over : Rows.packRoomRow.holds Try.pinned (OpenSpec.ofChange Rows.packRoomSpec) :=
  OpenClaim.holds_of_wide 6 Try.f6 rfl rfl rfl rfl rfl rfl rfl ⟨rfl, rfl, rfl, rfl, rfl⟩ rfl rfl rfl rfl rfl (by kernel_rfl) Try.func6 (by kernel_rfl)
    (of_decide_eq_true (by kernel_rfl)) (by unfold Func.isWrapper; first | (rw [if_pos (by decide +kernel)]; kernel_rfl) | (rw [if_neg (by decide +kernel)]; exact ⟨rfl, rfl⟩))
    (fun os started H enc _ => lifted os started H enc)
theorem proved : Rows.PackRoomSaid := over
#print axioms proved
end Go.Proofs.Ytmheajenlhlbhaa.packRoom
namespace Go.Proofs.Ytmheajenlhlbhaa
/-- The row, under a short name, for the claim. -/
theorem packRoom_holds : Rows.PackRoomSaid := packRoom.proved
end Go.Proofs.Ytmheajenlhlbhaa

