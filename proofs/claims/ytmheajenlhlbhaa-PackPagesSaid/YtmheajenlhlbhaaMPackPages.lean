/- The law PackPages of the given program returns true for every input and leaves its arguments as they were. No conditions beyond the given statement's own. -/
import Derived.Test.YtmheajenlhlbhaaM01
import Derived.WalkKit
import Derived.ProofKit
import Derived.OpenShut
import Derived.ShutString
import Derived.ChangeOld
import Derived.Below
import Derived.SizedLaws
import Derived.Deep.SlicePairs
import Derived.Test.YtmheajenlhlbhaaM10
import Derived.Test.YtmheajenlhlbhaaM02
import Derived.Test.YtmheajenlhlbhaaM03
import Derived.Test.YtmheajenlhlbhaaM05
import Derived.Test.YtmheajenlhlbhaaM12
import Derived.Test.YtmheajenlhlbhaaRows
-- An argument of type []api.Pair, opened.
namespace Go.Proofs.Ytmheajenlhlbhaa.X
open Go.ChangeShapes Go.WideShapes Go.ChangeAt Go.RowKit Go.Deep Go.Proofs.YtmheajenlhlbhaaW.PrintWords
/-- An argument '[]api.Pair' as a row of pairs. -/
theorem open_pairs {H : Type} {enc : TypeId × Value → H} {w : World} {base : Nat} {spare : Nat → Bool} {held : Bool} {t : TypeId} {v : Value} {d : DataW H} {ps : List MemPlace} {ts : List TypeId} {ds : List (DataW H)} {j : Nat}
    (hsz : (DataW.weightsEach Try.prog ts ds).all (· ≤ reachBytes) = true) (hj : ts[j]? = some t) (hd : ds[j]? = some d) (hu : Try.prog.underlying t = some (.slice 30))
    (hv : ∃ a n c, v = .slice a n c) (h : DataW.Trod enc Try.prog w base spare held t v d ps) :
    ∃ (A : Option Addr) (c : Nat) (l : List S30), v = .slice A l.length c ∧ Kd.C k30 w A l.length l ∧ l.length ≤ c := by
  obtain ⟨a0, n0, c0, rfl⟩ := hv
  obtain ⟨fuel, hf⟩ := h
  rcases open_slice_pairs hu Try.underlying30 (by kernel_rfl) rfl rfl (by kernel_rfl) (by kernel_rfl) hf with ⟨hcs, _⟩ | ⟨a, len, cap, m, n, V0, V1, D0, D1, P0, P1, hcs, _, hl, hm, hmm, hx, hcell⟩
  · simp [Value.cells] at hcs
    obtain ⟨rfl, rfl, rfl⟩ := hcs
    exact ⟨none, 0, [], rfl, ⟨rfl, by simp, fun h0 => absurd h0 (by simp)⟩, by simp⟩
  · simp [Value.cells] at hcs
    obtain ⟨rfl, rfl, rfl⟩ := hcs
    have hlm : n0 ≤ m := by rw [hmm]; split <;> omega
    have hstr : ∀ i, i < n0 → ∃ x : S30, w.cell? (a.add (i * 2)) = some (.string x.f0) ∧ w.cell? (a.add (i * 2 + 1)) = some (.string x.f1) := by
      intro i hi
      obtain ⟨e0, e1, t0, t1⟩ := hcell i (by omega)
      obtain ⟨s0, h0, _, _⟩ := DataW.trod_string Try.underlying9 t0
      obtain ⟨s1, h1, _, _⟩ := DataW.trod_string Try.underlying9 t1
      simp only [List.cons.injEq, and_true] at h0 h1
      exact ⟨⟨s0, s1⟩, by rw [e0, h0], by rw [e1, h1]⟩
    haveI : Inhabited S30 := ⟨z30⟩
    obtain ⟨f, hF⟩ := choose_lt hstr
    have hz := (Prod.mk.inj hx).1
    have hB : (n0 + (m - n0)) * Try.prog.bytesOf 30 ≤ reachBytes := by
      have := sized_slice hsz hj (by rw [hd, hz]) hu
      simpa using this
    have h47 := reachBytes_lt
    have hb30 : Try.prog.bytesOf 30 = 32 := by kernel_rfl
    rw [hb30] at hB
    refine ⟨some a, c0, (List.range n0).map f, by simp, ?_, by simpa using hl⟩
    refine ⟨by simp, by simp; omega, fun _ => ⟨a, rfl, fun j p hj => ?_⟩⟩
    have hjl : j < n0 := by
      have := (List.getElem?_eq_some_iff.mp hj).1
      simpa using this
    have hp : f j = p := by
      rw [List.getElem?_map, List.getElem?_range hjl] at hj
      simpa using hj
    subst hp
    refine ⟨[.string (f j).f0, .string (f j).f1], rfl, k30_mk _ _, fun i u hu => ?_⟩
    match i, hu with
    | 0, hu => cases hu; exact (hF j hjl).1
    | 1, hu => cases hu; exact (hF j hjl).2
end Go.Proofs.Ytmheajenlhlbhaa.X

namespace Go.Proofs.Ytmheajenlhlbhaa.X
open Go.RowKit Go.Proofs.YtmheajenlhlbhaaW.PrintWords Go.Proofs.YtmheajenlhlbhaaW.PrintLast Go.Proofs.YtmheajenlhlbhaaW.PrintMore
attribute [local go_sem] max2_int min2_int max_two min_two max_three min_three max_four min_four   -- for this text's walks alone
set_option linter.unusedVariables false
set_option linter.unusedSimpArgs false

/-! ### withyref12_Pages: function 10 -/
def withyref12_Pages.f (a0 : Int) (a1 : Int) : Option (Int) := if a0 < 1 then (some 0) else (if (wrap64 (a1 - 16)) = 0 then (none) else (some (wrap64 ((wrap64 (Int.tdiv (wrap64 (a0 - 1)) (wrap64 (a1 - 16)))) + 1))))
set_option maxHeartbeats 8000000 in
set_option maxRecDepth 100000 in
theorem withyref12_Pages.calls (a0 : Int) (a1 : Int) (r : Int) (w : World) (h : withyref12_Pages.f a0 a1 = some r) :
    Calls Try.prog 10 #[.int .i64 a0, .int .i64 a1] w fun e w' => e = .returned (.int .i64 r) ∧ Drawn0 w w' := by
  have H : (if a0 < 1 then (some 0) else (if (wrap64 (a1 - 16)) = 0 then (none) else (some (wrap64 ((wrap64 (Int.tdiv (wrap64 (a0 - 1)) (wrap64 (a1 - 16)))) + 1))))) = some r := h
  clear h
  by_cases c3 : a0 < 1
  · rw [if_pos c3] at H
    have c3b0 : decide (a0 < 1) = true := decide_eq_true c3
    clear c3
    obtain rfl := Option.some.inj H
    go_enter Try.func10, Try.ntmps10
    go_wp2
    go_ret
    exact ⟨by first | rfl | (simp; done) | (simp [*]; done), by repeat (first | exact Drawn0.refl _ | apply Drawn0.step)⟩
  · rw [if_neg c3] at H
    have c3b0 : decide (a0 < 1) = false := decide_eq_false c3
    clear c3
    by_cases c4 : (wrap64 (a1 - 16)) = 0
    · rw [if_pos c4] at H
      exact absurd H (by simp)
    · rw [if_neg c4] at H
      have c4b0 : ((wrap64 (a1 - 16)) == 0) = false := beq_eq_false_iff_ne.mpr c4
      have c4b1 : ((wrap64 (a1 - 16)) != 0) = true := bne_iff_ne.mpr c4
      obtain rfl := Option.some.inj H
      go_enter Try.func10, Try.ntmps10
      go_wp2
      go_ret
      exact ⟨by first | rfl | (simp; done) | (simp [*]; done), by repeat (first | exact Drawn0.refl _ | apply Drawn0.step)⟩

end Go.Proofs.Ytmheajenlhlbhaa.X

namespace Go.Proofs.Ytmheajenlhlbhaa.X
open Go.RowKit Go.Proofs.YtmheajenlhlbhaaW.PrintWords Go.Proofs.YtmheajenlhlbhaaW.PrintLast Go.Proofs.YtmheajenlhlbhaaW.PrintMore
attribute [local go_sem] max2_int min2_int max_two min_two max_three min_three max_four min_four   -- for this text's walks alone
set_option linter.unusedVariables false
set_option linter.unusedSimpArgs false

attribute [local go_sem high] eqA32
/-! ### withylaw16_PackPages: function 3 -/
def withylaw16_PackPages.l0 : Nat → List (S30) → Int → Int → List (S35) → Int → Int → Option (Bool)
  | 0, _, _, _, _, _, _ => none
  | k + 1, x0, x7, x8, x9, x10, x11 => if x11 < (x0.length : Int) then (if 0 ≤ x11 then (if (((rd_T30 x0 x11).f1).size : Int) > (wrap64 (Int.tdiv x7 4)) then ((withyref12_Pages.f (((rd_T30 x0 x11).f1).size : Int) x7).bind fun t238 => (if x11 < (x9.length : Int) then (if ((rd_T35 x9 x11).f0).toList = ((rd_T30 x0 x11).f0).toList then (if (!((rd_T35 x9 x11).f1.f0) || (!((((rd_T35 x9 x11).f1.f1).toList) == ([] : List UInt8)) || (!(((rd_T35 x9 x11).f1.f2) == (((rd_T30 x0 x11).f1).size : Int)) || (!(((rd_T35 x9 x11).f1.f3) == x8))))) = true then (none) else ((cell_Right.f true (⟨#[]⟩ : ByteArray) (((rd_T30 x0 x11).f1).size : Int) x8).bind fun t242 => (if t242 = true then (withylaw16_PackPages.l0 k x0 x7 (wrap64 (x8 + t238)) x9 x10 (wrap64 (x11 + 1))) else (none)))) else (none)) else (none))) else (if x11 < (x9.length : Int) then (if ((rd_T35 x9 x11).f0).toList = ((rd_T30 x0 x11).f0).toList then (if (((rd_T35 x9 x11).f1.f0) || (!((((rd_T35 x9 x11).f1.f1).toList) == (((rd_T30 x0 x11).f1).toList)) || (!(((rd_T35 x9 x11).f1.f2) == 0) || (!(((rd_T35 x9 x11).f1.f3) == 0))))) = true then (none) else ((cell_Right.f false ((rd_T30 x0 x11).f1) 0 0).bind fun t246 => (if t246 = true then (withylaw16_PackPages.l0 k x0 x7 x8 x9 x10 (wrap64 (x11 + 1))) else (none)))) else (none)) else (none))) else (none)) else (if x10 = x8 then ((withylaw16_fixed.f).bind fun t232 => (some t232)) else (none))
def withylaw16_PackPages.f (k : Nat) (l0 : List (S30)) (a1 : Int) (a2 : Int) : Option (Bool) := (withylaw16_Size.f a1).bind fun t224 => ((withylaw16_Rise.f k l0 t224).bind fun t225 => ((pack_Items.f k t225 (wrap64 (1 + (Int.tmod (wrap64 (a2)) 1000))) t224).bind fun bt228 => (if (bt228.1.length : Int) = (t225.length : Int) then (withylaw16_PackPages.l0 k t225 t224 (wrap64 (1 + (Int.tmod (wrap64 (a2)) 1000))) bt228.1 bt228.2 0) else (none))))
theorem withylaw16_PackPages.mono_l : ∀ k, (∀ y0 y1 y2 y3 y4 y5, LeO (withylaw16_PackPages.l0 k y0 y1 y2 y3 y4 y5) (withylaw16_PackPages.l0 (k + 1) y0 y1 y2 y3 y4 y5))
  | 0 => fun _ _ _ _ _ _ r h => by simp [withylaw16_PackPages.l0] at h
  | k + 1 => by
    have ih0 := withylaw16_PackPages.mono_l k
    · intro y0 y1 y2 y3 y4 y5
      unfold withylaw16_PackPages.l0
      repeat' first
      | (with_reducible exact ih0 _ _ _ _ _ _)
      | (with_reducible exact pack_Items.mono _ _ _ _)
      | (with_reducible exact withylaw16_Rise.mono _ _ _)
      | (with_reducible exact LeO.refl _)
      | (with_reducible exact LeO.none _)
      | (with_reducible refine LeO.ite ?_ ?_)
      | (with_reducible refine LeO.bind ?_ (fun _ => ?_))
      | exact ih0 _ _ _ _ _ _
      | exact pack_Items.mono _ _ _ _
      | exact withylaw16_Rise.mono _ _ _
      | exact LeO.none _
      | refine LeO.ite ?_ ?_
      | refine LeO.bind ?_ (fun _ => ?_)
theorem withylaw16_PackPages.mono : ∀ a0 a1 a2 k, LeO (withylaw16_PackPages.f k a0 a1 a2) (withylaw16_PackPages.f (k + 1) a0 a1 a2) := by
  intro a0 a1 a2 k
  have ih0 := withylaw16_PackPages.mono_l k
  unfold withylaw16_PackPages.f
  repeat' first
      | (with_reducible exact ih0 _ _ _ _ _ _)
      | (with_reducible exact pack_Items.mono _ _ _ _)
      | (with_reducible exact withylaw16_Rise.mono _ _ _)
      | (with_reducible exact LeO.refl _)
      | (with_reducible exact LeO.none _)
      | (with_reducible refine LeO.ite ?_ ?_)
      | (with_reducible refine LeO.bind ?_ (fun _ => ?_))
      | exact ih0 _ _ _ _ _ _
      | exact pack_Items.mono _ _ _ _
      | exact withylaw16_Rise.mono _ _ _
      | exact LeO.none _
      | refine LeO.ite ?_ ?_
      | refine LeO.bind ?_ (fun _ => ?_)
def withylaw16_PackPages.T14 : Bool × List (List Nat × List Nat) := (true, [([], []), ([], []), ([0, 1], [0, 1]), ([2], [2]), ([3], [3]), ([], []), ([], []), ([5, 6], [5, 6]), ([7], [7]), ([8], [8]), ([4, 9], [4, 9]), ([10], [10]), ([11], [11]), ([11], [11]), ([12, 13, 11], [11, 12, 13]), ([14, 11], [11, 14]), ([15, 11], [11, 15]), ([11], [11]), ([16, 17, 11], [11, 16, 17]), ([11, 18], [11, 18]), ([19, 11], [19]), ([20], [20]), ([21, 20, 20], [20, 21]), ([22, 20], [20, 22]), ([20, 23], [20, 23])])
def withylaw16_PackPages.B14 : List Nat := [0, 0, 3, 7, 15, 0, 0, 96, 224, 480, 1023, 2047, 4095, 4095, 16383, 32767, 65535, 4095, 262143, 524287, 1048575, 2097151, 4194303, 8388607, 16777215]
theorem withylaw16_PackPages.tab14 : rtab .any (opsOf Try.f3 14) = withylaw16_PackPages.T14 := by kernel_rfl
theorem withylaw16_PackPages.bits14 : waitsOk withylaw16_PackPages.T14.2 withylaw16_PackPages.B14 = true := by kernel_rfl
set_option maxHeartbeats 8000000 in
set_option maxRecDepth 100000 in
theorem withylaw16_PackPages.calls (k : Nat) (A0 : Option Addr) (c0 : Nat) (l0 : List (S30)) (a1 : Int) (a2 : Int) (r : Bool) (w : World) (hr0 : Kd.C k30 w A0 l0.length l0) (hc0 : l0.length ≤ c0) (h : withylaw16_PackPages.f k l0 a1 a2 = some r) :
    Calls Try.prog 3 #[.slice A0 l0.length c0, .int .i64 a1, .int .u16 a2] w fun e w' => e = .returned (.bool r) ∧ Below w.heap.size w w' := by
  have hu32 := Try.underlying32
  have HR0 := Aside0.mk hr0
  have HC0 := Aside0.mk hc0
  clear hr0 hc0
  have HB := Aside0.mk (Below.refl w.heap.size w)
  have H : ((withylaw16_Size.f a1).bind fun t224 => ((withylaw16_Rise.f k l0 t224).bind fun t225 => ((pack_Items.f k t225 (wrap64 (1 + (Int.tmod (wrap64 (a2)) 1000))) t224).bind fun bt228 => (if (bt228.1.length : Int) = (t225.length : Int) then (withylaw16_PackPages.l0 k t225 t224 (wrap64 (1 + (Int.tmod (wrap64 (a2)) 1000))) bt228.1 bt228.2 0) else (none))))) = some r := h
  clear h
  replace H := Option.bind_eq_some_iff.mp H
  obtain ⟨t224, A40, H⟩ := H
  replace H : ((withylaw16_Rise.f k l0 t224).bind fun t225 => ((pack_Items.f k t225 (wrap64 (1 + (Int.tmod (wrap64 (a2)) 1000))) t224).bind fun bt228 => (if (bt228.1.length : Int) = (t225.length : Int) then (withylaw16_PackPages.l0 k t225 t224 (wrap64 (1 + (Int.tmod (wrap64 (a2)) 1000))) bt228.1 bt228.2 0) else (none)))) = some r := H
  have A4 := Aside0.mk A40
  clear A40
  replace H := Option.bind_eq_some_iff.mp H
  obtain ⟨t225, A50, H⟩ := H
  replace H : ((pack_Items.f k t225 (wrap64 (1 + (Int.tmod (wrap64 (a2)) 1000))) t224).bind fun bt228 => (if (bt228.1.length : Int) = (t225.length : Int) then (withylaw16_PackPages.l0 k t225 t224 (wrap64 (1 + (Int.tmod (wrap64 (a2)) 1000))) bt228.1 bt228.2 0) else (none))) = some r := H
  have A5 := Aside0.mk A50
  clear A50
  replace H := Option.bind_eq_some_iff.mp H
  obtain ⟨⟨t228, t229⟩, A60, H⟩ := H
  replace H : (if (t228.length : Int) = (t225.length : Int) then (withylaw16_PackPages.l0 k t225 t224 (wrap64 (1 + (Int.tmod (wrap64 (a2)) 1000))) t228 t229 0) else (none)) = some r := H
  have A6 := Aside0.mk A60
  clear A60
  by_cases c7 : (t228.length : Int) = (t225.length : Int)
  · rw [if_pos c7] at H
    have c7b0 : ((t228.length : Int) == (t225.length : Int)) = true := beq_iff_eq.mpr c7
    have c7b1 : ((t228.length : Int) != (t225.length : Int)) = false := bne_eq_false_iff_eq.mpr c7
    have c7b2 : (t228.length == t225.length) = true := by first | simpa using c7 | (simp at c7 ⊢; omega)
    clear c7
    have H' := Aside0.mk H
    clear H
    go_enter Try.func3, Try.ntmps3
    go_wp2_with (first | ((with_reducible refine gate_callee (f := 7) rfl ?_); refine goesL_ (some 14) rfl rfl Try.func7 (by kernel_rfl) rfl #[.int .i64 a1] rfl (by (try simp only [List.map_toArray, List.map_cons, List.map_nil]); first | done | rfl | (simp only [List.length_drop, List.length_take]; rfl)) ?_; (with_reducible refine (withylaw16_Size.calls a1 t224 _ A4.out).mono ?_); rintro e w' ⟨rfl, ⟨nd, rfl⟩⟩; refine ⟨_, rfl, ?_⟩) | ((with_reducible refine gate_callee (f := 8) rfl ?_); refine goesL_ (some 17) rfl rfl Try.func8 (by kernel_rfl) rfl #[.slice A0 l0.length c0, .int .i64 t224] rfl (by (try simp only [List.map_toArray, List.map_cons, List.map_nil]); first | done | rfl | (simp only [List.length_drop, List.length_take]; rfl)) ?_; (with_reducible refine (withylaw16_Rise.calls k _ _ l0 t224 t225 _ ?side1 ?side2 A5.out).mono ?_); (case side1 => repeat (first | exact HR0.out | (with_reducible refine Kd.C_alloc ?_ _) | (with_reducible refine Kd.C_drewN ?_ _) | (with_reducible refine Kd.C_drew ?_))); (case side2 => exact HC0.out); rintro e w8 ⟨v226, rfl, ho0, hb⟩; refine ⟨_, rfl, ?_⟩; have n0_ := Aside0.mk (Kd.R_lower ho0 (below_size (by repeat (first | (with_reducible first | exact HB.out | apply below_alloc | apply pw_below_drewN | apply below_drew1) | exact HB.out)))); have n1_ := Aside0.mk (below_step (by repeat (first | (with_reducible first | exact HB.out | apply below_alloc | apply pw_below_drewN | apply below_drew1) | exact HB.out)) hb); clear HB; have HO227 := n0_; have HB := n1_; clear n0_ n1_; (try clear hb); (try clear hb2); (try clear hk); (try clear hi); (try clear ho0); obtain ⟨Ao9, co9, eo9⟩ := Kd.R_slice HO227.out; subst eo9) | ((with_reducible refine gate_callee (f := 9) rfl ?_); refine goesL_ (some 26) rfl rfl Try.func9 (by kernel_rfl) rfl #[.slice Ao9 t225.length co9, .int .i64 (wrap64 (1 + (Int.tmod (wrap64 (a2)) 1000))), .int .i64 t224] rfl (by (try simp only [List.map_toArray, List.map_cons, List.map_nil]); first | done | rfl | (simp only [List.length_drop, List.length_take]; rfl)) ?_; (with_reducible refine (pack_Items.calls k _ _ t225 (wrap64 (1 + (Int.tmod (wrap64 (a2)) 1000))) t224 t228 t229 _ ?side1 ?side2 A6.out).mono ?_); (case side1 => repeat (first | exact (Kd.R_reads' HO227.out).2.2 | (with_reducible refine Kd.C_alloc ?_ _) | (with_reducible refine Kd.C_drewN ?_ _) | (with_reducible refine Kd.C_drew ?_))); (case side2 => exact (Kd.R_reads' HO227.out).2.1); rintro e w10 ⟨v230, rfl, ho0, hb⟩; refine ⟨_, rfl, ?_⟩; have n0_ := Aside0.mk (Kd.R_below (by (with_reducible repeat (first | apply Kd.R_alloc | apply Kd.R_drewN | apply Kd.R_drew)); exact HO227.out) hb); have n1_ := Aside0.mk (Kd.R_lower ho0 (below_size (by repeat (first | (with_reducible first | exact HB.out | apply below_alloc | apply pw_below_drewN | apply below_drew1) | exact HB.out)))); have n2_ := Aside0.mk (below_step (by repeat (first | (with_reducible first | exact HB.out | apply below_alloc | apply pw_below_drewN | apply below_drew1) | exact HB.out)) hb); clear HO227; clear HB; have HO227 := n0_; have HO231 := n1_; have HB := n2_; clear n0_ n1_ n2_; (try clear hb); (try clear hb2); (try clear hk); (try clear hi); (try clear ho0); obtain ⟨Ao11, co11, eo11⟩ := Kd.R_slice HO231.out; subst eo11))
    go_loopg [8, 11] k (fun kq v8 v11 w' => ∃ (x8_1 : Int) (x11_1 : Int), v8 = .int .i64 x8_1 ∧ v11 = .int .i64 x11_1 ∧ Aside0 (withylaw16_PackPages.l0 kq t225 t224 x8_1 t228 t229 x11_1 = some r) ∧ Aside0 (kq ≤ k) ∧ Aside0 (Kd.R k30 30 w' w.heap.size (fun _ => True) (.slice Ao9 t225.length co9) t225) ∧ Aside0 (Kd.R k35 35 w' w.heap.size (fun _ => True) (.slice Ao11 t228.length co11) t228) ∧ Aside0 (Below w.heap.size w w'))
    case atStart => exact ⟨(wrap64 (1 + (Int.tmod (wrap64 (a2)) 1000))), (0), (by first | rfl | (simp; done) | (simp [*]; done)), (by first | rfl | (simp; done) | (simp [*]; done)), H', ⟨Nat.le_refl _⟩, ⟨by (with_reducible repeat (first | apply Kd.R_alloc | apply Kd.R_drewN | apply Kd.R_drew)); exact HO227.out⟩, ⟨by (with_reducible repeat (first | apply Kd.R_alloc | apply Kd.R_drewN | apply Kd.R_drew)); exact HO231.out⟩, ⟨by repeat (first | (with_reducible first | exact HB.out | apply below_alloc | apply pw_below_drewN | apply below_drew1) | exact HB.out)⟩⟩
    case round =>
      clear H'
      try clear p2
      try clear c3
      try clear p6
      try clear c7
      try clear c7b0
      try clear c7b1
      try clear c7b2
      try clear c8
      try clear c9
      obtain ⟨x8_1, x11_1, rfl, rfl, HA, HK1, HO_0, HO_9, HB⟩ := hrel
      cases gk with
      | zero => exact absurd HA.out (by simp [withylaw16_PackPages.l0])
      | succ k1 =>
        have H := HA.out
        clear HA
        simp only [withylaw16_PackPages.l0] at H
        by_cases c12 : x11_1 < (t225.length : Int)
        · rw [if_pos c12] at H
          have c12b0 : decide (x11_1 < (t225.length : Int)) = true := decide_eq_true c12
          clear c12
          by_cases c13 : 0 ≤ x11_1
          · rw [if_pos c13] at H
            have c13b0 : decide (0 ≤ x11_1) = true := decide_eq_true c13
            clear c13
            by_cases c14 : (((rd_T30 t225 x11_1).f1).size : Int) > (wrap64 (Int.tdiv t224 4))
            · rw [if_pos c14] at H
              have c14b0 : decide ((wrap64 (Int.tdiv t224 4)) < (((rd_T30 t225 x11_1).f1).size : Int)) = true := decide_eq_true c14
              clear c14
              replace H := Option.bind_eq_some_iff.mp H
              obtain ⟨t238, A150, H⟩ := H
              replace H : (if x11_1 < (t228.length : Int) then (if ((rd_T35 t228 x11_1).f0).toList = ((rd_T30 t225 x11_1).f0).toList then (if (!((rd_T35 t228 x11_1).f1.f0) || (!((((rd_T35 t228 x11_1).f1.f1).toList) == ([] : List UInt8)) || (!(((rd_T35 t228 x11_1).f1.f2) == (((rd_T30 t225 x11_1).f1).size : Int)) || (!(((rd_T35 t228 x11_1).f1.f3) == x8_1))))) = true then (none) else ((cell_Right.f true (⟨#[]⟩ : ByteArray) (((rd_T30 t225 x11_1).f1).size : Int) x8_1).bind fun t242 => (if t242 = true then (withylaw16_PackPages.l0 k1 t225 t224 (wrap64 (x8_1 + t238)) t228 t229 (wrap64 (x11_1 + 1))) else (none)))) else (none)) else (none)) = some r := H
              have A15 := Aside0.mk A150
              clear A150
              by_cases c16 : x11_1 < (t228.length : Int)
              · rw [if_pos c16] at H
                have c16b0 : decide (x11_1 < (t228.length : Int)) = true := decide_eq_true c16
                clear c16
                by_cases c17 : ((rd_T35 t228 x11_1).f0).toList = ((rd_T30 t225 x11_1).f0).toList
                · rw [if_pos c17] at H
                  have c17b0 : (((rd_T35 t228 x11_1).f0).toList == ((rd_T30 t225 x11_1).f0).toList) = true := beq_iff_eq.mpr c17
                  have c17b1 : (((rd_T35 t228 x11_1).f0).toList != ((rd_T30 t225 x11_1).f0).toList) = false := bne_eq_false_iff_eq.mpr c17
                  clear c17
                  by_cases c18 : (!((rd_T35 t228 x11_1).f1.f0) || (!((((rd_T35 t228 x11_1).f1.f1).toList) == ([] : List UInt8)) || (!(((rd_T35 t228 x11_1).f1.f2) == (((rd_T30 t225 x11_1).f1).size : Int)) || (!(((rd_T35 t228 x11_1).f1.f3) == x8_1))))) = true
                  · rw [if_pos c18] at H
                    have c18b0 : (!((rd_T35 t228 x11_1).f1.f0) || (!((((rd_T35 t228 x11_1).f1.f1).toList) == ([] : List UInt8)) || (!(((rd_T35 t228 x11_1).f1.f2) == (((rd_T30 t225 x11_1).f1).size : Int)) || (!(((rd_T35 t228 x11_1).f1.f3) == x8_1))))) = true := c18
                    try (have c18b0e := c18b0; simp only [show ∀ l : List UInt8, (l == []) = l.isEmpty from fun l => by cases l <;> rfl] at c18b0e)
                    clear c18
                    exact absurd H (by simp)
                  · rw [if_neg c18] at H
                    have c18b0 : (!((rd_T35 t228 x11_1).f1.f0) || (!((((rd_T35 t228 x11_1).f1.f1).toList) == ([] : List UInt8)) || (!(((rd_T35 t228 x11_1).f1.f2) == (((rd_T30 t225 x11_1).f1).size : Int)) || (!(((rd_T35 t228 x11_1).f1.f3) == x8_1))))) = false := by simpa using c18
                    try (have c18b0e := c18b0; simp only [show ∀ l : List UInt8, (l == []) = l.isEmpty from fun l => by cases l <;> rfl] at c18b0e)
                    clear c18
                    replace H := Option.bind_eq_some_iff.mp H
                    obtain ⟨t242, A190, H⟩ := H
                    replace H : (if t242 = true then (withylaw16_PackPages.l0 k1 t225 t224 (wrap64 (x8_1 + t238)) t228 t229 (wrap64 (x11_1 + 1))) else (none)) = some r := H
                    have A19 := Aside0.mk A190
                    clear A190
                    by_cases c20 : t242 = true
                    · subst c20
                      have H1 : (withylaw16_PackPages.l0 k1 t225 t224 (wrap64 (x8_1 + t238)) t228 t229 (wrap64 (x11_1 + 1))) = some r := by rw [if_pos rfl] at H; exact H
                      clear H
                      have H := H1
                      clear H1
                      have H' := Aside0.mk H
                      clear H
                      have p233 : 0 ≤ (x11_1 : Int) := of_decide_eq_true (by first | (with_reducible assumption) | assumption)
                      have q233 : x11_1 < (t225.length : Int) := of_decide_eq_true (by first | (with_reducible assumption) | assumption)
                      obtain ⟨ad233, e233, hx233_0, hx233_1⟩ := at_T30 (Kd.R_reads' HO_0.out).2.2 x11_1 p233 q233
                      cases e233
                      replace p233 := eq_true p233
                      replace q233 := eq_true q233
                      try go_wp2_with (first | ((with_reducible refine gate_dst (N := 12) rfl ?_); refine box_event ?hg (N := 12) ?hd (cs := #[.bool false, .string (⟨#[]⟩ : ByteArray), .int .i64 0, .int .i64 0]) (t := 32) ?hr ?_; (case hd => rfl); (case hg => rfl); (case hr => first | (go_simp; done) | (go_simp; rfl)); intro gb234 hg w21 hbox hb; have n0_ := Aside0.mk (Kd.R_below (by (with_reducible repeat (first | apply Kd.R_alloc | apply Kd.R_drewN | apply Kd.R_drew)); exact HO_0.out) hb); have n1_ := Aside0.mk (Kd.R_below (by (with_reducible repeat (first | apply Kd.R_alloc | apply Kd.R_drewN | apply Kd.R_drew)); exact HO_9.out) hb); have n2_ := Aside0.mk (below_step (by repeat (first | (with_reducible first | exact HB.out | apply below_alloc | apply pw_below_drewN | apply below_drew1) | exact HB.out)) hb); have n3_ := Aside0.mk (hbox); have n4_ := Aside0.mk ((by rw [hg]; exact (below_size (by repeat (first | (with_reducible first | exact HB.out | apply below_alloc | apply pw_below_drewN | apply below_drew1) | exact HB.out))) : w.heap.size ≤ gb234)); have n5_ := Aside0.mk ((by rw [hg]; exact (below_size (by repeat (first | (with_reducible first | exact HB.out | apply below_alloc | apply pw_below_drewN | apply below_drew1) | exact HB.out))) : w.heap.size ≤ gb234)); clear HO_0; clear HO_9; clear HB; have HO_0 := n0_; have HO_9 := n1_; have HB := n2_; have BK234 := n3_; have GW234 := n4_; have GE234 := n5_; clear n0_ n1_ n2_ n3_ n4_ n5_; clear hb hbox hg; have hcz22_0 : w21.cell? ⟨gb234, 0, none⟩ = some (.bool false) := (blk_cell BK234.out 0).trans rfl; have hcz22_1 : w21.cell? ⟨gb234, 1, none⟩ = some (.string (⟨#[]⟩ : ByteArray)) := (blk_cell BK234.out 1).trans rfl; have hcz22_2 : w21.cell? ⟨gb234, 2, none⟩ = some (.int .i64 0) := (blk_cell BK234.out 2).trans rfl; have hcz22_3 : w21.cell? ⟨gb234, 3, none⟩ = some (.int .i64 0) := (blk_cell BK234.out 3).trans rfl; have hfz22_0 := blk_frozen BK234.out 0; have hfz22_1 := blk_frozen BK234.out 1; have hfz22_2 := blk_frozen BK234.out 2; have hfz22_3 := blk_frozen BK234.out 3; have p235 : 0 ≤ (x11_1 : Int) := of_decide_eq_true (by first | (with_reducible assumption) | assumption); have q235 : x11_1 < (t225.length : Int) := of_decide_eq_true (by first | (with_reducible assumption) | assumption); obtain ⟨ad235, e235, hx235_0, hx235_1⟩ := at_T30 (Kd.R_reads' HO_0.out).2.2 x11_1 p235 q235; obtain rfl : ad233 = ad235 := (by injection e235); have hn235_0 : ad233.block ≠ gb234 := Kd.own_blk (Kd.R_ne HO_0.out BK234.out (by decide)); have hn235_1 : ad233.block ≠ gb234 := Kd.own_blk (Kd.R_ne HO_0.out BK234.out (by decide)); have hn235_2 : ad233.block ≠ gb234 := Kd.own_blk (Kd.R_ne HO_0.out BK234.out (by decide)); have hn235_3 : ad233.block ≠ gb234 := Kd.own_blk (Kd.R_ne HO_0.out BK234.out (by decide)); replace hx235_0 := (cell_far (p := ⟨gb234, 0, none⟩) (by first | (rw [add_block]; exact hn235_0) | (show (Addr.add _ _).block ≠ _; rw [add_block]; exact hn235_0) | exact hn235_0) (.bool false)).trans hx235_0; replace hx235_1 := (cell_far (p := ⟨gb234, 0, none⟩) (by first | (rw [add_block]; exact hn235_0) | (show (Addr.add _ _).block ≠ _; rw [add_block]; exact hn235_0) | exact hn235_0) (.bool false)).trans hx235_1; replace hx235_0 := (cell_far (p := ⟨gb234, 1, none⟩) (by first | (rw [add_block]; exact hn235_1) | (show (Addr.add _ _).block ≠ _; rw [add_block]; exact hn235_1) | exact hn235_1) (.string ((rd_T30 t225 x11_1).f1))).trans hx235_0; replace hx235_1 := (cell_far (p := ⟨gb234, 1, none⟩) (by first | (rw [add_block]; exact hn235_1) | (show (Addr.add _ _).block ≠ _; rw [add_block]; exact hn235_1) | exact hn235_1) (.string ((rd_T30 t225 x11_1).f1))).trans hx235_1; replace hx235_0 := (cell_far (p := ⟨gb234, 2, none⟩) (by first | (rw [add_block]; exact hn235_2) | (show (Addr.add _ _).block ≠ _; rw [add_block]; exact hn235_2) | exact hn235_2) (.int .i64 0)).trans hx235_0; replace hx235_1 := (cell_far (p := ⟨gb234, 2, none⟩) (by first | (rw [add_block]; exact hn235_2) | (show (Addr.add _ _).block ≠ _; rw [add_block]; exact hn235_2) | exact hn235_2) (.int .i64 0)).trans hx235_1; replace hx235_0 := (cell_far (p := ⟨gb234, 3, none⟩) (by first | (rw [add_block]; exact hn235_3) | (show (Addr.add _ _).block ≠ _; rw [add_block]; exact hn235_3) | exact hn235_3) (.int .i64 0)).trans hx235_0; replace hx235_1 := (cell_far (p := ⟨gb234, 3, none⟩) (by first | (rw [add_block]; exact hn235_3) | (show (Addr.add _ _).block ≠ _; rw [add_block]; exact hn235_3) | exact hn235_3) (.int .i64 0)).trans hx235_1; clear hn235_0; clear hn235_1; clear hn235_2; clear hn235_3; replace p235 := eq_true p235; replace q235 := eq_true q235; have p236 : 0 ≤ (x11_1 : Int) := of_decide_eq_true (by first | (with_reducible assumption) | assumption); have q236 : x11_1 < (t225.length : Int) := of_decide_eq_true (by first | (with_reducible assumption) | assumption); obtain ⟨ad236, e236, hx236_0, hx236_1⟩ := at_T30 (Kd.R_reads' HO_0.out).2.2 x11_1 p236 q236; obtain rfl : ad233 = ad236 := (by injection e236); have hn236_0 : ad233.block ≠ gb234 := Kd.own_blk (Kd.R_ne HO_0.out BK234.out (by decide)); have hn236_1 : ad233.block ≠ gb234 := Kd.own_blk (Kd.R_ne HO_0.out BK234.out (by decide)); have hn236_2 : ad233.block ≠ gb234 := Kd.own_blk (Kd.R_ne HO_0.out BK234.out (by decide)); have hn236_3 : ad233.block ≠ gb234 := Kd.own_blk (Kd.R_ne HO_0.out BK234.out (by decide)); replace hx236_0 := (cell_far (p := ⟨gb234, 0, none⟩) (by first | (rw [add_block]; exact hn236_0) | (show (Addr.add _ _).block ≠ _; rw [add_block]; exact hn236_0) | exact hn236_0) (.bool false)).trans hx236_0; replace hx236_1 := (cell_far (p := ⟨gb234, 0, none⟩) (by first | (rw [add_block]; exact hn236_0) | (show (Addr.add _ _).block ≠ _; rw [add_block]; exact hn236_0) | exact hn236_0) (.bool false)).trans hx236_1; replace hx236_0 := (cell_far (p := ⟨gb234, 1, none⟩) (by first | (rw [add_block]; exact hn236_1) | (show (Addr.add _ _).block ≠ _; rw [add_block]; exact hn236_1) | exact hn236_1) (.string ((rd_T30 t225 x11_1).f1))).trans hx236_0; replace hx236_1 := (cell_far (p := ⟨gb234, 1, none⟩) (by first | (rw [add_block]; exact hn236_1) | (show (Addr.add _ _).block ≠ _; rw [add_block]; exact hn236_1) | exact hn236_1) (.string ((rd_T30 t225 x11_1).f1))).trans hx236_1; replace hx236_0 := (cell_far (p := ⟨gb234, 2, none⟩) (by first | (rw [add_block]; exact hn236_2) | (show (Addr.add _ _).block ≠ _; rw [add_block]; exact hn236_2) | exact hn236_2) (.int .i64 0)).trans hx236_0; replace hx236_1 := (cell_far (p := ⟨gb234, 2, none⟩) (by first | (rw [add_block]; exact hn236_2) | (show (Addr.add _ _).block ≠ _; rw [add_block]; exact hn236_2) | exact hn236_2) (.int .i64 0)).trans hx236_1; replace hx236_0 := (cell_far (p := ⟨gb234, 3, none⟩) (by first | (rw [add_block]; exact hn236_3) | (show (Addr.add _ _).block ≠ _; rw [add_block]; exact hn236_3) | exact hn236_3) (.int .i64 0)).trans hx236_0; replace hx236_1 := (cell_far (p := ⟨gb234, 3, none⟩) (by first | (rw [add_block]; exact hn236_3) | (show (Addr.add _ _).block ≠ _; rw [add_block]; exact hn236_3) | exact hn236_3) (.int .i64 0)).trans hx236_1; clear hn236_0; clear hn236_1; clear hn236_2; clear hn236_3; replace p236 := eq_true p236; replace q236 := eq_true q236; have p237 : 0 ≤ (x11_1 : Int) := of_decide_eq_true (by first | (with_reducible assumption) | assumption); have q237 : x11_1 < (t225.length : Int) := of_decide_eq_true (by first | (with_reducible assumption) | assumption); obtain ⟨ad237, e237, hx237_0, hx237_1⟩ := at_T30 (Kd.R_reads' HO_0.out).2.2 x11_1 p237 q237; obtain rfl : ad233 = ad237 := (by injection e237); have hn237_0 : ad233.block ≠ gb234 := Kd.own_blk (Kd.R_ne HO_0.out BK234.out (by decide)); have hn237_1 : ad233.block ≠ gb234 := Kd.own_blk (Kd.R_ne HO_0.out BK234.out (by decide)); have hn237_2 : ad233.block ≠ gb234 := Kd.own_blk (Kd.R_ne HO_0.out BK234.out (by decide)); have hn237_3 : ad233.block ≠ gb234 := Kd.own_blk (Kd.R_ne HO_0.out BK234.out (by decide)); have hn237_4 : ad233.block ≠ gb234 := Kd.own_blk (Kd.R_ne HO_0.out BK234.out (by decide)); have hn237_5 : ad233.block ≠ gb234 := Kd.own_blk (Kd.R_ne HO_0.out BK234.out (by decide)); have hn237_6 : ad233.block ≠ gb234 := Kd.own_blk (Kd.R_ne HO_0.out BK234.out (by decide)); have hn237_7 : ad233.block ≠ gb234 := Kd.own_blk (Kd.R_ne HO_0.out BK234.out (by decide)); replace hx237_0 := (cell_far (p := ⟨gb234, 0, none⟩) (by first | (rw [add_block]; exact hn237_0) | (show (Addr.add _ _).block ≠ _; rw [add_block]; exact hn237_0) | exact hn237_0) (.bool false)).trans hx237_0; replace hx237_1 := (cell_far (p := ⟨gb234, 0, none⟩) (by first | (rw [add_block]; exact hn237_0) | (show (Addr.add _ _).block ≠ _; rw [add_block]; exact hn237_0) | exact hn237_0) (.bool false)).trans hx237_1; replace hx237_0 := (cell_far (p := ⟨gb234, 1, none⟩) (by first | (rw [add_block]; exact hn237_1) | (show (Addr.add _ _).block ≠ _; rw [add_block]; exact hn237_1) | exact hn237_1) (.string ((rd_T30 t225 x11_1).f1))).trans hx237_0; replace hx237_1 := (cell_far (p := ⟨gb234, 1, none⟩) (by first | (rw [add_block]; exact hn237_1) | (show (Addr.add _ _).block ≠ _; rw [add_block]; exact hn237_1) | exact hn237_1) (.string ((rd_T30 t225 x11_1).f1))).trans hx237_1; replace hx237_0 := (cell_far (p := ⟨gb234, 2, none⟩) (by first | (rw [add_block]; exact hn237_2) | (show (Addr.add _ _).block ≠ _; rw [add_block]; exact hn237_2) | exact hn237_2) (.int .i64 0)).trans hx237_0; replace hx237_1 := (cell_far (p := ⟨gb234, 2, none⟩) (by first | (rw [add_block]; exact hn237_2) | (show (Addr.add _ _).block ≠ _; rw [add_block]; exact hn237_2) | exact hn237_2) (.int .i64 0)).trans hx237_1; replace hx237_0 := (cell_far (p := ⟨gb234, 3, none⟩) (by first | (rw [add_block]; exact hn237_3) | (show (Addr.add _ _).block ≠ _; rw [add_block]; exact hn237_3) | exact hn237_3) (.int .i64 0)).trans hx237_0; replace hx237_1 := (cell_far (p := ⟨gb234, 3, none⟩) (by first | (rw [add_block]; exact hn237_3) | (show (Addr.add _ _).block ≠ _; rw [add_block]; exact hn237_3) | exact hn237_3) (.int .i64 0)).trans hx237_1; replace hx237_0 := (cell_far (p := ⟨gb234, 0, none⟩) (by first | (rw [add_block]; exact hn237_4) | (show (Addr.add _ _).block ≠ _; rw [add_block]; exact hn237_4) | exact hn237_4) (.bool true)).trans hx237_0; replace hx237_1 := (cell_far (p := ⟨gb234, 0, none⟩) (by first | (rw [add_block]; exact hn237_4) | (show (Addr.add _ _).block ≠ _; rw [add_block]; exact hn237_4) | exact hn237_4) (.bool true)).trans hx237_1; replace hx237_0 := (cell_far (p := ⟨gb234, 1, none⟩) (by first | (rw [add_block]; exact hn237_5) | (show (Addr.add _ _).block ≠ _; rw [add_block]; exact hn237_5) | exact hn237_5) (.string (⟨#[]⟩ : ByteArray))).trans hx237_0; replace hx237_1 := (cell_far (p := ⟨gb234, 1, none⟩) (by first | (rw [add_block]; exact hn237_5) | (show (Addr.add _ _).block ≠ _; rw [add_block]; exact hn237_5) | exact hn237_5) (.string (⟨#[]⟩ : ByteArray))).trans hx237_1; replace hx237_0 := (cell_far (p := ⟨gb234, 2, none⟩) (by first | (rw [add_block]; exact hn237_6) | (show (Addr.add _ _).block ≠ _; rw [add_block]; exact hn237_6) | exact hn237_6) (.int .i64 (((rd_T30 t225 x11_1).f1).size : Int))).trans hx237_0; replace hx237_1 := (cell_far (p := ⟨gb234, 2, none⟩) (by first | (rw [add_block]; exact hn237_6) | (show (Addr.add _ _).block ≠ _; rw [add_block]; exact hn237_6) | exact hn237_6) (.int .i64 (((rd_T30 t225 x11_1).f1).size : Int))).trans hx237_1; replace hx237_0 := (cell_far (p := ⟨gb234, 3, none⟩) (by first | (rw [add_block]; exact hn237_7) | (show (Addr.add _ _).block ≠ _; rw [add_block]; exact hn237_7) | exact hn237_7) (.int .i64 x8_1)).trans hx237_0; replace hx237_1 := (cell_far (p := ⟨gb234, 3, none⟩) (by first | (rw [add_block]; exact hn237_7) | (show (Addr.add _ _).block ≠ _; rw [add_block]; exact hn237_7) | exact hn237_7) (.int .i64 x8_1)).trans hx237_1; clear hn237_0; clear hn237_1; clear hn237_2; clear hn237_3; clear hn237_4; clear hn237_5; clear hn237_6; clear hn237_7; replace p237 := eq_true p237; replace q237 := eq_true q237) | ((with_reducible refine gate_callee (f := 10) rfl ?_); refine goesL_ (some 71) rfl rfl Try.func10 (by kernel_rfl) rfl #[.int .i64 (((rd_T30 t225 x11_1).f1).size : Int), .int .i64 t224] rfl (by (try simp only [List.map_toArray, List.map_cons, List.map_nil]); first | done | rfl | (simp only [List.length_drop, List.length_take]; rfl)) ?_; (with_reducible refine (withyref12_Pages.calls (((rd_T30 t225 x11_1).f1).size : Int) t224 t238 _ A15.out).mono ?_); rintro e w' ⟨rfl, ⟨nd, rfl⟩⟩; refine ⟨_, rfl, ?_⟩))
                      have n0_ : Aside0 (Kd.R k30 30 ((((((((w21.setCell ⟨gb234, 0, none⟩ (.bool false)).setCell ⟨gb234, 1, none⟩ (.string ((rd_T30 t225 x11_1).f1))).setCell ⟨gb234, 2, none⟩ (.int .i64 0)).setCell ⟨gb234, 3, none⟩ (.int .i64 0)).setCell ⟨gb234, 0, none⟩ (.bool true)).setCell ⟨gb234, 1, none⟩ (.string (⟨#[]⟩ : ByteArray))).setCell ⟨gb234, 2, none⟩ (.int .i64 (((rd_T30 t225 x11_1).f1).size : Int))).setCell ⟨gb234, 3, none⟩ (.int .i64 x8_1)) w.heap.size (fun _ => True) (.slice (some ad233) t225.length co9) t225) := ⟨by (with_reducible repeat (first | apply Kd.R_alloc | apply Kd.R_drewN | apply Kd.R_drew)); exact Kd.R_mono (Kd.R_far (p := ⟨gb234, 3, none⟩) (Kd.R_far (p := ⟨gb234, 2, none⟩) (Kd.R_far (p := ⟨gb234, 1, none⟩) (Kd.R_far (p := ⟨gb234, 0, none⟩) (Kd.R_far (p := ⟨gb234, 3, none⟩) (Kd.R_far (p := ⟨gb234, 2, none⟩) (Kd.R_far (p := ⟨gb234, 1, none⟩) (Kd.R_far (p := ⟨gb234, 0, none⟩) (Kd.R_types HO_0.out BK234.out (by decide)) (fun _ hk => hk.2) (.bool false)) (fun _ hk => hk.2) (.string ((rd_T30 t225 x11_1).f1))) (fun _ hk => hk.2) (.int .i64 0)) (fun _ hk => hk.2) (.int .i64 0)) (fun _ hk => hk.2) (.bool true)) (fun _ hk => hk.2) (.string (⟨#[]⟩ : ByteArray))) (fun _ hk => hk.2) (.int .i64 (((rd_T30 t225 x11_1).f1).size : Int))) (fun _ hk => hk.2) (.int .i64 x8_1)) (fun _ hk => trivial)⟩
                      have n1_ : Aside0 (Kd.R k35 35 ((((((((w21.setCell ⟨gb234, 0, none⟩ (.bool false)).setCell ⟨gb234, 1, none⟩ (.string ((rd_T30 t225 x11_1).f1))).setCell ⟨gb234, 2, none⟩ (.int .i64 0)).setCell ⟨gb234, 3, none⟩ (.int .i64 0)).setCell ⟨gb234, 0, none⟩ (.bool true)).setCell ⟨gb234, 1, none⟩ (.string (⟨#[]⟩ : ByteArray))).setCell ⟨gb234, 2, none⟩ (.int .i64 (((rd_T30 t225 x11_1).f1).size : Int))).setCell ⟨gb234, 3, none⟩ (.int .i64 x8_1)) w.heap.size (fun _ => True) (.slice Ao11 t228.length co11) t228) := ⟨by (with_reducible repeat (first | apply Kd.R_alloc | apply Kd.R_drewN | apply Kd.R_drew)); exact Kd.R_mono (Kd.R_far (p := ⟨gb234, 3, none⟩) (Kd.R_far (p := ⟨gb234, 2, none⟩) (Kd.R_far (p := ⟨gb234, 1, none⟩) (Kd.R_far (p := ⟨gb234, 0, none⟩) (Kd.R_far (p := ⟨gb234, 3, none⟩) (Kd.R_far (p := ⟨gb234, 2, none⟩) (Kd.R_far (p := ⟨gb234, 1, none⟩) (Kd.R_far (p := ⟨gb234, 0, none⟩) (Kd.R_types HO_9.out BK234.out (by decide)) (fun _ hk => hk.2) (.bool false)) (fun _ hk => hk.2) (.string ((rd_T30 t225 x11_1).f1))) (fun _ hk => hk.2) (.int .i64 0)) (fun _ hk => hk.2) (.int .i64 0)) (fun _ hk => hk.2) (.bool true)) (fun _ hk => hk.2) (.string (⟨#[]⟩ : ByteArray))) (fun _ hk => hk.2) (.int .i64 (((rd_T30 t225 x11_1).f1).size : Int))) (fun _ hk => hk.2) (.int .i64 x8_1)) (fun _ hk => trivial)⟩
                      have n2_ : Aside0 (((((((((w21.setCell ⟨gb234, 0, none⟩ (.bool false)).setCell ⟨gb234, 1, none⟩ (.string ((rd_T30 t225 x11_1).f1))).setCell ⟨gb234, 2, none⟩ (.int .i64 0)).setCell ⟨gb234, 3, none⟩ (.int .i64 0)).setCell ⟨gb234, 0, none⟩ (.bool true)).setCell ⟨gb234, 1, none⟩ (.string (⟨#[]⟩ : ByteArray))).setCell ⟨gb234, 2, none⟩ (.int .i64 (((rd_T30 t225 x11_1).f1).size : Int))).setCell ⟨gb234, 3, none⟩ (.int .i64 x8_1)).heap[gb234]? = some (.cells #[.bool true, .string (⟨#[]⟩ : ByteArray), .int .i64 (((rd_T30 t225 x11_1).f1).size : Int), .int .i64 x8_1] 32 (0, 0))) := ⟨by (with_reducible repeat (first | refine blk_drewN ?_ _ | refine blk_drew ?_ | refine blk_alloc ?_ _)); refine blk_put (cs := #[.bool true, .string (⟨#[]⟩ : ByteArray), .int .i64 (((rd_T30 t225 x11_1).f1).size : Int), .int .i64 0]) ?_ 3 _ rfl; (with_reducible repeat (first | refine blk_drewN ?_ _ | refine blk_drew ?_ | refine blk_alloc ?_ _)); refine blk_put (cs := #[.bool true, .string (⟨#[]⟩ : ByteArray), .int .i64 0, .int .i64 0]) ?_ 2 _ rfl; (with_reducible repeat (first | refine blk_drewN ?_ _ | refine blk_drew ?_ | refine blk_alloc ?_ _)); refine blk_put (cs := #[.bool true, .string ((rd_T30 t225 x11_1).f1), .int .i64 0, .int .i64 0]) ?_ 1 _ rfl; (with_reducible repeat (first | refine blk_drewN ?_ _ | refine blk_drew ?_ | refine blk_alloc ?_ _)); refine blk_put (cs := #[.bool false, .string ((rd_T30 t225 x11_1).f1), .int .i64 0, .int .i64 0]) ?_ 0 _ rfl; (with_reducible repeat (first | refine blk_drewN ?_ _ | refine blk_drew ?_ | refine blk_alloc ?_ _)); refine blk_put (cs := #[.bool false, .string ((rd_T30 t225 x11_1).f1), .int .i64 0, .int .i64 0]) ?_ 3 _ rfl; (with_reducible repeat (first | refine blk_drewN ?_ _ | refine blk_drew ?_ | refine blk_alloc ?_ _)); refine blk_put (cs := #[.bool false, .string ((rd_T30 t225 x11_1).f1), .int .i64 0, .int .i64 0]) ?_ 2 _ rfl; (with_reducible repeat (first | refine blk_drewN ?_ _ | refine blk_drew ?_ | refine blk_alloc ?_ _)); refine blk_put (cs := #[.bool false, .string (⟨#[]⟩ : ByteArray), .int .i64 0, .int .i64 0]) ?_ 1 _ rfl; (with_reducible repeat (first | refine blk_drewN ?_ _ | refine blk_drew ?_ | refine blk_alloc ?_ _)); refine blk_put (cs := #[.bool false, .string (⟨#[]⟩ : ByteArray), .int .i64 0, .int .i64 0]) ?_ 0 _ rfl; (with_reducible repeat (first | refine blk_drewN ?_ _ | refine blk_drew ?_ | refine blk_alloc ?_ _)); exact BK234.out⟩
                      have n3_ : Aside0 (Below w.heap.size w ((((((((w21.setCell ⟨gb234, 0, none⟩ (.bool false)).setCell ⟨gb234, 1, none⟩ (.string ((rd_T30 t225 x11_1).f1))).setCell ⟨gb234, 2, none⟩ (.int .i64 0)).setCell ⟨gb234, 3, none⟩ (.int .i64 0)).setCell ⟨gb234, 0, none⟩ (.bool true)).setCell ⟨gb234, 1, none⟩ (.string (⟨#[]⟩ : ByteArray))).setCell ⟨gb234, 2, none⟩ (.int .i64 (((rd_T30 t225 x11_1).f1).size : Int))).setCell ⟨gb234, 3, none⟩ (.int .i64 x8_1))) := ⟨by repeat (first | (with_reducible first | exact HB.out | apply below_alloc | apply pw_below_drewN | apply below_drew1 | refine below_set ?_ GE234.out) | exact HB.out)⟩
                      (try clear HO_0)
                      (try clear HO_9)
                      (try clear BK234)
                      (try clear HB)
                      generalize ((((((((w21.setCell ⟨gb234, 0, none⟩ (.bool false)).setCell ⟨gb234, 1, none⟩ (.string ((rd_T30 t225 x11_1).f1))).setCell ⟨gb234, 2, none⟩ (.int .i64 0)).setCell ⟨gb234, 3, none⟩ (.int .i64 0)).setCell ⟨gb234, 0, none⟩ (.bool true)).setCell ⟨gb234, 1, none⟩ (.string (⟨#[]⟩ : ByteArray))).setCell ⟨gb234, 2, none⟩ (.int .i64 (((rd_T30 t225 x11_1).f1).size : Int))).setCell ⟨gb234, 3, none⟩ (.int .i64 x8_1)) = w23 at n0_ n1_ n2_ n3_ ⊢
                      have HO_0 := n0_
                      have HO_9 := n1_
                      have BK234 := n2_
                      have HB := n3_
                      clear n0_ n1_ n2_ n3_
                      (try (rw [drewN_self w23]; generalize hq_ : World.drewN w23 _ = w23; have n0_ : Aside0 (Kd.R k30 30 w23 w.heap.size (fun _ => True) (.slice (some ad233) t225.length co9) t225) := ⟨by rw [← hq_]; exact (by (with_reducible repeat (first | apply Kd.R_alloc | apply Kd.R_drewN | apply Kd.R_drew)); exact HO_0.out)⟩; have n1_ : Aside0 (Kd.R k35 35 w23 w.heap.size (fun _ => True) (.slice Ao11 t228.length co11) t228) := ⟨by rw [← hq_]; exact (by (with_reducible repeat (first | apply Kd.R_alloc | apply Kd.R_drewN | apply Kd.R_drew)); exact HO_9.out)⟩; have n2_ : Aside0 (w23.heap[gb234]? = some (.cells #[.bool true, .string (⟨#[]⟩ : ByteArray), .int .i64 (((rd_T30 t225 x11_1).f1).size : Int), .int .i64 x8_1] 32 (0, 0))) := ⟨by rw [← hq_]; exact (by (with_reducible repeat (first | refine blk_drewN ?_ _ | refine blk_drew ?_ | refine blk_alloc ?_ _)); exact BK234.out)⟩; have n3_ : Aside0 (Below w.heap.size w w23) := ⟨by rw [← hq_]; exact (by repeat (first | (with_reducible first | exact HB.out | apply below_alloc | apply pw_below_drewN | apply below_drew1 | refine below_set ?_ GE234.out) | exact HB.out))⟩; clear HO_0 HO_9 BK234 HB hq_; have HO_0 := n0_; have HO_9 := n1_; have BK234 := n2_; have HB := n3_; clear n0_ n1_ n2_ n3_))
                      have n0_ := Aside0.mk (Kd.R_drew HO_0.out)
                      have n1_ := Aside0.mk (Kd.R_drew HO_9.out)
                      have n2_ := Aside0.mk (blk_drew BK234.out)
                      have n3_ := Aside0.mk (below_drew1 HB.out)
                      clear HO_0
                      clear HO_9
                      clear BK234
                      clear HB
                      have HO_0 := n0_
                      have HO_9 := n1_
                      have BK234 := n2_
                      have HB := n3_
                      clear n0_ n1_ n2_ n3_
                      have p239 : 0 ≤ (x11_1 : Int) := of_decide_eq_true (by first | (with_reducible assumption) | assumption)
                      have q239 : x11_1 < (t228.length : Int) := of_decide_eq_true (by first | (with_reducible assumption) | assumption)
                      obtain ⟨ad239, e239, hx239_0, hx239_1, hx239_2, hx239_3, hx239_4⟩ := at_T35 (Kd.R_reads' HO_9.out).2.2 x11_1 p239 q239
                      cases e239
                      replace p239 := eq_true p239
                      replace q239 := eq_true q239
                      have p240 : 0 ≤ (x11_1 : Int) := of_decide_eq_true (by first | (with_reducible assumption) | assumption)
                      have q240 : x11_1 < (t225.length : Int) := of_decide_eq_true (by first | (with_reducible assumption) | assumption)
                      obtain ⟨ad240, e240, hx240_0, hx240_1⟩ := at_T30 (Kd.R_reads' HO_0.out).2.2 x11_1 p240 q240
                      obtain rfl : ad233 = ad240 := (by injection e240)
                      replace p240 := eq_true p240
                      replace q240 := eq_true q240
                      have p241 : 0 ≤ (x11_1 : Int) := of_decide_eq_true (by first | (with_reducible assumption) | assumption)
                      have q241 : x11_1 < (t228.length : Int) := of_decide_eq_true (by first | (with_reducible assumption) | assumption)
                      obtain ⟨ad241, e241, hx241_0, hx241_1, hx241_2, hx241_3, hx241_4⟩ := at_T35 (Kd.R_reads' HO_9.out).2.2 x11_1 p241 q241
                      obtain rfl : ad239 = ad241 := (by injection e241)
                      replace p241 := eq_true p241
                      replace q241 := eq_true q241
                      refine start_ (n := 25) (S := fun w' => w'.cell? ⟨gb234, 0, none⟩ = some (.bool true) ∧ w'.cell? ⟨gb234, 1, none⟩ = some (.string (⟨#[]⟩ : ByteArray)) ∧ w'.cell? ⟨gb234, 2, none⟩ = some (.int .i64 (((rd_T30 t225 x11_1).f1).size : Int)) ∧ w'.cell? ⟨gb234, 3, none⟩ = some (.int .i64 x8_1) ∧ w'.cell? (ad239.add ((x11_1).toNat * 5)) = some (.string ((rd_T35 t228 x11_1).f0)) ∧ w'.cell? ⟨(ad239.add ((x11_1).toNat * 5)).block, (ad239.add ((x11_1).toNat * 5)).off + 1, none⟩ = some (.bool ((rd_T35 t228 x11_1).f1.f0)) ∧ w'.cell? ⟨(ad239.add ((x11_1).toNat * 5)).block, (ad239.add ((x11_1).toNat * 5)).off + 2, none⟩ = some (.string ((rd_T35 t228 x11_1).f1.f1)) ∧ w'.cell? ⟨(ad239.add ((x11_1).toNat * 5)).block, (ad239.add ((x11_1).toNat * 5)).off + 3, none⟩ = some (.int .i64 ((rd_T35 t228 x11_1).f1.f2)) ∧ w'.cell? ⟨(ad239.add ((x11_1).toNat * 5)).block, (ad239.add ((x11_1).toNat * 5)).off + 4, none⟩ = some (.int .i64 ((rd_T35 t228 x11_1).f1.f3)) ∧ w'.cell? (ad233.add ((x11_1).toNat * 2)) = some (.string ((rd_T30 t225 x11_1).f0)) ∧ w'.cell? ⟨(ad233.add ((x11_1).toNat * 2)).block, (ad233.add ((x11_1).toNat * 2)).off + 1, none⟩ = some (.string ((rd_T30 t225 x11_1).f1)) ∧ w'.cell? (ad239.add ((x11_1).toNat * 5)) = some (.string ((rd_T35 t228 x11_1).f0)) ∧ w'.cell? ⟨(ad239.add ((x11_1).toNat * 5)).block, (ad239.add ((x11_1).toNat * 5)).off + 1, none⟩ = some (.bool ((rd_T35 t228 x11_1).f1.f0)) ∧ w'.cell? ⟨(ad239.add ((x11_1).toNat * 5)).block, (ad239.add ((x11_1).toNat * 5)).off + 2, none⟩ = some (.string ((rd_T35 t228 x11_1).f1.f1)) ∧ w'.cell? ⟨(ad239.add ((x11_1).toNat * 5)).block, (ad239.add ((x11_1).toNat * 5)).off + 3, none⟩ = some (.int .i64 ((rd_T35 t228 x11_1).f1.f2)) ∧ w'.cell? ⟨(ad239.add ((x11_1).toNat * 5)).block, (ad239.add ((x11_1).toNat * 5)).off + 4, none⟩ = some (.int .i64 ((rd_T35 t228 x11_1).f1.f3))) (ds := []) #[false, false, false, false, false, false, false, false, false, false, false, false, false, false, false, false, false, false, false, false, false, false, false, false, false] (by kernel_rfl) rfl rfl ⟨(blk_cell BK234.out 0).trans rfl, (blk_cell BK234.out 1).trans rfl, (blk_cell BK234.out 2).trans rfl, (blk_cell BK234.out 3).trans rfl, hx239_0, hx239_1, hx239_2, hx239_3, hx239_4, hx240_0, hx240_1, hx241_0, hx241_1, hx241_2, hx241_3, hx241_4⟩ (fun hHeld => ?_); refine with_tabW withylaw16_PackPages.tab14 withylaw16_PackPages.bits14 (fun HT_ HW_ => ?_)
                      generalize w23.drew = w24 at HO_0 HO_9 BK234 HB hx239_0 hx239_1 hx239_2 hx239_3 hx239_4 hx240_0 hx240_1 hx241_0 hx241_1 hx241_2 hx241_3 hx241_4 hHeld ⊢
                      refine pure_ (i := 0) (N := some 73) (v := ?_) (a' := ?_) #[true, false, false, false, false, false, false, false, false, false, false, false, false, false, false, false, false, false, false, false, false, false, false, false, false] rfl rfl (any_of HT_.out (by kernel_rfl)) (fun _ _ _ h => h) (Or.inl ⟨by rfl, ?_⟩) ?_ ?_
                      rotate_left
                      · intro w'
                        go_simp
                        with_reducible rfl
                      rotate_left
                      · simp only [Act.put, List.setIfInBounds_toArray, List.set_cons_zero, List.set_cons_succ, i64_w, i32_w]
                        rfl
                      refine pure_ (i := 1) (N := some 74) (v := ?_) (a' := ?_) #[true, true, false, false, false, false, false, false, false, false, false, false, false, false, false, false, false, false, false, false, false, false, false, false, false] rfl rfl (any_of HT_.out (by kernel_rfl)) (fun _ _ _ h => h) (Or.inl ⟨by rfl, ?_⟩) ?_ ?_
                      rotate_left
                      · intro w'
                        go_simp
                        with_reducible rfl
                      rotate_left
                      · simp only [Act.put, List.setIfInBounds_toArray, List.set_cons_zero, List.set_cons_succ, i64_w, i32_w]
                        rfl
                      refine pure_ (i := 2) (N := some 75) (v := ?_) (a' := ?_) #[true, true, true, false, false, false, false, false, false, false, false, false, false, false, false, false, false, false, false, false, false, false, false, false, false] rfl rfl (any_of HT_.out (by kernel_rfl)) (fun _ _ _ h => h) (Or.inl ⟨by rfl, ?_⟩) ?_ ?_
                      rotate_left
                      · intro w'
                        go_simp
                        with_reducible rfl
                      rotate_left
                      · simp only [Act.put, List.setIfInBounds_toArray, List.set_cons_zero, List.set_cons_succ, i64_w, i32_w]
                        rfl
                      refine pure_ (i := 3) (N := some 76) (v := ?_) (a' := ?_) #[true, true, true, true, false, false, false, false, false, false, false, false, false, false, false, false, false, false, false, false, false, false, false, false, false] rfl rfl (any_of HT_.out (by kernel_rfl)) (fun _ _ _ h => h) (Or.inl ⟨by rfl, ?_⟩) ?_ ?_
                      rotate_left
                      · intro w'
                        go_simp
                        with_reducible rfl
                      rotate_left
                      · simp only [Act.put, List.setIfInBounds_toArray, List.set_cons_zero, List.set_cons_succ, i64_w, i32_w]
                        rfl
                      refine pure_ (i := 5) (N := some 78) (v := ?_) (a' := ?_) #[true, true, true, true, false, true, false, false, false, false, false, false, false, false, false, false, false, false, false, false, false, false, false, false, false] rfl rfl (any_of HT_.out (by kernel_rfl)) (fun _ _ _ h => h) (Or.inl ⟨by rfl, ?_⟩) ?_ ?_
                      rotate_left
                      · intro w'
                        go_simp
                        with_reducible rfl
                      rotate_left
                      · simp only [Act.put, List.setIfInBounds_toArray, List.set_cons_zero, List.set_cons_succ, i64_w, i32_w]
                        rfl
                      refine pure_ (i := 6) (N := some 79) (v := ?_) (a' := ?_) #[true, true, true, true, false, true, true, false, false, false, false, false, false, false, false, false, false, false, false, false, false, false, false, false, false] rfl rfl (any_of HT_.out (by kernel_rfl)) (fun _ _ _ h => h) (Or.inl ⟨by rfl, ?_⟩) ?_ ?_
                      rotate_left
                      · intro w'
                        go_simp
                        with_reducible rfl
                      rotate_left
                      · simp only [Act.put, List.setIfInBounds_toArray, List.set_cons_zero, List.set_cons_succ, i64_w, i32_w]
                        rfl
                      refine pure_ (i := 7) (N := some 80) (v := ?_) (a' := ?_) #[true, true, true, true, false, true, true, true, false, false, false, false, false, false, false, false, false, false, false, false, false, false, false, false, false] rfl rfl (any_of HT_.out (by kernel_rfl)) (fun _ _ _ h => h) (Or.inl ⟨by rfl, ?_⟩) ?_ ?_
                      rotate_left
                      · intro w'
                        go_simp
                        with_reducible rfl
                      rotate_left
                      · simp only [Act.put, List.setIfInBounds_toArray, List.set_cons_zero, List.set_cons_succ, i64_w, i32_w]
                        rfl
                      refine pure_ (i := 8) (N := some 81) (v := ?_) (a' := ?_) #[true, true, true, true, false, true, true, true, true, false, false, false, false, false, false, false, false, false, false, false, false, false, false, false, false] rfl rfl (any_of HT_.out (by kernel_rfl)) (fun _ _ _ h => h) (Or.inl ⟨by rfl, ?_⟩) ?_ ?_
                      rotate_left
                      · intro w'
                        go_simp
                        with_reducible rfl
                      rotate_left
                      · simp only [Act.put, List.setIfInBounds_toArray, List.set_cons_zero, List.set_cons_succ, i64_w, i32_w]
                        rfl
                      refine take_ (i := 4) (N := some 77) (v := ?_) (a' := ?_) #[true, true, true, true, true, true, true, true, true, false, false, false, false, false, false, false, false, false, false, false, false, false, false, false, false] rfl rfl (take_ofW HT_.out HW_.out (by kernel_rfl)) (fun _ _ _ h => h) (Or.inl ⟨by rfl, ?_⟩) hHeld ?_ ?_
                      rotate_left
                      · rintro w' ⟨s0, s1, s2, s3, s4, s5, s6, s7, s8, s9, s10, s11, s12, s13, s14, s15⟩
                        go_simp
                        with_reducible rfl
                      rotate_left
                      · simp only [Act.put, List.setIfInBounds_toArray, List.set_cons_zero, List.set_cons_succ, i64_w, i32_w]
                        rfl
                      refine take_ (i := 9) (N := some 82) (v := ?_) (a' := ?_) #[true, true, true, true, true, true, true, true, true, true, false, false, false, false, false, false, false, false, false, false, false, false, false, false, false] rfl rfl (take_ofW HT_.out HW_.out (by kernel_rfl)) (fun _ _ _ h => h) (Or.inl ⟨by rfl, ?_⟩) hHeld ?_ ?_
                      rotate_left
                      · rintro w' ⟨s0, s1, s2, s3, s4, s5, s6, s7, s8, s9, s10, s11, s12, s13, s14, s15⟩
                        go_simp
                        with_reducible rfl
                      rotate_left
                      · simp only [Act.put, List.setIfInBounds_toArray, List.set_cons_zero, List.set_cons_succ, i64_w, i32_w]
                        rfl
                      refine pure_ (i := 10) (N := some 83) (v := ?_) (a' := ?_) #[true, true, true, true, true, true, true, true, true, true, true, false, false, false, false, false, false, false, false, false, false, false, false, false, false] rfl rfl (any_of HT_.out (by kernel_rfl)) (fun _ _ _ h => h) (Or.inl ⟨by rfl, ?_⟩) ?_ ?_
                      rotate_left
                      · intro w'
                        go_simp
                        with_reducible rfl
                      rotate_left
                      · simp only [Act.put, List.setIfInBounds_toArray, List.set_cons_zero, List.set_cons_succ, i64_w, i32_w]
                        rfl
                      refine pure_ (i := 11) (N := some 84) (v := ?_) (a' := ?_) #[true, true, true, true, true, true, true, true, true, true, true, true, false, false, false, false, false, false, false, false, false, false, false, false, false] rfl rfl (any_of HT_.out (by kernel_rfl)) (fun _ _ _ h => h) (Or.inl ⟨by rfl, ?_⟩) ?_ ?_
                      rotate_left
                      · intro w'
                        go_simp
                        with_reducible rfl
                      rotate_left
                      · simp only [Act.put, List.setIfInBounds_toArray, List.set_cons_zero, List.set_cons_succ, i64_w, i32_w]
                        rfl
                      refine pure_ (i := 12) (N := some 85) (v := ?_) (a' := ?_) #[true, true, true, true, true, true, true, true, true, true, true, true, true, false, false, false, false, false, false, false, false, false, false, false, false] rfl rfl (any_of HT_.out (by kernel_rfl)) (fun _ _ _ h => h) (Or.inl ⟨by rfl, ?_⟩) ?_ ?_
                      rotate_left
                      · intro w'
                        go_simp
                        with_reducible rfl
                      rotate_left
                      · simp only [Act.put, List.setIfInBounds_toArray, List.set_cons_zero, List.set_cons_succ, i64_w, i32_w]
                        rfl
                      refine pure_ (i := 13) (N := some 86) (v := ?_) (a' := ?_) #[true, true, true, true, true, true, true, true, true, true, true, true, true, true, false, false, false, false, false, false, false, false, false, false, false] rfl rfl (any_of HT_.out (by kernel_rfl)) (fun _ _ _ h => h) (Or.inl ⟨by rfl, ?_⟩) ?_ ?_
                      rotate_left
                      · intro w'
                        go_simp
                        with_reducible rfl
                      rotate_left
                      · simp only [Act.put, List.setIfInBounds_toArray, List.set_cons_zero, List.set_cons_succ, i64_w, i32_w]
                        rfl
                      refine pure_ (i := 14) (N := some 87) (v := ?_) (a' := ?_) #[true, true, true, true, true, true, true, true, true, true, true, true, true, true, true, false, false, false, false, false, false, false, false, false, false] rfl rfl (any_of HT_.out (by kernel_rfl)) (fun _ _ _ h => h) (Or.inl ⟨by rfl, ?_⟩) ?_ ?_
                      rotate_left
                      · intro w'
                        go_simp
                        with_reducible rfl
                      rotate_left
                      · simp only [Act.put, List.setIfInBounds_toArray, List.set_cons_zero, List.set_cons_succ, i64_w, i32_w]
                        rfl
                      refine pure_ (i := 15) (N := some 88) (v := ?_) (a' := ?_) #[true, true, true, true, true, true, true, true, true, true, true, true, true, true, true, true, false, false, false, false, false, false, false, false, false] rfl rfl (any_of HT_.out (by kernel_rfl)) (fun _ _ _ h => h) (Or.inl ⟨by rfl, ?_⟩) ?_ ?_
                      rotate_left
                      · intro w'
                        go_simp
                        with_reducible rfl
                      rotate_left
                      · simp only [Act.put, List.setIfInBounds_toArray, List.set_cons_zero, List.set_cons_succ, i64_w, i32_w]
                        rfl
                      refine take_ (i := 16) (N := some 89) (v := ?_) (a' := ?_) #[true, true, true, true, true, true, true, true, true, true, true, true, true, true, true, true, true, false, false, false, false, false, false, false, false] rfl rfl (take_ofW HT_.out HW_.out (by kernel_rfl)) (fun _ _ _ h => h) (Or.inl ⟨by rfl, ?_⟩) hHeld ?_ ?_
                      rotate_left
                      · rintro w' ⟨s0, s1, s2, s3, s4, s5, s6, s7, s8, s9, s10, s11, s12, s13, s14, s15⟩
                        go_simp
                        with_reducible rfl
                      rotate_left
                      · simp only [Act.put, List.setIfInBounds_toArray, List.set_cons_zero, List.set_cons_succ, i64_w, i32_w]
                        rfl
                      refine take_ (i := 17) (N := some 90) (v := ?_) (a' := ?_) #[true, true, true, true, true, true, true, true, true, true, true, true, true, true, true, true, true, true, false, false, false, false, false, false, false] rfl rfl (take_ofW HT_.out HW_.out (by kernel_rfl)) (fun _ _ _ h => h) (Or.inl ⟨by rfl, ?_⟩) hHeld ?_ ?_
                      rotate_left
                      · rintro w' ⟨s0, s1, s2, s3, s4, s5, s6, s7, s8, s9, s10, s11, s12, s13, s14, s15⟩
                        go_simp
                        with_reducible rfl
                      rotate_left
                      · simp only [Act.put, List.setIfInBounds_toArray, List.set_cons_zero, List.set_cons_succ, i64_w, i32_w]
                        rfl
                      refine pure_ (i := 18) (N := some 91) (v := ?_) (a' := ?_) #[true, true, true, true, true, true, true, true, true, true, true, true, true, true, true, true, true, true, true, false, false, false, false, false, false] rfl rfl (any_of HT_.out (by kernel_rfl)) (fun _ _ _ h => h) (Or.inl ⟨by rfl, ?_⟩) ?_ ?_
                      rotate_left
                      · intro w'
                        go_simp
                        with_reducible rfl
                      rotate_left
                      · simp only [Act.put, List.setIfInBounds_toArray, List.set_cons_zero, List.set_cons_succ, i64_w, i32_w]
                        rfl
                      refine pure_ (i := 19) (N := some 92) (v := ?_) (a' := ?_) #[true, true, true, true, true, true, true, true, true, true, true, true, true, true, true, true, true, true, true, true, false, false, false, false, false] rfl rfl (any_of HT_.out (by kernel_rfl)) (fun _ _ _ h => h) (Or.inl ⟨by rfl, ?_⟩) ?_ ?_
                      rotate_left
                      · intro w'
                        go_simp
                        with_reducible rfl
                      rotate_left
                      · simp only [Act.put, List.setIfInBounds_toArray, List.set_cons_zero, List.set_cons_succ, i64_w, i32_w]
                        rfl
                      refine pure_ (i := 20) (N := some 93) (v := ?_) (a' := ?_) #[true, true, true, true, true, true, true, true, true, true, true, true, true, true, true, true, true, true, true, true, true, false, false, false, false] rfl rfl (any_of HT_.out (by kernel_rfl)) (fun _ _ _ h => h) (Or.inl ⟨by rfl, ?_⟩) ?_ ?_
                      rotate_left
                      · intro w'
                        go_simp
                        with_reducible rfl
                      rotate_left
                      · simp only [Act.put, List.setIfInBounds_toArray, List.set_cons_zero, List.set_cons_succ, i64_w, i32_w]
                        rfl
                      refine take_ (i := 21) (N := some 94) (v := ?_) (a' := ?_) #[true, true, true, true, true, true, true, true, true, true, true, true, true, true, true, true, true, true, true, true, true, true, false, false, false] rfl rfl (take_ofW HT_.out HW_.out (by kernel_rfl)) (fun _ _ _ h => h) (Or.inl ⟨by rfl, ?_⟩) hHeld ?_ ?_
                      rotate_left
                      · rintro w' ⟨s0, s1, s2, s3, s4, s5, s6, s7, s8, s9, s10, s11, s12, s13, s14, s15⟩
                        go_simp
                        with_reducible rfl
                      rotate_left
                      · simp only [Act.put, List.setIfInBounds_toArray, List.set_cons_zero, List.set_cons_succ, i64_w, i32_w]
                        rfl
                      refine one_ (i := 22) (N := some 95) #[true, true, true, true, true, true, true, true, true, true, true, true, true, true, true, true, true, true, true, true, true, true, true, false, false] rfl rfl (one_of HT_.out (by kernel_rfl)) (by decide) (fun K hK => ?_)
                      refine goes_ Try.func11 (by kernel_rfl) rfl #[.agg #[.bool true, .string (⟨#[]⟩ : ByteArray), .int .i64 (((rd_T30 t225 x11_1).f1).size : Int), .int .i64 x8_1]] (by rfl) rfl rfl (by (try simp only [List.map_toArray, List.map_cons, List.map_nil]); first | done | rfl | (simp only [List.length_drop, List.length_take]; rfl)) ?_
                      with_reducible refine (cell_Right.calls true (⟨#[]⟩ : ByteArray) (((rd_T30 t225 x11_1).f1).size : Int) x8_1 true _ A19.out).mono ?_
                      rintro e w25 ⟨rfl, hb⟩
                      have HS4_ := (hb.cell (World.block_lt_of_cell? _ _ (hHeld.2.2.2.2.1))).trans (hHeld.2.2.2.2.1)
                      have HS5_ := (hb.cell (World.block_lt_of_cell? _ _ (hHeld.2.2.2.2.2.1))).trans (hHeld.2.2.2.2.2.1)
                      have HS6_ := (hb.cell (World.block_lt_of_cell? _ _ (hHeld.2.2.2.2.2.2.1))).trans (hHeld.2.2.2.2.2.2.1)
                      have HS7_ := (hb.cell (World.block_lt_of_cell? _ _ (hHeld.2.2.2.2.2.2.2.1))).trans (hHeld.2.2.2.2.2.2.2.1)
                      have HS8_ := (hb.cell (World.block_lt_of_cell? _ _ (hHeld.2.2.2.2.2.2.2.2.1))).trans (hHeld.2.2.2.2.2.2.2.2.1)
                      have HS9_ := (hb.cell (World.block_lt_of_cell? _ _ (hHeld.2.2.2.2.2.2.2.2.2.1))).trans (hHeld.2.2.2.2.2.2.2.2.2.1)
                      have HS10_ := (hb.cell (World.block_lt_of_cell? _ _ (hHeld.2.2.2.2.2.2.2.2.2.2.1))).trans (hHeld.2.2.2.2.2.2.2.2.2.2.1)
                      have HS11_ := (hb.cell (World.block_lt_of_cell? _ _ (hHeld.2.2.2.2.2.2.2.2.2.2.2.1))).trans (hHeld.2.2.2.2.2.2.2.2.2.2.2.1)
                      have HS12_ := (hb.cell (World.block_lt_of_cell? _ _ (hHeld.2.2.2.2.2.2.2.2.2.2.2.2.1))).trans (hHeld.2.2.2.2.2.2.2.2.2.2.2.2.1)
                      have HS13_ := (hb.cell (World.block_lt_of_cell? _ _ (hHeld.2.2.2.2.2.2.2.2.2.2.2.2.2.1))).trans (hHeld.2.2.2.2.2.2.2.2.2.2.2.2.2.1)
                      have HS14_ := (hb.cell (World.block_lt_of_cell? _ _ (hHeld.2.2.2.2.2.2.2.2.2.2.2.2.2.2.1))).trans (hHeld.2.2.2.2.2.2.2.2.2.2.2.2.2.2.1)
                      have HS15_ := (hb.cell (World.block_lt_of_cell? _ _ (hHeld.2.2.2.2.2.2.2.2.2.2.2.2.2.2.2))).trans (hHeld.2.2.2.2.2.2.2.2.2.2.2.2.2.2.2)
                      refine ⟨_, rfl, ?_⟩
                      have n0_ := Aside0.mk (Kd.R_below (by (with_reducible repeat (first | apply Kd.R_alloc | apply Kd.R_drewN | apply Kd.R_drew)); exact HO_0.out) hb)
                      have n1_ := Aside0.mk (Kd.R_below (by (with_reducible repeat (first | apply Kd.R_alloc | apply Kd.R_drewN | apply Kd.R_drew)); exact HO_9.out) hb)
                      have n2_ := Aside0.mk (blk_below (g := gb234) (o := .cells #[.bool true, .string (⟨#[]⟩ : ByteArray), .int .i64 (((rd_T30 t225 x11_1).f1).size : Int), .int .i64 x8_1] 32 (0, 0)) (by (with_reducible repeat (first | refine blk_drewN ?_ _ | refine blk_drew ?_ | refine blk_alloc ?_ _)); exact BK234.out) hb)
                      have n3_ := Aside0.mk (below_step (by repeat (first | (with_reducible first | exact HB.out | apply below_alloc | apply pw_below_drewN | apply below_drew1 | refine below_set ?_ GE234.out) | exact HB.out)) hb)
                      clear HO_0
                      clear HO_9
                      clear BK234
                      clear HB
                      have HO_0 := n0_
                      have HO_9 := n1_
                      have BK234 := n2_
                      have HB := n3_
                      clear n0_ n1_ n2_ n3_
                      (try clear hb)
                      (try clear hb2)
                      (try clear hk)
                      (try clear hi)
                      refine hK.out _ _ ⟨(blk_cell BK234.out 0).trans rfl, (blk_cell BK234.out 1).trans rfl, (blk_cell BK234.out 2).trans rfl, (blk_cell BK234.out 3).trans rfl, HS4_, HS5_, HS6_, HS7_, HS8_, HS9_, HS10_, HS11_, HS12_, HS13_, HS14_, HS15_⟩ (fun hHeld => ?_)
                      clear hK K
                      refine norm_ (a' := ?_) ?_ ?_
                      rotate_left
                      · show Act.put _ (some 95) _ = _
                        simp only [Act.put, List.setIfInBounds_toArray, List.set_cons_zero, List.set_cons_succ, i64_w, i32_w]
                        rfl
                      refine pure_ (i := 23) (N := some 96) (v := ?_) (a' := ?_) #[true, true, true, true, true, true, true, true, true, true, true, true, true, true, true, true, true, true, true, true, true, true, true, true, false] rfl rfl (any_of HT_.out (by kernel_rfl)) (fun _ _ _ h => h) (Or.inl ⟨by rfl, ?_⟩) ?_ ?_
                      rotate_left
                      · intro w'
                        go_simp
                        with_reducible rfl
                      rotate_left
                      · simp only [Act.put, List.setIfInBounds_toArray, List.set_cons_zero, List.set_cons_succ, i64_w, i32_w]
                        rfl
                      refine pure_ (i := 24) (N := some 97) (v := ?_) (a' := ?_) #[true, true, true, true, true, true, true, true, true, true, true, true, true, true, true, true, true, true, true, true, true, true, true, true, true] rfl rfl (any_of HT_.out (by kernel_rfl)) (fun _ _ _ h => h) (Or.inl ⟨by rfl, ?_⟩) ?_ ?_
                      rotate_left
                      · intro w'
                        go_simp
                        with_reducible rfl
                      rotate_left
                      · simp only [Act.put, List.setIfInBounds_toArray, List.set_cons_zero, List.set_cons_succ, i64_w, i32_w]
                        rfl
                      refine done_ (done_of HT_.out (by kernel_rfl)) ?_
                      try go_wp2
                      go_roundg k1
                      case measure => have := HK1.out; omega
                      case rel => exact ⟨(wrap64 (x8_1 + t238)), (wrap64 (x11_1 + 1)), (by first | rfl | (simp; done) | (simp [*]; done)), (by first | rfl | (simp; done) | (simp [*]; done)), H', ⟨by have := HK1.out; omega⟩, ⟨by (with_reducible repeat (first | apply Kd.R_alloc | apply Kd.R_drewN | apply Kd.R_drew)); exact HO_0.out⟩, ⟨by (with_reducible repeat (first | apply Kd.R_alloc | apply Kd.R_drewN | apply Kd.R_drew)); exact HO_9.out⟩, ⟨by repeat (first | (with_reducible first | exact HB.out | apply below_alloc | apply pw_below_drewN | apply below_drew1 | refine below_set ?_ GE234.out) | exact HB.out)⟩⟩
                    · replace c20 := Bool.eq_false_iff.mpr c20
                      subst c20
                      have H1 : (none) = some r := by rw [if_neg (show ¬ (false = true) by decide)] at H; exact H
                      clear H
                      have H := H1
                      clear H1
                      exact absurd H (by simp)
                · rw [if_neg c17] at H
                  have c17b0 : (((rd_T35 t228 x11_1).f0).toList == ((rd_T30 t225 x11_1).f0).toList) = false := beq_eq_false_iff_ne.mpr c17
                  have c17b1 : (((rd_T35 t228 x11_1).f0).toList != ((rd_T30 t225 x11_1).f0).toList) = true := bne_iff_ne.mpr c17
                  exact absurd H (by simp)
              · rw [if_neg c16] at H
                exact absurd H (by simp)
            · rw [if_neg c14] at H
              have c14b0 : decide ((wrap64 (Int.tdiv t224 4)) < (((rd_T30 t225 x11_1).f1).size : Int)) = false := decide_eq_false c14
              clear c14
              by_cases c26 : x11_1 < (t228.length : Int)
              · rw [if_pos c26] at H
                have c26b0 : decide (x11_1 < (t228.length : Int)) = true := decide_eq_true c26
                clear c26
                by_cases c27 : ((rd_T35 t228 x11_1).f0).toList = ((rd_T30 t225 x11_1).f0).toList
                · rw [if_pos c27] at H
                  have c27b0 : (((rd_T35 t228 x11_1).f0).toList == ((rd_T30 t225 x11_1).f0).toList) = true := beq_iff_eq.mpr c27
                  have c27b1 : (((rd_T35 t228 x11_1).f0).toList != ((rd_T30 t225 x11_1).f0).toList) = false := bne_eq_false_iff_eq.mpr c27
                  clear c27
                  by_cases c28 : (((rd_T35 t228 x11_1).f1.f0) || (!((((rd_T35 t228 x11_1).f1.f1).toList) == (((rd_T30 t225 x11_1).f1).toList)) || (!(((rd_T35 t228 x11_1).f1.f2) == 0) || (!(((rd_T35 t228 x11_1).f1.f3) == 0))))) = true
                  · rw [if_pos c28] at H
                    have c28b0 : (((rd_T35 t228 x11_1).f1.f0) || (!((((rd_T35 t228 x11_1).f1.f1).toList) == (((rd_T30 t225 x11_1).f1).toList)) || (!(((rd_T35 t228 x11_1).f1.f2) == 0) || (!(((rd_T35 t228 x11_1).f1.f3) == 0))))) = true := c28
                    clear c28
                    exact absurd H (by simp)
                  · rw [if_neg c28] at H
                    have c28b0 : (((rd_T35 t228 x11_1).f1.f0) || (!((((rd_T35 t228 x11_1).f1.f1).toList) == (((rd_T30 t225 x11_1).f1).toList)) || (!(((rd_T35 t228 x11_1).f1.f2) == 0) || (!(((rd_T35 t228 x11_1).f1.f3) == 0))))) = false := by simpa using c28
                    clear c28
                    replace H := Option.bind_eq_some_iff.mp H
                    obtain ⟨t246, A290, H⟩ := H
                    replace H : (if t246 = true then (withylaw16_PackPages.l0 k1 t225 t224 x8_1 t228 t229 (wrap64 (x11_1 + 1))) else (none)) = some r := H
                    have A29 := Aside0.mk A290
                    clear A290
                    by_cases c30 : t246 = true
                    · subst c30
                      have H1 : (withylaw16_PackPages.l0 k1 t225 t224 x8_1 t228 t229 (wrap64 (x11_1 + 1))) = some r := by rw [if_pos rfl] at H; exact H
                      clear H
                      have H := H1
                      clear H1
                      have H' := Aside0.mk H
                      clear H
                      have p233 : 0 ≤ (x11_1 : Int) := of_decide_eq_true (by first | (with_reducible assumption) | assumption)
                      have q233 : x11_1 < (t225.length : Int) := of_decide_eq_true (by first | (with_reducible assumption) | assumption)
                      obtain ⟨ad233, e233, hx233_0, hx233_1⟩ := at_T30 (Kd.R_reads' HO_0.out).2.2 x11_1 p233 q233
                      cases e233
                      replace p233 := eq_true p233
                      replace q233 := eq_true q233
                      try go_wp2_with (first | ((with_reducible refine gate_dst (N := 12) rfl ?_); refine box_event ?hg (N := 12) ?hd (cs := #[.bool false, .string (⟨#[]⟩ : ByteArray), .int .i64 0, .int .i64 0]) (t := 32) ?hr ?_; (case hd => rfl); (case hg => rfl); (case hr => first | (go_simp; done) | (go_simp; rfl)); intro gb234 hg w31 hbox hb; have n0_ := Aside0.mk (Kd.R_below (by (with_reducible repeat (first | apply Kd.R_alloc | apply Kd.R_drewN | apply Kd.R_drew)); exact HO_0.out) hb); have n1_ := Aside0.mk (Kd.R_below (by (with_reducible repeat (first | apply Kd.R_alloc | apply Kd.R_drewN | apply Kd.R_drew)); exact HO_9.out) hb); have n2_ := Aside0.mk (below_step (by repeat (first | (with_reducible first | exact HB.out | apply below_alloc | apply pw_below_drewN | apply below_drew1) | exact HB.out)) hb); have n3_ := Aside0.mk (hbox); have n4_ := Aside0.mk ((by rw [hg]; exact (below_size (by repeat (first | (with_reducible first | exact HB.out | apply below_alloc | apply pw_below_drewN | apply below_drew1) | exact HB.out))) : w.heap.size ≤ gb234)); have n5_ := Aside0.mk ((by rw [hg]; exact (below_size (by repeat (first | (with_reducible first | exact HB.out | apply below_alloc | apply pw_below_drewN | apply below_drew1) | exact HB.out))) : w.heap.size ≤ gb234)); clear HO_0; clear HO_9; clear HB; have HO_0 := n0_; have HO_9 := n1_; have HB := n2_; have BK234 := n3_; have GW234 := n4_; have GE234 := n5_; clear n0_ n1_ n2_ n3_ n4_ n5_; clear hb hbox hg; have hcz32_0 : w31.cell? ⟨gb234, 0, none⟩ = some (.bool false) := (blk_cell BK234.out 0).trans rfl; have hcz32_1 : w31.cell? ⟨gb234, 1, none⟩ = some (.string (⟨#[]⟩ : ByteArray)) := (blk_cell BK234.out 1).trans rfl; have hcz32_2 : w31.cell? ⟨gb234, 2, none⟩ = some (.int .i64 0) := (blk_cell BK234.out 2).trans rfl; have hcz32_3 : w31.cell? ⟨gb234, 3, none⟩ = some (.int .i64 0) := (blk_cell BK234.out 3).trans rfl; have hfz32_0 := blk_frozen BK234.out 0; have hfz32_1 := blk_frozen BK234.out 1; have hfz32_2 := blk_frozen BK234.out 2; have hfz32_3 := blk_frozen BK234.out 3; have p235 : 0 ≤ (x11_1 : Int) := of_decide_eq_true (by first | (with_reducible assumption) | assumption); have q235 : x11_1 < (t225.length : Int) := of_decide_eq_true (by first | (with_reducible assumption) | assumption); obtain ⟨ad235, e235, hx235_0, hx235_1⟩ := at_T30 (Kd.R_reads' HO_0.out).2.2 x11_1 p235 q235; obtain rfl : ad233 = ad235 := (by injection e235); have hn235_0 : ad233.block ≠ gb234 := Kd.own_blk (Kd.R_ne HO_0.out BK234.out (by decide)); have hn235_1 : ad233.block ≠ gb234 := Kd.own_blk (Kd.R_ne HO_0.out BK234.out (by decide)); have hn235_2 : ad233.block ≠ gb234 := Kd.own_blk (Kd.R_ne HO_0.out BK234.out (by decide)); have hn235_3 : ad233.block ≠ gb234 := Kd.own_blk (Kd.R_ne HO_0.out BK234.out (by decide)); replace hx235_0 := (cell_far (p := ⟨gb234, 0, none⟩) (by first | (rw [add_block]; exact hn235_0) | (show (Addr.add _ _).block ≠ _; rw [add_block]; exact hn235_0) | exact hn235_0) (.bool false)).trans hx235_0; replace hx235_1 := (cell_far (p := ⟨gb234, 0, none⟩) (by first | (rw [add_block]; exact hn235_0) | (show (Addr.add _ _).block ≠ _; rw [add_block]; exact hn235_0) | exact hn235_0) (.bool false)).trans hx235_1; replace hx235_0 := (cell_far (p := ⟨gb234, 1, none⟩) (by first | (rw [add_block]; exact hn235_1) | (show (Addr.add _ _).block ≠ _; rw [add_block]; exact hn235_1) | exact hn235_1) (.string ((rd_T30 t225 x11_1).f1))).trans hx235_0; replace hx235_1 := (cell_far (p := ⟨gb234, 1, none⟩) (by first | (rw [add_block]; exact hn235_1) | (show (Addr.add _ _).block ≠ _; rw [add_block]; exact hn235_1) | exact hn235_1) (.string ((rd_T30 t225 x11_1).f1))).trans hx235_1; replace hx235_0 := (cell_far (p := ⟨gb234, 2, none⟩) (by first | (rw [add_block]; exact hn235_2) | (show (Addr.add _ _).block ≠ _; rw [add_block]; exact hn235_2) | exact hn235_2) (.int .i64 0)).trans hx235_0; replace hx235_1 := (cell_far (p := ⟨gb234, 2, none⟩) (by first | (rw [add_block]; exact hn235_2) | (show (Addr.add _ _).block ≠ _; rw [add_block]; exact hn235_2) | exact hn235_2) (.int .i64 0)).trans hx235_1; replace hx235_0 := (cell_far (p := ⟨gb234, 3, none⟩) (by first | (rw [add_block]; exact hn235_3) | (show (Addr.add _ _).block ≠ _; rw [add_block]; exact hn235_3) | exact hn235_3) (.int .i64 0)).trans hx235_0; replace hx235_1 := (cell_far (p := ⟨gb234, 3, none⟩) (by first | (rw [add_block]; exact hn235_3) | (show (Addr.add _ _).block ≠ _; rw [add_block]; exact hn235_3) | exact hn235_3) (.int .i64 0)).trans hx235_1; clear hn235_0; clear hn235_1; clear hn235_2; clear hn235_3; replace p235 := eq_true p235; replace q235 := eq_true q235))
                      have n0_ : Aside0 (Kd.R k30 30 ((((w31.setCell ⟨gb234, 0, none⟩ (.bool false)).setCell ⟨gb234, 1, none⟩ (.string ((rd_T30 t225 x11_1).f1))).setCell ⟨gb234, 2, none⟩ (.int .i64 0)).setCell ⟨gb234, 3, none⟩ (.int .i64 0)) w.heap.size (fun _ => True) (.slice (some ad233) t225.length co9) t225) := ⟨by (with_reducible repeat (first | apply Kd.R_alloc | apply Kd.R_drewN | apply Kd.R_drew)); exact Kd.R_mono (Kd.R_far (p := ⟨gb234, 3, none⟩) (Kd.R_far (p := ⟨gb234, 2, none⟩) (Kd.R_far (p := ⟨gb234, 1, none⟩) (Kd.R_far (p := ⟨gb234, 0, none⟩) (Kd.R_types HO_0.out BK234.out (by decide)) (fun _ hk => hk.2) (.bool false)) (fun _ hk => hk.2) (.string ((rd_T30 t225 x11_1).f1))) (fun _ hk => hk.2) (.int .i64 0)) (fun _ hk => hk.2) (.int .i64 0)) (fun _ hk => trivial)⟩
                      have n1_ : Aside0 (Kd.R k35 35 ((((w31.setCell ⟨gb234, 0, none⟩ (.bool false)).setCell ⟨gb234, 1, none⟩ (.string ((rd_T30 t225 x11_1).f1))).setCell ⟨gb234, 2, none⟩ (.int .i64 0)).setCell ⟨gb234, 3, none⟩ (.int .i64 0)) w.heap.size (fun _ => True) (.slice Ao11 t228.length co11) t228) := ⟨by (with_reducible repeat (first | apply Kd.R_alloc | apply Kd.R_drewN | apply Kd.R_drew)); exact Kd.R_mono (Kd.R_far (p := ⟨gb234, 3, none⟩) (Kd.R_far (p := ⟨gb234, 2, none⟩) (Kd.R_far (p := ⟨gb234, 1, none⟩) (Kd.R_far (p := ⟨gb234, 0, none⟩) (Kd.R_types HO_9.out BK234.out (by decide)) (fun _ hk => hk.2) (.bool false)) (fun _ hk => hk.2) (.string ((rd_T30 t225 x11_1).f1))) (fun _ hk => hk.2) (.int .i64 0)) (fun _ hk => hk.2) (.int .i64 0)) (fun _ hk => trivial)⟩
                      have n2_ : Aside0 (((((w31.setCell ⟨gb234, 0, none⟩ (.bool false)).setCell ⟨gb234, 1, none⟩ (.string ((rd_T30 t225 x11_1).f1))).setCell ⟨gb234, 2, none⟩ (.int .i64 0)).setCell ⟨gb234, 3, none⟩ (.int .i64 0)).heap[gb234]? = some (.cells #[.bool false, .string ((rd_T30 t225 x11_1).f1), .int .i64 0, .int .i64 0] 32 (0, 0))) := ⟨by (with_reducible repeat (first | refine blk_drewN ?_ _ | refine blk_drew ?_ | refine blk_alloc ?_ _)); refine blk_put (cs := #[.bool false, .string ((rd_T30 t225 x11_1).f1), .int .i64 0, .int .i64 0]) ?_ 3 _ rfl; (with_reducible repeat (first | refine blk_drewN ?_ _ | refine blk_drew ?_ | refine blk_alloc ?_ _)); refine blk_put (cs := #[.bool false, .string ((rd_T30 t225 x11_1).f1), .int .i64 0, .int .i64 0]) ?_ 2 _ rfl; (with_reducible repeat (first | refine blk_drewN ?_ _ | refine blk_drew ?_ | refine blk_alloc ?_ _)); refine blk_put (cs := #[.bool false, .string (⟨#[]⟩ : ByteArray), .int .i64 0, .int .i64 0]) ?_ 1 _ rfl; (with_reducible repeat (first | refine blk_drewN ?_ _ | refine blk_drew ?_ | refine blk_alloc ?_ _)); refine blk_put (cs := #[.bool false, .string (⟨#[]⟩ : ByteArray), .int .i64 0, .int .i64 0]) ?_ 0 _ rfl; (with_reducible repeat (first | refine blk_drewN ?_ _ | refine blk_drew ?_ | refine blk_alloc ?_ _)); exact BK234.out⟩
                      have n3_ : Aside0 (Below w.heap.size w ((((w31.setCell ⟨gb234, 0, none⟩ (.bool false)).setCell ⟨gb234, 1, none⟩ (.string ((rd_T30 t225 x11_1).f1))).setCell ⟨gb234, 2, none⟩ (.int .i64 0)).setCell ⟨gb234, 3, none⟩ (.int .i64 0))) := ⟨by repeat (first | (with_reducible first | exact HB.out | apply below_alloc | apply pw_below_drewN | apply below_drew1 | refine below_set ?_ GE234.out) | exact HB.out)⟩
                      (try clear HO_0)
                      (try clear HO_9)
                      (try clear BK234)
                      (try clear HB)
                      generalize ((((w31.setCell ⟨gb234, 0, none⟩ (.bool false)).setCell ⟨gb234, 1, none⟩ (.string ((rd_T30 t225 x11_1).f1))).setCell ⟨gb234, 2, none⟩ (.int .i64 0)).setCell ⟨gb234, 3, none⟩ (.int .i64 0)) = w33 at n0_ n1_ n2_ n3_ ⊢
                      have HO_0 := n0_
                      have HO_9 := n1_
                      have BK234 := n2_
                      have HB := n3_
                      clear n0_ n1_ n2_ n3_
                      have n0_ := Aside0.mk (Kd.R_drew HO_0.out)
                      have n1_ := Aside0.mk (Kd.R_drew HO_9.out)
                      have n2_ := Aside0.mk (blk_drew BK234.out)
                      have n3_ := Aside0.mk (below_drew1 HB.out)
                      clear HO_0
                      clear HO_9
                      clear BK234
                      clear HB
                      have HO_0 := n0_
                      have HO_9 := n1_
                      have BK234 := n2_
                      have HB := n3_
                      clear n0_ n1_ n2_ n3_
                      have p243 : 0 ≤ (x11_1 : Int) := of_decide_eq_true (by first | (with_reducible assumption) | assumption)
                      have q243 : x11_1 < (t228.length : Int) := of_decide_eq_true (by first | (with_reducible assumption) | assumption)
                      obtain ⟨ad243, e243, hx243_0, hx243_1, hx243_2, hx243_3, hx243_4⟩ := at_T35 (Kd.R_reads' HO_9.out).2.2 x11_1 p243 q243
                      cases e243
                      replace p243 := eq_true p243
                      replace q243 := eq_true q243
                      have p244 : 0 ≤ (x11_1 : Int) := of_decide_eq_true (by first | (with_reducible assumption) | assumption)
                      have q244 : x11_1 < (t225.length : Int) := of_decide_eq_true (by first | (with_reducible assumption) | assumption)
                      obtain ⟨ad244, e244, hx244_0, hx244_1⟩ := at_T30 (Kd.R_reads' HO_0.out).2.2 x11_1 p244 q244
                      obtain rfl : ad233 = ad244 := (by injection e244)
                      replace p244 := eq_true p244
                      replace q244 := eq_true q244
                      have p245 : 0 ≤ (x11_1 : Int) := of_decide_eq_true (by first | (with_reducible assumption) | assumption)
                      have q245 : x11_1 < (t228.length : Int) := of_decide_eq_true (by first | (with_reducible assumption) | assumption)
                      obtain ⟨ad245, e245, hx245_0, hx245_1, hx245_2, hx245_3, hx245_4⟩ := at_T35 (Kd.R_reads' HO_9.out).2.2 x11_1 p245 q245
                      obtain rfl : ad243 = ad245 := (by injection e245)
                      replace p245 := eq_true p245
                      replace q245 := eq_true q245
                      refine start_ (n := 25) (S := fun w' => w'.cell? ⟨gb234, 0, none⟩ = some (.bool false) ∧ w'.cell? ⟨gb234, 1, none⟩ = some (.string ((rd_T30 t225 x11_1).f1)) ∧ w'.cell? ⟨gb234, 2, none⟩ = some (.int .i64 0) ∧ w'.cell? ⟨gb234, 3, none⟩ = some (.int .i64 0) ∧ w'.cell? (ad243.add ((x11_1).toNat * 5)) = some (.string ((rd_T35 t228 x11_1).f0)) ∧ w'.cell? ⟨(ad243.add ((x11_1).toNat * 5)).block, (ad243.add ((x11_1).toNat * 5)).off + 1, none⟩ = some (.bool ((rd_T35 t228 x11_1).f1.f0)) ∧ w'.cell? ⟨(ad243.add ((x11_1).toNat * 5)).block, (ad243.add ((x11_1).toNat * 5)).off + 2, none⟩ = some (.string ((rd_T35 t228 x11_1).f1.f1)) ∧ w'.cell? ⟨(ad243.add ((x11_1).toNat * 5)).block, (ad243.add ((x11_1).toNat * 5)).off + 3, none⟩ = some (.int .i64 ((rd_T35 t228 x11_1).f1.f2)) ∧ w'.cell? ⟨(ad243.add ((x11_1).toNat * 5)).block, (ad243.add ((x11_1).toNat * 5)).off + 4, none⟩ = some (.int .i64 ((rd_T35 t228 x11_1).f1.f3)) ∧ w'.cell? (ad233.add ((x11_1).toNat * 2)) = some (.string ((rd_T30 t225 x11_1).f0)) ∧ w'.cell? ⟨(ad233.add ((x11_1).toNat * 2)).block, (ad233.add ((x11_1).toNat * 2)).off + 1, none⟩ = some (.string ((rd_T30 t225 x11_1).f1)) ∧ w'.cell? (ad243.add ((x11_1).toNat * 5)) = some (.string ((rd_T35 t228 x11_1).f0)) ∧ w'.cell? ⟨(ad243.add ((x11_1).toNat * 5)).block, (ad243.add ((x11_1).toNat * 5)).off + 1, none⟩ = some (.bool ((rd_T35 t228 x11_1).f1.f0)) ∧ w'.cell? ⟨(ad243.add ((x11_1).toNat * 5)).block, (ad243.add ((x11_1).toNat * 5)).off + 2, none⟩ = some (.string ((rd_T35 t228 x11_1).f1.f1)) ∧ w'.cell? ⟨(ad243.add ((x11_1).toNat * 5)).block, (ad243.add ((x11_1).toNat * 5)).off + 3, none⟩ = some (.int .i64 ((rd_T35 t228 x11_1).f1.f2)) ∧ w'.cell? ⟨(ad243.add ((x11_1).toNat * 5)).block, (ad243.add ((x11_1).toNat * 5)).off + 4, none⟩ = some (.int .i64 ((rd_T35 t228 x11_1).f1.f3))) (ds := []) #[false, false, false, false, false, false, false, false, false, false, false, false, false, false, false, false, false, false, false, false, false, false, false, false, false] (by kernel_rfl) rfl rfl ⟨(blk_cell BK234.out 0).trans rfl, (blk_cell BK234.out 1).trans rfl, (blk_cell BK234.out 2).trans rfl, (blk_cell BK234.out 3).trans rfl, hx243_0, hx243_1, hx243_2, hx243_3, hx243_4, hx244_0, hx244_1, hx245_0, hx245_1, hx245_2, hx245_3, hx245_4⟩ (fun hHeld => ?_); refine with_tabW withylaw16_PackPages.tab14 withylaw16_PackPages.bits14 (fun HT_ HW_ => ?_)
                      generalize w33.drew = w34 at HO_0 HO_9 BK234 HB hx243_0 hx243_1 hx243_2 hx243_3 hx243_4 hx244_0 hx244_1 hx245_0 hx245_1 hx245_2 hx245_3 hx245_4 hHeld ⊢
                      refine pure_ (i := 0) (N := some 73) (v := ?_) (a' := ?_) #[true, false, false, false, false, false, false, false, false, false, false, false, false, false, false, false, false, false, false, false, false, false, false, false, false] rfl rfl (any_of HT_.out (by kernel_rfl)) (fun _ _ _ h => h) (Or.inl ⟨by rfl, ?_⟩) ?_ ?_
                      rotate_left
                      · intro w'
                        go_simp
                        with_reducible rfl
                      rotate_left
                      · simp only [Act.put, List.setIfInBounds_toArray, List.set_cons_zero, List.set_cons_succ, i64_w, i32_w]
                        rfl
                      refine pure_ (i := 1) (N := some 74) (v := ?_) (a' := ?_) #[true, true, false, false, false, false, false, false, false, false, false, false, false, false, false, false, false, false, false, false, false, false, false, false, false] rfl rfl (any_of HT_.out (by kernel_rfl)) (fun _ _ _ h => h) (Or.inl ⟨by rfl, ?_⟩) ?_ ?_
                      rotate_left
                      · intro w'
                        go_simp
                        with_reducible rfl
                      rotate_left
                      · simp only [Act.put, List.setIfInBounds_toArray, List.set_cons_zero, List.set_cons_succ, i64_w, i32_w]
                        rfl
                      refine pure_ (i := 2) (N := some 75) (v := ?_) (a' := ?_) #[true, true, true, false, false, false, false, false, false, false, false, false, false, false, false, false, false, false, false, false, false, false, false, false, false] rfl rfl (any_of HT_.out (by kernel_rfl)) (fun _ _ _ h => h) (Or.inl ⟨by rfl, ?_⟩) ?_ ?_
                      rotate_left
                      · intro w'
                        go_simp
                        with_reducible rfl
                      rotate_left
                      · simp only [Act.put, List.setIfInBounds_toArray, List.set_cons_zero, List.set_cons_succ, i64_w, i32_w]
                        rfl
                      refine pure_ (i := 3) (N := some 76) (v := ?_) (a' := ?_) #[true, true, true, true, false, false, false, false, false, false, false, false, false, false, false, false, false, false, false, false, false, false, false, false, false] rfl rfl (any_of HT_.out (by kernel_rfl)) (fun _ _ _ h => h) (Or.inl ⟨by rfl, ?_⟩) ?_ ?_
                      rotate_left
                      · intro w'
                        go_simp
                        with_reducible rfl
                      rotate_left
                      · simp only [Act.put, List.setIfInBounds_toArray, List.set_cons_zero, List.set_cons_succ, i64_w, i32_w]
                        rfl
                      refine pure_ (i := 5) (N := some 78) (v := ?_) (a' := ?_) #[true, true, true, true, false, true, false, false, false, false, false, false, false, false, false, false, false, false, false, false, false, false, false, false, false] rfl rfl (any_of HT_.out (by kernel_rfl)) (fun _ _ _ h => h) (Or.inl ⟨by rfl, ?_⟩) ?_ ?_
                      rotate_left
                      · intro w'
                        go_simp
                        with_reducible rfl
                      rotate_left
                      · simp only [Act.put, List.setIfInBounds_toArray, List.set_cons_zero, List.set_cons_succ, i64_w, i32_w]
                        rfl
                      refine pure_ (i := 6) (N := some 79) (v := ?_) (a' := ?_) #[true, true, true, true, false, true, true, false, false, false, false, false, false, false, false, false, false, false, false, false, false, false, false, false, false] rfl rfl (any_of HT_.out (by kernel_rfl)) (fun _ _ _ h => h) (Or.inl ⟨by rfl, ?_⟩) ?_ ?_
                      rotate_left
                      · intro w'
                        go_simp
                        with_reducible rfl
                      rotate_left
                      · simp only [Act.put, List.setIfInBounds_toArray, List.set_cons_zero, List.set_cons_succ, i64_w, i32_w]
                        rfl
                      refine pure_ (i := 7) (N := some 80) (v := ?_) (a' := ?_) #[true, true, true, true, false, true, true, true, false, false, false, false, false, false, false, false, false, false, false, false, false, false, false, false, false] rfl rfl (any_of HT_.out (by kernel_rfl)) (fun _ _ _ h => h) (Or.inl ⟨by rfl, ?_⟩) ?_ ?_
                      rotate_left
                      · intro w'
                        go_simp
                        with_reducible rfl
                      rotate_left
                      · simp only [Act.put, List.setIfInBounds_toArray, List.set_cons_zero, List.set_cons_succ, i64_w, i32_w]
                        rfl
                      refine pure_ (i := 8) (N := some 81) (v := ?_) (a' := ?_) #[true, true, true, true, false, true, true, true, true, false, false, false, false, false, false, false, false, false, false, false, false, false, false, false, false] rfl rfl (any_of HT_.out (by kernel_rfl)) (fun _ _ _ h => h) (Or.inl ⟨by rfl, ?_⟩) ?_ ?_
                      rotate_left
                      · intro w'
                        go_simp
                        with_reducible rfl
                      rotate_left
                      · simp only [Act.put, List.setIfInBounds_toArray, List.set_cons_zero, List.set_cons_succ, i64_w, i32_w]
                        rfl
                      refine take_ (i := 4) (N := some 77) (v := ?_) (a' := ?_) #[true, true, true, true, true, true, true, true, true, false, false, false, false, false, false, false, false, false, false, false, false, false, false, false, false] rfl rfl (take_ofW HT_.out HW_.out (by kernel_rfl)) (fun _ _ _ h => h) (Or.inl ⟨by rfl, ?_⟩) hHeld ?_ ?_
                      rotate_left
                      · rintro w' ⟨s0, s1, s2, s3, s4, s5, s6, s7, s8, s9, s10, s11, s12, s13, s14, s15⟩
                        go_simp
                        with_reducible rfl
                      rotate_left
                      · simp only [Act.put, List.setIfInBounds_toArray, List.set_cons_zero, List.set_cons_succ, i64_w, i32_w]
                        rfl
                      refine take_ (i := 9) (N := some 82) (v := ?_) (a' := ?_) #[true, true, true, true, true, true, true, true, true, true, false, false, false, false, false, false, false, false, false, false, false, false, false, false, false] rfl rfl (take_ofW HT_.out HW_.out (by kernel_rfl)) (fun _ _ _ h => h) (Or.inl ⟨by rfl, ?_⟩) hHeld ?_ ?_
                      rotate_left
                      · rintro w' ⟨s0, s1, s2, s3, s4, s5, s6, s7, s8, s9, s10, s11, s12, s13, s14, s15⟩
                        go_simp
                        with_reducible rfl
                      rotate_left
                      · simp only [Act.put, List.setIfInBounds_toArray, List.set_cons_zero, List.set_cons_succ, i64_w, i32_w]
                        rfl
                      refine pure_ (i := 10) (N := some 83) (v := ?_) (a' := ?_) #[true, true, true, true, true, true, true, true, true, true, true, false, false, false, false, false, false, false, false, false, false, false, false, false, false] rfl rfl (any_of HT_.out (by kernel_rfl)) (fun _ _ _ h => h) (Or.inl ⟨by rfl, ?_⟩) ?_ ?_
                      rotate_left
                      · intro w'
                        go_simp
                        with_reducible rfl
                      rotate_left
                      · simp only [Act.put, List.setIfInBounds_toArray, List.set_cons_zero, List.set_cons_succ, i64_w, i32_w]
                        rfl
                      refine pure_ (i := 11) (N := some 84) (v := ?_) (a' := ?_) #[true, true, true, true, true, true, true, true, true, true, true, true, false, false, false, false, false, false, false, false, false, false, false, false, false] rfl rfl (any_of HT_.out (by kernel_rfl)) (fun _ _ _ h => h) (Or.inl ⟨by rfl, ?_⟩) ?_ ?_
                      rotate_left
                      · intro w'
                        go_simp
                        with_reducible rfl
                      rotate_left
                      · simp only [Act.put, List.setIfInBounds_toArray, List.set_cons_zero, List.set_cons_succ, i64_w, i32_w]
                        rfl
                      refine pure_ (i := 12) (N := some 85) (v := ?_) (a' := ?_) #[true, true, true, true, true, true, true, true, true, true, true, true, true, false, false, false, false, false, false, false, false, false, false, false, false] rfl rfl (any_of HT_.out (by kernel_rfl)) (fun _ _ _ h => h) (Or.inl ⟨by rfl, ?_⟩) ?_ ?_
                      rotate_left
                      · intro w'
                        go_simp
                        with_reducible rfl
                      rotate_left
                      · simp only [Act.put, List.setIfInBounds_toArray, List.set_cons_zero, List.set_cons_succ, i64_w, i32_w]
                        rfl
                      refine pure_ (i := 13) (N := some 86) (v := ?_) (a' := ?_) #[true, true, true, true, true, true, true, true, true, true, true, true, true, true, false, false, false, false, false, false, false, false, false, false, false] rfl rfl (any_of HT_.out (by kernel_rfl)) (fun _ _ _ h => h) (Or.inl ⟨by rfl, ?_⟩) ?_ ?_
                      rotate_left
                      · intro w'
                        go_simp
                        with_reducible rfl
                      rotate_left
                      · simp only [Act.put, List.setIfInBounds_toArray, List.set_cons_zero, List.set_cons_succ, i64_w, i32_w]
                        rfl
                      refine pure_ (i := 14) (N := some 87) (v := ?_) (a' := ?_) #[true, true, true, true, true, true, true, true, true, true, true, true, true, true, true, false, false, false, false, false, false, false, false, false, false] rfl rfl (any_of HT_.out (by kernel_rfl)) (fun _ _ _ h => h) (Or.inl ⟨by rfl, ?_⟩) ?_ ?_
                      rotate_left
                      · intro w'
                        go_simp
                        with_reducible rfl
                      rotate_left
                      · simp only [Act.put, List.setIfInBounds_toArray, List.set_cons_zero, List.set_cons_succ, i64_w, i32_w]
                        rfl
                      refine pure_ (i := 15) (N := some 88) (v := ?_) (a' := ?_) #[true, true, true, true, true, true, true, true, true, true, true, true, true, true, true, true, false, false, false, false, false, false, false, false, false] rfl rfl (any_of HT_.out (by kernel_rfl)) (fun _ _ _ h => h) (Or.inl ⟨by rfl, ?_⟩) ?_ ?_
                      rotate_left
                      · intro w'
                        go_simp
                        with_reducible rfl
                      rotate_left
                      · simp only [Act.put, List.setIfInBounds_toArray, List.set_cons_zero, List.set_cons_succ, i64_w, i32_w]
                        rfl
                      refine take_ (i := 16) (N := some 89) (v := ?_) (a' := ?_) #[true, true, true, true, true, true, true, true, true, true, true, true, true, true, true, true, true, false, false, false, false, false, false, false, false] rfl rfl (take_ofW HT_.out HW_.out (by kernel_rfl)) (fun _ _ _ h => h) (Or.inl ⟨by rfl, ?_⟩) hHeld ?_ ?_
                      rotate_left
                      · rintro w' ⟨s0, s1, s2, s3, s4, s5, s6, s7, s8, s9, s10, s11, s12, s13, s14, s15⟩
                        go_simp
                        with_reducible rfl
                      rotate_left
                      · simp only [Act.put, List.setIfInBounds_toArray, List.set_cons_zero, List.set_cons_succ, i64_w, i32_w]
                        rfl
                      refine take_ (i := 17) (N := some 90) (v := ?_) (a' := ?_) #[true, true, true, true, true, true, true, true, true, true, true, true, true, true, true, true, true, true, false, false, false, false, false, false, false] rfl rfl (take_ofW HT_.out HW_.out (by kernel_rfl)) (fun _ _ _ h => h) (Or.inl ⟨by rfl, ?_⟩) hHeld ?_ ?_
                      rotate_left
                      · rintro w' ⟨s0, s1, s2, s3, s4, s5, s6, s7, s8, s9, s10, s11, s12, s13, s14, s15⟩
                        go_simp
                        with_reducible rfl
                      rotate_left
                      · simp only [Act.put, List.setIfInBounds_toArray, List.set_cons_zero, List.set_cons_succ, i64_w, i32_w]
                        rfl
                      refine pure_ (i := 18) (N := some 91) (v := ?_) (a' := ?_) #[true, true, true, true, true, true, true, true, true, true, true, true, true, true, true, true, true, true, true, false, false, false, false, false, false] rfl rfl (any_of HT_.out (by kernel_rfl)) (fun _ _ _ h => h) (Or.inl ⟨by rfl, ?_⟩) ?_ ?_
                      rotate_left
                      · intro w'
                        go_simp
                        with_reducible rfl
                      rotate_left
                      · simp only [Act.put, List.setIfInBounds_toArray, List.set_cons_zero, List.set_cons_succ, i64_w, i32_w]
                        rfl
                      refine pure_ (i := 19) (N := some 92) (v := ?_) (a' := ?_) #[true, true, true, true, true, true, true, true, true, true, true, true, true, true, true, true, true, true, true, true, false, false, false, false, false] rfl rfl (any_of HT_.out (by kernel_rfl)) (fun _ _ _ h => h) (Or.inl ⟨by rfl, ?_⟩) ?_ ?_
                      rotate_left
                      · intro w'
                        go_simp
                        with_reducible rfl
                      rotate_left
                      · simp only [Act.put, List.setIfInBounds_toArray, List.set_cons_zero, List.set_cons_succ, i64_w, i32_w]
                        rfl
                      refine pure_ (i := 20) (N := some 93) (v := ?_) (a' := ?_) #[true, true, true, true, true, true, true, true, true, true, true, true, true, true, true, true, true, true, true, true, true, false, false, false, false] rfl rfl (any_of HT_.out (by kernel_rfl)) (fun _ _ _ h => h) (Or.inl ⟨by rfl, ?_⟩) ?_ ?_
                      rotate_left
                      · intro w'
                        go_simp
                        with_reducible rfl
                      rotate_left
                      · simp only [Act.put, List.setIfInBounds_toArray, List.set_cons_zero, List.set_cons_succ, i64_w, i32_w]
                        rfl
                      refine take_ (i := 21) (N := some 94) (v := ?_) (a' := ?_) #[true, true, true, true, true, true, true, true, true, true, true, true, true, true, true, true, true, true, true, true, true, true, false, false, false] rfl rfl (take_ofW HT_.out HW_.out (by kernel_rfl)) (fun _ _ _ h => h) (Or.inl ⟨by rfl, ?_⟩) hHeld ?_ ?_
                      rotate_left
                      · rintro w' ⟨s0, s1, s2, s3, s4, s5, s6, s7, s8, s9, s10, s11, s12, s13, s14, s15⟩
                        go_simp
                        with_reducible rfl
                      rotate_left
                      · simp only [Act.put, List.setIfInBounds_toArray, List.set_cons_zero, List.set_cons_succ, i64_w, i32_w]
                        rfl
                      refine one_ (i := 22) (N := some 95) #[true, true, true, true, true, true, true, true, true, true, true, true, true, true, true, true, true, true, true, true, true, true, true, false, false] rfl rfl (one_of HT_.out (by kernel_rfl)) (by decide) (fun K hK => ?_)
                      refine goes_ Try.func11 (by kernel_rfl) rfl #[.agg #[.bool false, .string ((rd_T30 t225 x11_1).f1), .int .i64 0, .int .i64 0]] (by rfl) rfl rfl (by (try simp only [List.map_toArray, List.map_cons, List.map_nil]); first | done | rfl | (simp only [List.length_drop, List.length_take]; rfl)) ?_
                      with_reducible refine (cell_Right.calls false ((rd_T30 t225 x11_1).f1) 0 0 true _ A29.out).mono ?_
                      rintro e w35 ⟨rfl, hb⟩
                      have HS4_ := (hb.cell (World.block_lt_of_cell? _ _ (hHeld.2.2.2.2.1))).trans (hHeld.2.2.2.2.1)
                      have HS5_ := (hb.cell (World.block_lt_of_cell? _ _ (hHeld.2.2.2.2.2.1))).trans (hHeld.2.2.2.2.2.1)
                      have HS6_ := (hb.cell (World.block_lt_of_cell? _ _ (hHeld.2.2.2.2.2.2.1))).trans (hHeld.2.2.2.2.2.2.1)
                      have HS7_ := (hb.cell (World.block_lt_of_cell? _ _ (hHeld.2.2.2.2.2.2.2.1))).trans (hHeld.2.2.2.2.2.2.2.1)
                      have HS8_ := (hb.cell (World.block_lt_of_cell? _ _ (hHeld.2.2.2.2.2.2.2.2.1))).trans (hHeld.2.2.2.2.2.2.2.2.1)
                      have HS9_ := (hb.cell (World.block_lt_of_cell? _ _ (hHeld.2.2.2.2.2.2.2.2.2.1))).trans (hHeld.2.2.2.2.2.2.2.2.2.1)
                      have HS10_ := (hb.cell (World.block_lt_of_cell? _ _ (hHeld.2.2.2.2.2.2.2.2.2.2.1))).trans (hHeld.2.2.2.2.2.2.2.2.2.2.1)
                      have HS11_ := (hb.cell (World.block_lt_of_cell? _ _ (hHeld.2.2.2.2.2.2.2.2.2.2.2.1))).trans (hHeld.2.2.2.2.2.2.2.2.2.2.2.1)
                      have HS12_ := (hb.cell (World.block_lt_of_cell? _ _ (hHeld.2.2.2.2.2.2.2.2.2.2.2.2.1))).trans (hHeld.2.2.2.2.2.2.2.2.2.2.2.2.1)
                      have HS13_ := (hb.cell (World.block_lt_of_cell? _ _ (hHeld.2.2.2.2.2.2.2.2.2.2.2.2.2.1))).trans (hHeld.2.2.2.2.2.2.2.2.2.2.2.2.2.1)
                      have HS14_ := (hb.cell (World.block_lt_of_cell? _ _ (hHeld.2.2.2.2.2.2.2.2.2.2.2.2.2.2.1))).trans (hHeld.2.2.2.2.2.2.2.2.2.2.2.2.2.2.1)
                      have HS15_ := (hb.cell (World.block_lt_of_cell? _ _ (hHeld.2.2.2.2.2.2.2.2.2.2.2.2.2.2.2))).trans (hHeld.2.2.2.2.2.2.2.2.2.2.2.2.2.2.2)
                      refine ⟨_, rfl, ?_⟩
                      have n0_ := Aside0.mk (Kd.R_below (by (with_reducible repeat (first | apply Kd.R_alloc | apply Kd.R_drewN | apply Kd.R_drew)); exact HO_0.out) hb)
                      have n1_ := Aside0.mk (Kd.R_below (by (with_reducible repeat (first | apply Kd.R_alloc | apply Kd.R_drewN | apply Kd.R_drew)); exact HO_9.out) hb)
                      have n2_ := Aside0.mk (blk_below (g := gb234) (o := .cells #[.bool false, .string ((rd_T30 t225 x11_1).f1), .int .i64 0, .int .i64 0] 32 (0, 0)) (by (with_reducible repeat (first | refine blk_drewN ?_ _ | refine blk_drew ?_ | refine blk_alloc ?_ _)); exact BK234.out) hb)
                      have n3_ := Aside0.mk (below_step (by repeat (first | (with_reducible first | exact HB.out | apply below_alloc | apply pw_below_drewN | apply below_drew1 | refine below_set ?_ GE234.out) | exact HB.out)) hb)
                      clear HO_0
                      clear HO_9
                      clear BK234
                      clear HB
                      have HO_0 := n0_
                      have HO_9 := n1_
                      have BK234 := n2_
                      have HB := n3_
                      clear n0_ n1_ n2_ n3_
                      (try clear hb)
                      (try clear hb2)
                      (try clear hk)
                      (try clear hi)
                      refine hK.out _ _ ⟨(blk_cell BK234.out 0).trans rfl, (blk_cell BK234.out 1).trans rfl, (blk_cell BK234.out 2).trans rfl, (blk_cell BK234.out 3).trans rfl, HS4_, HS5_, HS6_, HS7_, HS8_, HS9_, HS10_, HS11_, HS12_, HS13_, HS14_, HS15_⟩ (fun hHeld => ?_)
                      clear hK K
                      refine norm_ (a' := ?_) ?_ ?_
                      rotate_left
                      · show Act.put _ (some 95) _ = _
                        simp only [Act.put, List.setIfInBounds_toArray, List.set_cons_zero, List.set_cons_succ, i64_w, i32_w]
                        rfl
                      refine pure_ (i := 23) (N := some 96) (v := ?_) (a' := ?_) #[true, true, true, true, true, true, true, true, true, true, true, true, true, true, true, true, true, true, true, true, true, true, true, true, false] rfl rfl (any_of HT_.out (by kernel_rfl)) (fun _ _ _ h => h) (Or.inl ⟨by rfl, ?_⟩) ?_ ?_
                      rotate_left
                      · intro w'
                        go_simp
                        with_reducible rfl
                      rotate_left
                      · simp only [Act.put, List.setIfInBounds_toArray, List.set_cons_zero, List.set_cons_succ, i64_w, i32_w]
                        rfl
                      refine pure_ (i := 24) (N := some 97) (v := ?_) (a' := ?_) #[true, true, true, true, true, true, true, true, true, true, true, true, true, true, true, true, true, true, true, true, true, true, true, true, true] rfl rfl (any_of HT_.out (by kernel_rfl)) (fun _ _ _ h => h) (Or.inl ⟨by rfl, ?_⟩) ?_ ?_
                      rotate_left
                      · intro w'
                        go_simp
                        with_reducible rfl
                      rotate_left
                      · simp only [Act.put, List.setIfInBounds_toArray, List.set_cons_zero, List.set_cons_succ, i64_w, i32_w]
                        rfl
                      refine done_ (done_of HT_.out (by kernel_rfl)) ?_
                      try go_wp2
                      go_roundg k1
                      case measure => have := HK1.out; omega
                      case rel => exact ⟨(x8_1), (wrap64 (x11_1 + 1)), (by first | rfl | (simp; done) | (simp [*]; done)), (by first | rfl | (simp; done) | (simp [*]; done)), H', ⟨by have := HK1.out; omega⟩, ⟨by (with_reducible repeat (first | apply Kd.R_alloc | apply Kd.R_drewN | apply Kd.R_drew)); exact HO_0.out⟩, ⟨by (with_reducible repeat (first | apply Kd.R_alloc | apply Kd.R_drewN | apply Kd.R_drew)); exact HO_9.out⟩, ⟨by repeat (first | (with_reducible first | exact HB.out | apply below_alloc | apply pw_below_drewN | apply below_drew1 | refine below_set ?_ GE234.out) | exact HB.out)⟩⟩
                    · replace c30 := Bool.eq_false_iff.mpr c30
                      subst c30
                      have H1 : (none) = some r := by rw [if_neg (show ¬ (false = true) by decide)] at H; exact H
                      clear H
                      have H := H1
                      clear H1
                      exact absurd H (by simp)
                · rw [if_neg c27] at H
                  have c27b0 : (((rd_T35 t228 x11_1).f0).toList == ((rd_T30 t225 x11_1).f0).toList) = false := beq_eq_false_iff_ne.mpr c27
                  have c27b1 : (((rd_T35 t228 x11_1).f0).toList != ((rd_T30 t225 x11_1).f0).toList) = true := bne_iff_ne.mpr c27
                  exact absurd H (by simp)
              · rw [if_neg c26] at H
                exact absurd H (by simp)
          · rw [if_neg c13] at H
            exact absurd H (by simp)
        · rw [if_neg c12] at H
          have c12b0 : decide (x11_1 < (t225.length : Int)) = false := decide_eq_false c12
          clear c12
          by_cases c36 : t229 = x8_1
          · rw [if_pos c36] at H
            have c36b0 : (t229 == x8_1) = true := beq_iff_eq.mpr c36
            have c36b1 : (t229 != x8_1) = false := bne_eq_false_iff_eq.mpr c36
            clear c36
            replace H := Option.bind_eq_some_iff.mp H
            obtain ⟨t232, A370, H⟩ := H
            replace H : (some t232) = some r := H
            have A37 := Aside0.mk A370
            clear A370
            obtain rfl := Option.some.inj H
            go_wp2_with (first | (go_at_call 12; (with_reducible refine (withylaw16_fixed.calls  t232 _ A37.out).mono ?_); rintro e w38 ⟨rfl, hb⟩; have n0_ := Aside0.mk (Kd.R_below (by (with_reducible repeat (first | apply Kd.R_alloc | apply Kd.R_drewN | apply Kd.R_drew)); exact HO_0.out) hb); have n1_ := Aside0.mk (Kd.R_below (by (with_reducible repeat (first | apply Kd.R_alloc | apply Kd.R_drewN | apply Kd.R_drew)); exact HO_9.out) hb); have n2_ := Aside0.mk (below_step (by repeat (first | (with_reducible first | exact HB.out | apply below_alloc | apply pw_below_drewN | apply below_drew1) | exact HB.out)) hb); clear HO_0; clear HO_9; clear HB; have HO_0 := n0_; have HO_9 := n1_; have HB := n2_; clear n0_ n1_ n2_; (try clear hb); (try clear hb2); (try clear hk); (try clear hi)))
            go_ret
            exact ⟨by first | rfl | (simp [errW_none, errW_some] <;> rfl) | (simp [*, errW_none, errW_some] <;> rfl), by repeat (first | (with_reducible first | exact HB.out | apply below_alloc | apply pw_below_drewN | apply below_drew1) | exact HB.out)⟩
          · rw [if_neg c36] at H
            exact absurd H (by simp)
  · rw [if_neg c7] at H
    exact absurd H (by simp)

end Go.Proofs.Ytmheajenlhlbhaa.X

-- Plain law of PackPages: true of every input.
namespace Go.Proofs.Ytmheajenlhlbhaa.X
open Go.RowKit Go.Proofs.YtmheajenlhlbhaaW.PrintWords Go.Proofs.YtmheajenlhlbhaaW.PrintLast Go.Proofs.YtmheajenlhlbhaaW.PrintMore
def P4 (p : Int) : Prop := p = 128 ∨ p = 256 ∨ p = 512 ∨ p = 1024
theorem pagesI_small (n p : Int) (hn : 0 ≤ n ∧ n ≤ 700) (hp : P4 p) : 0 ≤ pagesI n p ∧ pagesI n p ≤ 7 := by
  unfold pagesI
  rw [show mx n 0 = n by unfold mx; split <;> omega]
  unfold mn
  rcases hp with rfl | rfl | rfl | rfl <;> split <;> omega
theorem refPages_ok (n p : Int) (hn : 1 ≤ n ∧ n ≤ 700) (hp : P4 p) : withyref12_Pages.f n p = some (pagesI n p) := by
  unfold withyref12_Pages.f pagesI
  rw [show mx n 0 = n by unfold mx; split <;> omega, if_neg (by omega), w64i (p - 16) (by rcases hp with rfl | rfl | rfl | rfl <;> omega), if_neg (by rcases hp with rfl | rfl | rfl | rfl <;> omega), w64i (n - 1) (by omega),
    Int.tdiv_eq_ediv_of_nonneg (by omega)]
  unfold mn
  have hb : 0 ≤ (n - 1) / (p - 16) ∧ (n - 1) / (p - 16) ≤ 700 := by
    rcases hp with rfl | rfl | rfl | rfl <;> omega
  rw [w64i ((n - 1) / (p - 16)) (by omega), w64i ((n - 1) / (p - 16) + 1) (by omega)]
  congr 1
  rcases hp with rfl | rfl | rfl | rfl <;> split <;> omega
theorem itemsN_get (p : Int) : ∀ (l : List S30) (at_ : Int) (a : Nat) (h : a < l.length) (h' : a < (itemsN p at_ l).length), (itemsN p at_ l)[a] = itemOf p (atN p at_ (l.take a)) l[a]
  | x :: r, at_, 0, _, _ => by simp [itemsN, atN]
  | x :: r, at_, a + 1, h, h' => by
    simp only [itemsN, List.getElem_cons_succ, List.take_succ_cons, atN]
    exact itemsN_get p r _ a _ _
theorem atN_succ (p : Int) : ∀ (l : List S30) (at_ : Int) (a : Nat) (h : a < l.length), atN p at_ (l.take (a + 1)) = stepAt p (atN p at_ (l.take a)) l[a]
  | x :: r, at_, 0, _ => by simp [atN]
  | x :: r, at_, a + 1, h => by
    have := atN_succ p r (stepAt p at_ x) a (by simpa using h)
    simpa [atN] using this
theorem stepAt_small (p a : Int) (x : S30) (hx : x.f1.size ≤ 700) (hp : P4 p) : a ≤ stepAt p a x ∧ stepAt p a x ≤ a + 7 := by
  unfold stepAt
  split
  · have := pagesI_small (x.f1.size : Int) p (by omega) hp; omega
  · omega
theorem atN_bound (p : Int) (hp : P4 p) (l : List S30) (hl : Cutted l) (at_ : Int) : ∀ a, a ≤ l.length → at_ ≤ atN p at_ (l.take a) ∧ atN p at_ (l.take a) ≤ at_ + 7 * (a : Int)
  | 0, _ => by simp [atN]
  | a + 1, h => by
    have h1 := atN_bound p hp l hl at_ a (by omega)
    rw [atN_succ p l at_ a (by omega)]
    have h2 := stepAt_small p (atN p at_ (l.take a)) l[a] (hl.2 _ (List.getElem_mem (by omega))).2 hp
    omega
theorem PackPages_l (p at_ : Int) (l : List S30) (hp : P4 p) (hl : Cutted l) (hat : 1 ≤ at_ ∧ at_ ≤ 1000) : ∀ (k a : Nat), l.length + 1 ≤ a + k → a ≤ l.length →
    withylaw16_PackPages.l0 k l p (atN p at_ (l.take a)) (itemsN p at_ l) (atN p at_ l) (a : Int) = some true
  | 0, a, h, h1 => by omega
  | k + 1, a, h, h1 => by
    have hl40 := hl.1
    have hlen := itemsN_length p l at_
    have hb := atN_bound p hp l hl at_ a h1
    have hp' : 128 ≤ p ∧ p ≤ 1024 := by rcases hp with rfl | rfl | rfl | rfl <;> omega
    have hq : Int.tdiv p 4 ≤ 256 ∧ 1 ≤ Int.tdiv p 4 := by rw [Int.tdiv_eq_ediv_of_nonneg (by omega)]; omega
    have hw : wrap64 (Int.tdiv p 4) = Int.tdiv p 4 := w64i _ (by omega)
    unfold withylaw16_PackPages.l0
    by_cases c : a < l.length
    · have hx := (hl.2 _ (List.getElem_mem c)).2
      have hs := atN_succ p l at_ a c
      have ih := PackPages_l p at_ l hp hl hat k (a + 1) (by omega) (by omega)
      rw [hs] at ih
      rw [if_pos (by omega), if_pos (by omega), rd30 c, hw, w64n a (by omega), rd35 (show a < (itemsN p at_ l).length by omega), itemsN_get p l at_ a c]
      generalize atN p at_ (l.take a) = t at hb ih ⊢
      by_cases d : (l[a].f1.size : Int) > Int.tdiv p 4
      · have hpg := pagesI_small (l[a].f1.size : Int) p (by omega) hp
        rw [if_pos d, refPages_ok _ p (by omega) hp, Option.bind_some, if_pos (by omega), if_pos (by rw [itemOf_key])]
        have hi : itemOf p t l[a] = ⟨l[a].f0, ⟨true, ⟨#[]⟩, (l[a].f1.size : Int), t⟩⟩ := by unfold itemOf; rw [if_pos d]
        have hst : stepAt p t l[a] = t + pagesI (l[a].f1.size : Int) p := by unfold stepAt; rw [if_pos d]
        rw [hi, if_neg (by simp)]
        rw [show cell_Right.f true (⟨#[]⟩ : ByteArray) (l[a].f1.size : Int) t = some true by
          unfold cell_Right.f cell_page.f
          rw [if_pos rfl, if_pos (by decide +kernel), if_pos (by omega), if_pos (by omega), if_pos (by omega), Option.bind_some, show decide (t < 4096) = true by simp; omega]]
        rw [Option.bind_some, if_pos rfl, w64i (t + pagesI (l[a].f1.size : Int) p) (by omega), ← hst]
        exact ih
      · rw [if_neg d, if_pos (by omega), if_pos (by rw [itemOf_key])]
        have hi : itemOf p t l[a] = ⟨l[a].f0, ⟨false, l[a].f1, 0, 0⟩⟩ := by unfold itemOf; rw [if_neg d]
        have hst : stepAt p t l[a] = t := by unfold stepAt; rw [if_neg d]
        rw [hi, if_neg (by simp)]
        rw [show cell_Right.f false l[a].f1 0 0 = some true by
          unfold cell_Right.f
          rw [if_neg (by simp), if_pos rfl, if_pos rfl, show decide ((l[a].f1.size : Int) ≤ 256) = true by simp; omega]]
        rw [Option.bind_some, if_pos rfl]
        rw [hst] at ih
        exact ih
    · have : a = l.length := by omega
      subst this
      rw [if_neg (by omega), List.take_length, if_pos rfl]
      rfl
theorem PackPages_true (l : List S30) (p t : Int) (ht : 0 ≤ t ∧ t ≤ 65535) : withylaw16_PackPages.f 200 l p t = some true := by
  obtain ⟨q, hq, hq4⟩ := Size_ok p
  have hq' : 128 ≤ q ∧ q ≤ 1024 := by omega
  obtain ⟨r, hr, hc, _⟩ := Rise_ok 200 l q (by omega) (by omega)
  have hm : wrap64 (1 + Int.tmod (wrap64 t) 1000) = 1 + t % 1000 := by
    rw [w64i t (by omega), Int.tmod_eq_emod_of_nonneg ht.1, w64i _ (by omega)]
  unfold withylaw16_PackPages.f
  rw [hq, Option.bind_some, hr, Option.bind_some, hm, Items_ok 200 r _ q (by omega) hc (by omega) (by omega), Option.bind_some, if_pos (by rw [itemsN_length])]
  have := PackPages_l q (1 + t % 1000) r hq4 hc (by omega) 200 0 (by have := hc.1; omega) (by omega)
  simpa [atN] using this
end Go.Proofs.Ytmheajenlhlbhaa.X

-- The row of PackPages: its statement out of the walk and the plain law.
namespace Go.Proofs.Ytmheajenlhlbhaa.packPages
open Go.ChangeShapes Go.WideShapes Go.ChangeAt Go.RowKit
open Go.ChangeMaps (open_string shut_string)
theorem own : ownKnob Try.prog.godebug = none := by kernel_rfl
theorem laidOut : laidOutB Try.prog = true := by kernel_rfl
set_option maxRecDepth 100000 in
theorem lifted (os : Os) (started : os.Started) (H : Type) (enc : TypeId × Value → H) :
    ReturnsInHanded {} Try.checked os 3 .any (Rows.packPagesSpec.pre6 enc Try.prog Try.f3 Rows.packPagesRow.domain false) (Rows.packPagesSpec.post enc Try.prog Try.f3 false true false false) := by
  refine returnsInHanded_of_change_sized (C := Try.checked) own started (by kernel_rfl) Try.func3
    (ChangeSpec.witness6 (enc := enc) (C := Try.checked) false ⟨#[], #[.slice none 0 0, .int .i64 0, .int .u16 0], []⟩ 8 (by kernel_rfl) (by kernel_rfl) (by kernel_rfl) (by kernel_rfl)) ?_
  intro W base args ds gs before hval0 hW hcnd hsz0 _
  have hsz : (DataW.weightsEach Try.prog (Try.f3.params.toList ++ Rows.packPagesSpec.plain.varTypes Try.prog) (ds ++ gs)).all (· ≤ reachBytes) = true := hsz0
  have hval : ∀ (j : Nat) t v, Try.f3.params[j]? = some t → args[j]? = some v → Value.okWide Try.prog W .any base t v := hval0
  have hW' := hW
  obtain ⟨p, q, hA0, hV, rfl, hfz, hnd⟩ := hW
  have hA : DataW.TrodAll enc Try.prog W 0 (fun _ => true) true Try.f3.params.toList args.toList ds p := hA0
  rw [Try.params3] at hA hval hsz
  obtain ⟨v0, vs0, d0, ds0, p0, q0, hargs, rfl, rfl, h0, r0⟩ := trodAll_cons hA
  obtain ⟨v1, vs1, d1, ds1, p1, q1, rfl, rfl, rfl, h1, r1⟩ := trodAll_cons r0
  obtain ⟨v2, vs2, d2, ds2, p2, q2, rfl, rfl, rfl, h2, r2⟩ := trodAll_cons r1
  obtain ⟨rfl, rfl, rfl⟩ := trodAll_nil r2
  obtain rfl : args = #[v0, v1, v2] := by cases args; simp_all
  obtain ⟨rfl, rfl⟩ := trodVars_none hV
  have k0 := h0
  have lt0 : ∀ x ∈ p0, x.block < W.heap.size := by obtain ⟨m, hm⟩ := k0; exact DataW.trod_lt m _ _ _ hm
  obtain ⟨A0, c0, l0, rfl, hC0, hc0⟩ := X.open_pairs (t := 22) hsz (j := 0) rfl rfl Try.underlying22 (okWide_slice Try.underlying22 (hval 0 22 v0 rfl rfl)) h0
  obtain ⟨a1, rfl, rfl, rfl, w1⟩ := open_int Try.underlying3 (hval 1 3 v1 rfl rfl) h1
  obtain ⟨a2, rfl, rfl, rfl, w2⟩ := open_int Try.underlying23 (hval 2 23 v2 rfl rfl) h2
  have b2 : 0 ≤ a2 ∧ a2 ≤ 65535 := by simpa [Lit.wf, IntKind.min, IntKind.max, IntKind.bits, IntKind.signed] using w2
  clear hA0 hval0 hsz0 hsz
  refine (X.withylaw16_PackPages.calls 200 A0 c0 l0 a1 a2 true W hC0 hc0 (X.PackPages_true l0 a1 a2 b2)).mono fun e W' ⟨he, bel⟩ => ?_
  subst he
  exact ⟨_, rfl, _, _, _, [], _, [], hW', trodAll_mk1 (shut_bool Try.underlying4 _), (trodAll_cons_mk (Below.trod laidOut (by kernel_rfl) (of_decide_eq_true (by kernel_rfl)) k0 bel lt0) (trodAll_cons_mk (shut_int Try.underlying3 w1) (trodAll_cons_mk (shut_int Try.underlying23 w2) trodAll_mk0))), rfl, bel.frame _, fun h => by cases h⟩
theorem over : Rows.packPagesRow.holds Try.pinned (OpenSpec.ofChange Rows.packPagesSpec) :=
  OpenClaim.holds_of_wide 3 Try.f3 rfl rfl rfl rfl rfl rfl rfl ⟨rfl, rfl, rfl, rfl, rfl⟩ rfl rfl rfl rfl rfl (by kernel_rfl) Try.func3 (by kernel_rfl)
    (of_decide_eq_true (by kernel_rfl)) (by unfold Func.isWrapper; first | (rw [if_pos (by decide +kernel)]; kernel_rfl) | (rw [if_neg (by decide +kernel)]; exact ⟨rfl, rfl⟩))
    (fun os started H enc _ => lifted os started H enc)
theorem proved : Rows.PackPagesSaid := over
#print axioms proved
end Go.Proofs.Ytmheajenlhlbhaa.packPages
namespace Go.Proofs.Ytmheajenlhlbhaa
/-- The row, under a short name, for the claim. -/
theorem packPages_holds : Rows.PackPagesSaid := packPages.proved
end Go.Proofs.Ytmheajenlhlbhaa
