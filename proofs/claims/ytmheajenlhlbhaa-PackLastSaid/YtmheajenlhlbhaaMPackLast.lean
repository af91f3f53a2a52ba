/- The law PackLast of the given program returns true for every input and leaves its arguments as they were. No conditions beyond the given statement's own. -/
import Derived.Test.YtmheajenlhlbhaaM01
import Derived.WalkKit
import Derived.ProofKit
import Derived.OpenShut
import Derived.ShutString
import Derived.ChangeOld
import Derived.Below
import Derived.SizedLaws
import Derived.Deep.SlicePairs
import Derived.Test.YtmheajenlhlbhaaM02
import Derived.Test.YtmheajenlhlbhaaM03
import Derived.Test.YtmheajenlhlbhaaM09
import Derived.Test.YtmheajenlhlbhaaM12
import Derived.Test.YtmheajenlhlbhaaM10
import Derived.Test.YtmheajenlhlbhaaRows
-- An argument of type []api.Pair, opened.
namespace Go.Proofs.Ytmheajenlhlbhaa.X
open Go.ChangeShapes Go.WideShapes Go.ChangeAt Go.RowKit Go.Deep Go.Proofs.YtmheajenlhlbhaaW.PrintWords
/-- An argument '[]api.Pair' as a row of pairs. -/
theorem open_pairs {H : Type} {enc : TypeId × Value → H} {w : World} {base : Nat} {spare : Nat → Bool} {held : Bool} {t : TypeId} {v : Value} {d : DataW H} {ps : List MemPlace} {ts : List TypeId} {ds : List (DataW H)} {j : Nat}
    (hsz : (DataW.weightsEach Try.prog ts ds).all (· ≤ reachBytes) = true) (hj : ts[j]? = some t) (hd : ds[j]? = some d) (hu : Try.prog.underlying t = some (.slice 30))
    (hv : ∃ a n c, v = .slice a n c) (h : DataW.Trod enc Try.prog w base spare held t v d ps) :
    ∃ (A : Option Addr) (c : Nat) (l : List S30), v = .slice A l.length c ∧ Kd.C k30 w A l.length l ∧ l.length ≤ c := by
  obtain ⟨a0, n0, c0, rfl⟩ := hv
  obtain ⟨fuel, hf⟩ := h
  rcases open_slice_pairs hu Try.underlying30 (by kernel_rfl) rfl rfl (by kernel_rfl) (by kernel_rfl) hf with ⟨hcs, _⟩ | ⟨a, len, cap, m, n, V0, V1, D0, D1, P0, P1, hcs, _, hl, hm, hmm, hx, hcell⟩
  · simp [Value.cells] at hcs
    obtain ⟨rfl, rfl, rfl⟩ := hcs
    exact ⟨none, 0, [], rfl, ⟨rfl, by simp, fun h0 => absurd h0 (by simp)⟩, by simp⟩
  · simp [Value.cells] at hcs
    obtain ⟨rfl, rfl, rfl⟩ := hcs
    have hlm : n0 ≤ m := by rw [hmm]; split <;> omega
    have hstr : ∀ i, i < n0 → ∃ x : S30, w.cell? (a.add (i * 2)) = some (.string x.f0) ∧ w.cell? (a.add (i * 2 + 1)) = some (.string x.f1) := by
      intro i hi
      obtain ⟨e0, e1, t0, t1⟩ := hcell i (by omega)
      obtain ⟨s0, h0, _, _⟩ := DataW.trod_string Try.underlying9 t0
      obtain ⟨s1, h1, _, _⟩ := DataW.trod_string Try.underlying9 t1
      simp only [List.cons.injEq, and_true] at h0 h1
      exact ⟨⟨s0, s1⟩, by rw [e0, h0], by rw [e1, h1]⟩
    haveI : Inhabited S30 := ⟨z30⟩
    obtain ⟨f, hF⟩ := choose_lt hstr
    have hz := (Prod.mk.inj hx).1
    have hB : (n0 + (m - n0)) * Try.prog.bytesOf 30 ≤ reachBytes := by
      have := sized_slice hsz hj (by rw [hd, hz]) hu
      simpa using this
    have h47 := reachBytes_lt
    have hb30 : Try.prog.bytesOf 30 = 32 := by kernel_rfl
    rw [hb30] at hB
    refine ⟨some a, c0, (List.range n0).map f, by simp, ?_, by simpa using hl⟩
    refine ⟨by simp, by simp; omega, fun _ => ⟨a, rfl, fun j p hj => ?_⟩⟩
    have hjl : j < n0 := by
      have := (List.getElem?_eq_some_iff.mp hj).1
      simpa using this
    have hp : f j = p := by
      rw [List.getElem?_map, List.getElem?_range hjl] at hj
      simpa using hj
    subst hp
    refine ⟨[.string (f j).f0, .string (f j).f1], rfl, k30_mk _ _, fun i u hu => ?_⟩
    match i, hu with
    | 0, hu => cases hu; exact (hF j hjl).1
    | 1, hu => cases hu; exact (hF j hjl).2
end Go.Proofs.Ytmheajenlhlbhaa.X

namespace Go.Proofs.Ytmheajenlhlbhaa.X
open Go.RowKit Go.Proofs.YtmheajenlhlbhaaW.PrintWords Go.Proofs.YtmheajenlhlbhaaW.PrintLast Go.Proofs.YtmheajenlhlbhaaW.PrintMore
attribute [local go_sem] max2_int min2_int max_two min_two max_three min_three max_four min_four   -- for this text's walks alone
set_option linter.unusedVariables false
set_option linter.unusedSimpArgs false

/-! ### withylaw16_PackLast: function 4 -/
mutual
def withylaw16_PackLast.l0 : Nat → List (S30) → Int → List (S35) → List Int → Int → Int → Int → Option (Bool)
  | 0, _, _, _, _, _, _, _ => none
  | k + 1, x0, x7, x8, x10, x11, x12, x13 => if x13 < x11 then (if 0 ≤ x13 then (if x13 < (x10.length : Int) then (withylaw16_PackLast.l0 k x0 x7 x8 x10 x11 (wrap64 (x12 + (rd x10 x13))) (wrap64 (x13 + 1))) else (none)) else (none)) else (if x12 < 0 then (withylaw16_PackLast.j1 k x7 x8 x10 x11 x12 true) else (if x12 > (x8.length : Int) then (withylaw16_PackLast.j1 k x7 x8 x10 x11 x12 true) else (withylaw16_PackLast.j1 k x7 x8 x10 x11 x12 ((x8.length : Int) != (x0.length : Int)))))
def withylaw16_PackLast.j1 : Nat → Int → List (S35) → List Int → Int → Int → Bool → Option (Bool)
  | 0, _, _, _, _, _, _ => none
  | k + 1, x7, x8, x10, x11, x12, x60 => if x60 = true then (none) else (if x12 = (x8.length : Int) then ((withylaw16_fixed.f).bind fun t259 => (some t259)) else (if 0 ≤ x12 then (if x12 ≤ (x8.length : Int) then ((pack_Group.f (x8.drop (x12 : Int).toNat) x7).bind fun t264 => (if 0 ≤ x11 then (if x11 ≤ (x10.length : Int) then ((withyref01_Ints.f k t264 (x10.drop (x11 : Int).toNat)).bind fun t271 => (if t271 = true then ((withylaw16_fixed.f).bind fun t272 => (some t272)) else (none))) else (none)) else (none))) else (none)) else (none)))
end
def withylaw16_PackLast.f (k : Nat) (l0 : List (S30)) (a1 : Int) (a2 : Int) : Option (Bool) := (withylaw16_Size.f a1).bind fun t247 => ((withylaw16_Rise.f k l0 t247).bind fun t248 => ((pack_Items.f k t248 1 t247).bind fun bt251 => ((pack_Group.f bt251.1 t247).bind fun t255 => (if (wrap64 ((t255.length : Int) + 1)) = 0 then (none) else (withylaw16_PackLast.l0 k t248 t247 bt251.1 t255 (Int.tmod (wrap64 (a2)) (wrap64 ((t255.length : Int) + 1))) 0 0)))))
theorem withylaw16_PackLast.mono_l : ∀ k, (∀ y0 y1 y2 y3 y4 y5 y6, LeO (withylaw16_PackLast.l0 k y0 y1 y2 y3 y4 y5 y6) (withylaw16_PackLast.l0 (k + 1) y0 y1 y2 y3 y4 y5 y6)) ∧ (∀ y0 y1 y2 y3 y4 y5, LeO (withylaw16_PackLast.j1 k y0 y1 y2 y3 y4 y5) (withylaw16_PackLast.j1 (k + 1) y0 y1 y2 y3 y4 y5))
  | 0 => ⟨fun _ _ _ _ _ _ _ r h => by simp [withylaw16_PackLast.l0] at h, fun _ _ _ _ _ _ r h => by simp [withylaw16_PackLast.j1] at h⟩
  | k + 1 => by
    obtain ⟨ih0, ih1⟩ := withylaw16_PackLast.mono_l k
    refine ⟨?_, ?_⟩
    · intro y0 y1 y2 y3 y4 y5 y6
      unfold withylaw16_PackLast.l0
      repeat' first
      | (with_reducible exact ih0 _ _ _ _ _ _ _)
      | (with_reducible exact ih1 _ _ _ _ _ _)
      | (with_reducible exact pack_Items.mono _ _ _ _)
      | (with_reducible exact withylaw16_Rise.mono _ _ _)
      | (with_reducible exact withyref01_Ints.mono _ _ _)
      | (with_reducible exact LeO.refl _)
      | (with_reducible exact LeO.none _)
      | (with_reducible refine LeO.ite ?_ ?_)
      | (with_reducible refine LeO.bind ?_ (fun _ => ?_))
      | exact ih0 _ _ _ _ _ _ _
      | exact ih1 _ _ _ _ _ _
      | exact pack_Items.mono _ _ _ _
      | exact withylaw16_Rise.mono _ _ _
      | exact withyref01_Ints.mono _ _ _
      | exact LeO.none _
      | refine LeO.ite ?_ ?_
      | refine LeO.bind ?_ (fun _ => ?_)
    · intro y0 y1 y2 y3 y4 y5
      unfold withylaw16_PackLast.j1
      repeat' first
      | (with_reducible exact ih0 _ _ _ _ _ _ _)
      | (with_reducible exact ih1 _ _ _ _ _ _)
      | (with_reducible exact pack_Items.mono _ _ _ _)
      | (with_reducible exact withylaw16_Rise.mono _ _ _)
      | (with_reducible exact withyref01_Ints.mono _ _ _)
      | (with_reducible exact LeO.refl _)
      | (with_reducible exact LeO.none _)
      | (with_reducible refine LeO.ite ?_ ?_)
      | (with_reducible refine LeO.bind ?_ (fun _ => ?_))
      | exact ih0 _ _ _ _ _ _ _
      | exact ih1 _ _ _ _ _ _
      | exact pack_Items.mono _ _ _ _
      | exact withylaw16_Rise.mono _ _ _
      | exact withyref01_Ints.mono _ _ _
      | exact LeO.none _
      | refine LeO.ite ?_ ?_
      | refine LeO.bind ?_ (fun _ => ?_)
theorem withylaw16_PackLast.mono : ∀ a0 a1 a2 k, LeO (withylaw16_PackLast.f k a0 a1 a2) (withylaw16_PackLast.f (k + 1) a0 a1 a2) := by
  intro a0 a1 a2 k
  obtain ⟨ih0, ih1⟩ := withylaw16_PackLast.mono_l k
  unfold withylaw16_PackLast.f
  repeat' first
      | (with_reducible exact ih0 _ _ _ _ _ _ _)
      | (with_reducible exact ih1 _ _ _ _ _ _)
      | (with_reducible exact pack_Items.mono _ _ _ _)
      | (with_reducible exact withylaw16_Rise.mono _ _ _)
      | (with_reducible exact withyref01_Ints.mono _ _ _)
      | (with_reducible exact LeO.refl _)
      | (with_reducible exact LeO.none _)
      | (with_reducible refine LeO.ite ?_ ?_)
      | (with_reducible refine LeO.bind ?_ (fun _ => ?_))
      | exact ih0 _ _ _ _ _ _ _
      | exact ih1 _ _ _ _ _ _
      | exact pack_Items.mono _ _ _ _
      | exact withylaw16_Rise.mono _ _ _
      | exact withyref01_Ints.mono _ _ _
      | exact LeO.none _
      | refine LeO.ite ?_ ?_
      | refine LeO.bind ?_ (fun _ => ?_)
set_option maxHeartbeats 8000000 in
set_option maxRecDepth 100000 in
theorem withylaw16_PackLast.calls (k : Nat) (A0 : Option Addr) (c0 : Nat) (l0 : List (S30)) (a1 : Int) (a2 : Int) (r : Bool) (w : World) (hr0 : Kd.C k30 w A0 l0.length l0) (hc0 : l0.length ≤ c0) (h : withylaw16_PackLast.f k l0 a1 a2 = some r) :
    Calls Try.prog 4 #[.slice A0 l0.length c0, .int .i64 a1, .int .u8 a2] w fun e w' => e = .returned (.bool r) ∧ Below w.heap.size w w' := by
  have HR0 := Aside0.mk hr0
  have HC0 := Aside0.mk hc0
  clear hr0 hc0
  have HB := Aside0.mk (Below.refl w.heap.size w)
  have H : ((withylaw16_Size.f a1).bind fun t247 => ((withylaw16_Rise.f k l0 t247).bind fun t248 => ((pack_Items.f k t248 1 t247).bind fun bt251 => ((pack_Group.f bt251.1 t247).bind fun t255 => (if (wrap64 ((t255.length : Int) + 1)) = 0 then (none) else (withylaw16_PackLast.l0 k t248 t247 bt251.1 t255 (Int.tmod (wrap64 (a2)) (wrap64 ((t255.length : Int) + 1))) 0 0)))))) = some r := h
  clear h
  replace H := Option.bind_eq_some_iff.mp H
  obtain ⟨t247, A40, H⟩ := H
  replace H : ((withylaw16_Rise.f k l0 t247).bind fun t248 => ((pack_Items.f k t248 1 t247).bind fun bt251 => ((pack_Group.f bt251.1 t247).bind fun t255 => (if (wrap64 ((t255.length : Int) + 1)) = 0 then (none) else (withylaw16_PackLast.l0 k t248 t247 bt251.1 t255 (Int.tmod (wrap64 (a2)) (wrap64 ((t255.length : Int) + 1))) 0 0))))) = some r := H
  have A4 := Aside0.mk A40
  clear A40
  replace H := Option.bind_eq_some_iff.mp H
  obtain ⟨t248, A50, H⟩ := H
  replace H : ((pack_Items.f k t248 1 t247).bind fun bt251 => ((pack_Group.f bt251.1 t247).bind fun t255 => (if (wrap64 ((t255.length : Int) + 1)) = 0 then (none) else (withylaw16_PackLast.l0 k t248 t247 bt251.1 t255 (Int.tmod (wrap64 (a2)) (wrap64 ((t255.length : Int) + 1))) 0 0)))) = some r := H
  have A5 := Aside0.mk A50
  clear A50
  replace H := Option.bind_eq_some_iff.mp H
  obtain ⟨⟨t251, t252⟩, A60, H⟩ := H
  replace H : ((pack_Group.f t251 t247).bind fun t255 => (if (wrap64 ((t255.length : Int) + 1)) = 0 then (none) else (withylaw16_PackLast.l0 k t248 t247 t251 t255 (Int.tmod (wrap64 (a2)) (wrap64 ((t255.length : Int) + 1))) 0 0))) = some r := H
  have A6 := Aside0.mk A60
  clear A60
  replace H := Option.bind_eq_some_iff.mp H
  obtain ⟨t255, A70, H⟩ := H
  replace H : (if (wrap64 ((t255.length : Int) + 1)) = 0 then (none) else (withylaw16_PackLast.l0 k t248 t247 t251 t255 (Int.tmod (wrap64 (a2)) (wrap64 ((t255.length : Int) + 1))) 0 0)) = some r := H
  have A7 := Aside0.mk A70
  clear A70
  by_cases c8 : (wrap64 ((t255.length : Int) + 1)) = 0
  · rw [if_pos c8] at H
    exact absurd H (by simp)
  · rw [if_neg c8] at H
    have c8b0 : ((wrap64 ((t255.length : Int) + 1)) == 0) = false := beq_eq_false_iff_ne.mpr c8
    have c8b1 : ((wrap64 ((t255.length : Int) + 1)) != 0) = true := bne_iff_ne.mpr c8
    have H' := Aside0.mk H
    clear H
    go_enter Try.func4, Try.ntmps4
    go_wp2_with (first | ((with_reducible refine gate_callee (f := 7) rfl ?_); refine goesL_ (some 16) rfl rfl Try.func7 (by kernel_rfl) rfl #[.int .i64 a1] rfl (by (try simp only [List.map_toArray, List.map_cons, List.map_nil]); first | done | rfl | (simp only [List.length_drop, List.length_take]; rfl)) ?_; (with_reducible refine (withylaw16_Size.calls a1 t247 _ A4.out).mono ?_); rintro e w' ⟨rfl, ⟨nd, rfl⟩⟩; refine ⟨_, rfl, ?_⟩) | ((with_reducible refine gate_callee (f := 8) rfl ?_); refine goesL_ (some 19) rfl rfl Try.func8 (by kernel_rfl) rfl #[.slice A0 l0.length c0, .int .i64 t247] rfl (by (try simp only [List.map_toArray, List.map_cons, List.map_nil]); first | done | rfl | (simp only [List.length_drop, List.length_take]; rfl)) ?_; (with_reducible refine (withylaw16_Rise.calls k _ _ l0 t247 t248 _ ?side1 ?side2 A5.out).mono ?_); (case side1 => repeat (first | exact HR0.out | (with_reducible refine Kd.C_alloc ?_ _) | (with_reducible refine Kd.C_drewN ?_ _) | (with_reducible refine Kd.C_drew ?_))); (case side2 => exact HC0.out); rintro e w9 ⟨v249, rfl, ho0, hb⟩; refine ⟨_, rfl, ?_⟩; have n0_ := Aside0.mk (Kd.R_lower ho0 (below_size (by repeat (first | (with_reducible first | exact HB.out | apply below_alloc | apply pw_below_drewN | apply below_drew1) | exact HB.out)))); have n1_ := Aside0.mk (below_step (by repeat (first | (with_reducible first | exact HB.out | apply below_alloc | apply pw_below_drewN | apply below_drew1) | exact HB.out)) hb); clear HB; have HO250 := n0_; have HB := n1_; clear n0_ n1_; (try clear hb); (try clear hb2); (try clear hk); (try clear hi); (try clear ho0); obtain ⟨Ao10, co10, eo10⟩ := Kd.R_slice HO250.out; subst eo10) | ((with_reducible refine gate_callee (f := 9) rfl ?_); refine goesL_ (some 23) rfl rfl Try.func9 (by kernel_rfl) rfl #[.slice Ao10 t248.length co10, .int .i64 1, .int .i64 t247] rfl (by (try simp only [List.map_toArray, List.map_cons, List.map_nil]); first | done | rfl | (simp only [List.length_drop, List.length_take]; rfl)) ?_; (with_reducible refine (pack_Items.calls k _ _ t248 1 t247 t251 t252 _ ?side1 ?side2 A6.out).mono ?_); (case side1 => repeat (first | exact (Kd.R_reads' HO250.out).2.2 | (with_reducible refine Kd.C_alloc ?_ _) | (with_reducible refine Kd.C_drewN ?_ _) | (with_reducible refine Kd.C_drew ?_))); (case side2 => exact (Kd.R_reads' HO250.out).2.1); rintro e w11 ⟨v253, rfl, ho0, hb⟩; refine ⟨_, rfl, ?_⟩; have n0_ := Aside0.mk (Kd.R_below (by (with_reducible repeat (first | apply Kd.R_alloc | apply Kd.R_drewN | apply Kd.R_drew)); exact HO250.out) hb); have n1_ := Aside0.mk (Kd.R_lower ho0 (below_size (by repeat (first | (with_reducible first | exact HB.out | apply below_alloc | apply pw_below_drewN | apply below_drew1) | exact HB.out)))); have n2_ := Aside0.mk (below_step (by repeat (first | (with_reducible first | exact HB.out | apply below_alloc | apply pw_below_drewN | apply below_drew1) | exact HB.out)) hb); clear HO250; clear HB; have HO250 := n0_; have HO254 := n1_; have HB := n2_; clear n0_ n1_ n2_; (try clear hb); (try clear hb2); (try clear hk); (try clear hi); (try clear ho0); obtain ⟨Ao12, co12, eo12⟩ := Kd.R_slice HO254.out; subst eo12) | ((with_reducible refine gate_callee (f := 13) rfl ?_); refine goesL_ (some 28) rfl rfl Try.func13 (by kernel_rfl) rfl #[.slice Ao12 t251.length co12, .int .i64 t247] rfl (by (try simp only [List.map_toArray, List.map_cons, List.map_nil]); first | done | rfl | (simp only [List.length_drop, List.length_take]; rfl)) ?_; (with_reducible refine (pack_Group.calls _ _ t251 t247 t255 _ ?side1 ?side2 A7.out).mono ?_); (case side1 => repeat (first | exact (Kd.R_reads' HO254.out).2.2 | (with_reducible refine Kd.C_alloc ?_ _) | (with_reducible refine Kd.C_drewN ?_ _) | (with_reducible refine Kd.C_drew ?_))); (case side2 => exact (Kd.R_reads' HO254.out).2.1); rintro e w13 ⟨v256, rfl, ho0, hb⟩; refine ⟨_, rfl, ?_⟩; have n0_ := Aside0.mk (Kd.R_below (by (with_reducible repeat (first | apply Kd.R_alloc | apply Kd.R_drewN | apply Kd.R_drew)); exact HO250.out) hb); have n1_ := Aside0.mk (Kd.R_below (by (with_reducible repeat (first | apply Kd.R_alloc | apply Kd.R_drewN | apply Kd.R_drew)); exact HO254.out) hb); have n2_ := Aside0.mk (Kd.R_lower ho0 (below_size (by repeat (first | (with_reducible first | exact HB.out | apply below_alloc | apply pw_below_drewN | apply below_drew1) | exact HB.out)))); have n3_ := Aside0.mk (below_step (by repeat (first | (with_reducible first | exact HB.out | apply below_alloc | apply pw_below_drewN | apply below_drew1) | exact HB.out)) hb); clear HO250; clear HO254; clear HB; have HO250 := n0_; have HO254 := n1_; have HO257 := n2_; have HB := n3_; clear n0_ n1_ n2_ n3_; (try clear hb); (try clear hb2); (try clear hk); (try clear hi); (try clear ho0); obtain ⟨Ao14, co14, eo14⟩ := Kd.R_slice HO257.out; subst eo14))
    go_loopg [12, 13] k (fun kq v12 v13 w' => ∃ (x12_1 : Int) (x13_1 : Int), v12 = .int .i64 x12_1 ∧ v13 = .int .i64 x13_1 ∧ Aside0 (withylaw16_PackLast.l0 kq t248 t247 t251 t255 (Int.tmod (wrap64 (a2)) (wrap64 ((t255.length : Int) + 1))) x12_1 x13_1 = some r) ∧ Aside0 (kq ≤ k) ∧ Aside0 (Kd.R k30 30 w' w.heap.size (fun _ => True) (.slice Ao10 t248.length co10) t248) ∧ Aside0 (Kd.R k35 35 w' w.heap.size (fun _ => True) (.slice Ao12 t251.length co12) t251) ∧ Aside0 (Kd.R (Kd.int .i64) 3 w' w.heap.size (fun _ => True) (.slice Ao14 t255.length co14) t255) ∧ Aside0 (Below w.heap.size w w'))
    case atStart => exact ⟨(0), (0), (by first | rfl | (simp; done) | (simp [*]; done)), (by first | rfl | (simp; done) | (simp [*]; done)), H', ⟨Nat.le_refl _⟩, ⟨by (with_reducible repeat (first | apply Kd.R_alloc | apply Kd.R_drewN | apply Kd.R_drew)); exact HO250.out⟩, ⟨by (with_reducible repeat (first | apply Kd.R_alloc | apply Kd.R_drewN | apply Kd.R_drew)); exact HO254.out⟩, ⟨by (with_reducible repeat (first | apply Kd.R_alloc | apply Kd.R_drewN | apply Kd.R_drew)); exact HO257.out⟩, ⟨by repeat (first | (with_reducible first | exact HB.out | apply below_alloc | apply pw_below_drewN | apply below_drew1) | exact HB.out)⟩⟩
    case round =>
      clear H'
      try clear c1
      try clear p2
      try clear c4
      try clear p6
      try clear c7
      try clear c8
      try clear c8b0
      try clear c8b1
      try clear c9
      try clear c13
      obtain ⟨x12_1, x13_1, rfl, rfl, HA, HK1, HO_0, HO_8, HO_10, HB⟩ := hrel
      cases gk with
      | zero => exact absurd HA.out (by simp [withylaw16_PackLast.l0])
      | succ k1 =>
        have H := HA.out
        clear HA
        simp only [withylaw16_PackLast.l0] at H
        by_cases c15 : x13_1 < (Int.tmod (wrap64 (a2)) (wrap64 ((t255.length : Int) + 1)))
        · rw [if_pos c15] at H
          have c15b0 : decide (x13_1 < (Int.tmod (wrap64 (a2)) (wrap64 ((t255.length : Int) + 1)))) = true := decide_eq_true c15
          clear c15
          by_cases c16 : 0 ≤ x13_1
          · rw [if_pos c16] at H
            have c16b0 : decide (0 ≤ x13_1) = true := decide_eq_true c16
            clear c16
            by_cases c17 : x13_1 < (t255.length : Int)
            · rw [if_pos c17] at H
              have c17b0 : decide (x13_1 < (t255.length : Int)) = true := decide_eq_true c17
              clear c17
              have H' := Aside0.mk H
              clear H
              have p258 : 0 ≤ (x13_1 : Int) := of_decide_eq_true (by first | (with_reducible assumption) | assumption)
              have q258 : x13_1 < (t255.length : Int) := of_decide_eq_true (by first | (with_reducible assumption) | assumption)
              obtain ⟨ad258, e258, hx258_0⟩ := Kd.at_int (Kd.R_reads' HO_10.out).2.2 x13_1 p258 q258
              cases e258
              replace p258 := eq_true p258
              replace q258 := eq_true q258
              go_wp2
              go_roundg k1
              case measure => have := HK1.out; omega
              case rel => exact ⟨(wrap64 (x12_1 + (rd t255 x13_1))), (wrap64 (x13_1 + 1)), (by first | rfl | (simp; done) | (simp [*]; done)), (by first | rfl | (simp; done) | (simp [*]; done)), H', ⟨by have := HK1.out; omega⟩, ⟨by (with_reducible repeat (first | apply Kd.R_alloc | apply Kd.R_drewN | apply Kd.R_drew)); exact HO_0.out⟩, ⟨by (with_reducible repeat (first | apply Kd.R_alloc | apply Kd.R_drewN | apply Kd.R_drew)); exact HO_8.out⟩, ⟨by (with_reducible repeat (first | apply Kd.R_alloc | apply Kd.R_drewN | apply Kd.R_drew)); exact HO_10.out⟩, ⟨by repeat (first | (with_reducible first | exact HB.out | apply below_alloc | apply pw_below_drewN | apply below_drew1) | exact HB.out)⟩⟩
            · rw [if_neg c17] at H
              exact absurd H (by simp)
          · rw [if_neg c16] at H
            exact absurd H (by simp)
        · rw [if_neg c15] at H
          have c15b0 : decide (x13_1 < (Int.tmod (wrap64 (a2)) (wrap64 ((t255.length : Int) + 1)))) = false := decide_eq_false c15
          clear c15
          have HC18 := Aside0.mk H
          clear H
          go_upto_region 10 with (fail)
          go_cut [60] (fun v60 wc => ∃ (kq : Nat) (x60_17 : Bool), v60 = .bool x60_17 ∧ Aside0 (withylaw16_PackLast.j1 kq t247 t251 t255 (Int.tmod (wrap64 (a2)) (wrap64 ((t255.length : Int) + 1))) x12_1 x60_17 = some r) ∧ Aside0 (kq ≤ k1) ∧ Aside0 (Kd.R k35 35 wc w.heap.size (fun _ => True) (.slice Ao12 t251.length co12) t251) ∧ Aside0 (Kd.R (Kd.int .i64) 3 wc w.heap.size (fun _ => True) (.slice Ao14 t255.length co14) t255) ∧ Aside0 (Below w.heap.size w wc))
          case first =>
            have H := HC18.out
            clear HC18
            by_cases c19 : x12_1 < 0
            · rw [if_pos c19] at H
              have c19b0 : decide (x12_1 < 0) = true := decide_eq_true c19
              clear c19
              (first | rw [c19b0] | (simp only [i64_w, i32_w]; rw [c19b0]) | skip)
              have H' := Aside0.mk H
              clear H
              go_wp2
              go_meet
              case rel => exact ⟨_, (true), (by first | rfl | (simp; done) | (simp [*]; done)), H', ⟨by have := HK1.out; first | omega | exact Nat.le_refl _⟩, ⟨by (with_reducible repeat (first | apply Kd.R_alloc | apply Kd.R_drewN | apply Kd.R_drew)); exact HO_8.out⟩, ⟨by (with_reducible repeat (first | apply Kd.R_alloc | apply Kd.R_drewN | apply Kd.R_drew)); exact HO_10.out⟩, ⟨by repeat (first | (with_reducible first | exact HB.out | apply below_alloc | apply pw_below_drewN | apply below_drew1) | exact HB.out)⟩⟩
            · rw [if_neg c19] at H
              have c19b0 : decide (x12_1 < 0) = false := decide_eq_false c19
              clear c19
              (first | rw [c19b0] | (simp only [i64_w, i32_w]; rw [c19b0]) | skip)
              by_cases c20 : x12_1 > (t251.length : Int)
              · rw [if_pos c20] at H
                have c20b0 : decide ((t251.length : Int) < x12_1) = true := decide_eq_true c20
                clear c20
                have H' := Aside0.mk H
                clear H
                go_wp2
                go_meet
                case rel => exact ⟨_, (true), (by first | rfl | (simp; done) | (simp [*]; done)), H', ⟨by have := HK1.out; first | omega | exact Nat.le_refl _⟩, ⟨by (with_reducible repeat (first | apply Kd.R_alloc | apply Kd.R_drewN | apply Kd.R_drew)); exact HO_8.out⟩, ⟨by (with_reducible repeat (first | apply Kd.R_alloc | apply Kd.R_drewN | apply Kd.R_drew)); exact HO_10.out⟩, ⟨by repeat (first | (with_reducible first | exact HB.out | apply below_alloc | apply pw_below_drewN | apply below_drew1) | exact HB.out)⟩⟩
              · rw [if_neg c20] at H
                have c20b0 : decide ((t251.length : Int) < x12_1) = false := decide_eq_false c20
                clear c20
                have H' := Aside0.mk H
                clear H
                go_wp2
                go_meet
                case rel => exact ⟨_, (((t251.length : Int) != (t248.length : Int))), (by first | rfl | (simp; done) | (simp [*]; done)), H', ⟨by have := HK1.out; first | omega | exact Nat.le_refl _⟩, ⟨by (with_reducible repeat (first | apply Kd.R_alloc | apply Kd.R_drewN | apply Kd.R_drew)); exact HO_8.out⟩, ⟨by (with_reducible repeat (first | apply Kd.R_alloc | apply Kd.R_drewN | apply Kd.R_drew)); exact HO_10.out⟩, ⟨by repeat (first | (with_reducible first | exact HB.out | apply below_alloc | apply pw_below_drewN | apply below_drew1) | exact HB.out)⟩⟩
          case rest =>
            clear HC18
            try clear c1
            try clear c2
            try clear p2
            try clear q2
            try clear hx2
            try clear c4
            try clear p6
            try clear c7
            try clear c8
            try clear c8b0
            try clear c8b1
            try clear c9
            try clear c13
            try clear c15
            try clear c15b0
            try clear c16
            try clear c16b0
            try clear c17
            try clear c17b0
            try clear c19
            try clear c19b0
            try clear c20
            try clear c20b0
            try clear hx258_0
            try clear p2
            try clear p258
            try clear p6
            try clear q258
            obtain ⟨kq, x60_17, rfl, HA, HJ17, HO_8, HO_10, HB⟩ := hcut
            cases kq with
            | zero => exact absurd HA.out (by simp [withylaw16_PackLast.j1])
            | succ kj17 =>
              have H := HA.out
              clear HA
              simp only [withylaw16_PackLast.j1] at H
              by_cases c21 : x60_17 = true
              · subst c21
                have H1 : (none) = some r := by rw [if_pos rfl] at H; exact H
                clear H
                have H := H1
                clear H1
                exact absurd H (by simp)
              · replace c21 := Bool.eq_false_iff.mpr c21
                subst c21
                have H1 : (if x12_1 = (t251.length : Int) then ((withylaw16_fixed.f).bind fun t259 => (some t259)) else (if 0 ≤ x12_1 then (if x12_1 ≤ (t251.length : Int) then ((pack_Group.f (t251.drop (x12_1 : Int).toNat) t247).bind fun t264 => (if 0 ≤ (Int.tmod (wrap64 (a2)) (wrap64 ((t255.length : Int) + 1))) then (if (Int.tmod (wrap64 (a2)) (wrap64 ((t255.length : Int) + 1))) ≤ (t255.length : Int) then ((withyref01_Ints.f kj17 t264 (t255.drop ((Int.tmod (wrap64 (a2)) (wrap64 ((t255.length : Int) + 1))) : Int).toNat)).bind fun t271 => (if t271 = true then ((withylaw16_fixed.f).bind fun t272 => (some t272)) else (none))) else (none)) else (none))) else (none)) else (none))) = some r := by rw [if_neg (show ¬ (false = true) by decide)] at H; exact H
                clear H
                have H := H1
                clear H1
                by_cases c22 : x12_1 = (t251.length : Int)
                · rw [if_pos c22] at H
                  have c22b0 : (x12_1 == (t251.length : Int)) = true := beq_iff_eq.mpr c22
                  have c22b1 : (x12_1 != (t251.length : Int)) = false := bne_eq_false_iff_eq.mpr c22
                  clear c22
                  replace H := Option.bind_eq_some_iff.mp H
                  obtain ⟨t259, A230, H⟩ := H
                  replace H : (some t259) = some r := H
                  have A23 := Aside0.mk A230
                  clear A230
                  obtain rfl := Option.some.inj H
                  go_wp2_with (first | ((with_reducible refine gate_callee (f := 12) rfl ?_); refine goesL_ (some 65) rfl rfl Try.func12 (by kernel_rfl) rfl #[] rfl (by (try simp only [List.map_toArray, List.map_cons, List.map_nil]); first | done | rfl | (simp only [List.length_drop, List.length_take]; rfl)) ?_; (with_reducible refine (withylaw16_fixed.calls  t259 _ A23.out).mono ?_); rintro e w24 ⟨rfl, hb⟩; refine ⟨_, rfl, ?_⟩; have n0_ := Aside0.mk (Kd.R_below (by (with_reducible repeat (first | apply Kd.R_alloc | apply Kd.R_drewN | apply Kd.R_drew)); exact HO_8.out) hb); have n1_ := Aside0.mk (Kd.R_below (by (with_reducible repeat (first | apply Kd.R_alloc | apply Kd.R_drewN | apply Kd.R_drew)); exact HO_10.out) hb); have n2_ := Aside0.mk (below_step (by repeat (first | (with_reducible first | exact HB.out | apply below_alloc | apply pw_below_drewN | apply below_drew1) | exact HB.out)) hb); clear HO_8; clear HO_10; clear HB; have HO_8 := n0_; have HO_10 := n1_; have HB := n2_; clear n0_ n1_ n2_; (try clear hb); (try clear hb2); (try clear hk); (try clear hi)))
                  go_ret
                  exact ⟨by first | rfl | (simp [errW_none, errW_some] <;> rfl) | (simp [*, errW_none, errW_some] <;> rfl), by repeat (first | (with_reducible first | exact HB.out | apply below_alloc | apply pw_below_drewN | apply below_drew1) | exact HB.out)⟩
                · rw [if_neg c22] at H
                  have c22b0 : (x12_1 == (t251.length : Int)) = false := beq_eq_false_iff_ne.mpr c22
                  have c22b1 : (x12_1 != (t251.length : Int)) = true := bne_iff_ne.mpr c22
                  by_cases c25 : 0 ≤ x12_1
                  · rw [if_pos c25] at H
                    have c25b0 := eq_true c25
                    have c25b1 : decide (0 ≤ x12_1) = true := decide_eq_true c25
                    clear c25
                    by_cases c26 : x12_1 ≤ (t251.length : Int)
                    · rw [if_pos c26] at H
                      have c26b0 := eq_true c26
                      have c26b1 : decide (x12_1 ≤ (t251.length : Int)) = true := decide_eq_true c26
                      clear c26
                      obtain ⟨y260, hy260⟩ : ∃ y_ : List (S35), y_ = (t251.drop (x12_1 : Int).toNat) := ⟨_, rfl⟩
                      replace H : ((pack_Group.f y260 t247).bind fun t264 => (if 0 ≤ (Int.tmod (wrap64 (a2)) (wrap64 ((t255.length : Int) + 1))) then (if (Int.tmod (wrap64 (a2)) (wrap64 ((t255.length : Int) + 1))) ≤ (t255.length : Int) then ((withyref01_Ints.f kj17 t264 (t255.drop ((Int.tmod (wrap64 (a2)) (wrap64 ((t255.length : Int) + 1))) : Int).toNat)).bind fun t271 => (if t271 = true then ((withylaw16_fixed.f).bind fun t272 => (some t272)) else (none))) else (none)) else (none))) = some r := by first | (rw [hy260]; with_reducible exact H) | (have H2_ := (Option.bind_some _ _).symm.trans H; rw [hy260]; with_reducible exact H2_) | (have H2_ := (Option.bind_some _ _).symm.trans H; with_reducible exact H2_) | with_reducible exact H | (rw [hy260]; exact H) | exact H
                      have Ny260 := Aside0.mk hy260
                      clear hy260
                      replace H := Option.bind_eq_some_iff.mp H
                      obtain ⟨t264, A270, H⟩ := H
                      replace H : (if 0 ≤ (Int.tmod (wrap64 (a2)) (wrap64 ((t255.length : Int) + 1))) then (if (Int.tmod (wrap64 (a2)) (wrap64 ((t255.length : Int) + 1))) ≤ (t255.length : Int) then ((withyref01_Ints.f kj17 t264 (t255.drop ((Int.tmod (wrap64 (a2)) (wrap64 ((t255.length : Int) + 1))) : Int).toNat)).bind fun t271 => (if t271 = true then ((withylaw16_fixed.f).bind fun t272 => (some t272)) else (none))) else (none)) else (none)) = some r := H
                      have A27 := Aside0.mk A270
                      clear A270
                      obtain ⟨ji28, hji28⟩ : ∃ j_ : Int, (Int.tmod (wrap64 (a2)) (wrap64 ((t255.length : Int) + 1))) = j_ := ⟨_, rfl⟩
                      replace H : (if 0 ≤ (ji28) then (if (ji28) ≤ (t255.length : Int) then ((withyref01_Ints.f kj17 t264 (t255.drop ((ji28) : Int).toNat)).bind fun t271 => (if t271 = true then ((withylaw16_fixed.f).bind fun t272 => (some t272)) else (none))) else (none)) else (none)) = some r := by first | (rw [hji28] at H; exact H) | (simp only [hji28] at H ⊢; exact H)
                      (try rw [hji28] at c15b0)
                      (try rw [hji28] at A27)
                      by_cases c29 : 0 ≤ (ji28)
                      · rw [if_pos c29] at H
                        have c29b0 := eq_true c29
                        have c29b1 : decide (0 ≤ (ji28)) = true := decide_eq_true c29
                        clear c29
                        by_cases c30 : (ji28) ≤ (t255.length : Int)
                        · rw [if_pos c30] at H
                          have c30b0 := eq_true c30
                          have c30b1 : decide ((ji28) ≤ (t255.length : Int)) = true := decide_eq_true c30
                          clear c30
                          obtain ⟨y267, hy267⟩ : ∃ y_ : List Int, y_ = (t255.drop ((ji28) : Int).toNat) := ⟨_, rfl⟩
                          replace H : ((withyref01_Ints.f kj17 t264 y267).bind fun t271 => (if t271 = true then ((withylaw16_fixed.f).bind fun t272 => (some t272)) else (none))) = some r := by first | (rw [hy267]; with_reducible exact H) | (have H2_ := (Option.bind_some _ _).symm.trans H; rw [hy267]; with_reducible exact H2_) | (have H2_ := (Option.bind_some _ _).symm.trans H; with_reducible exact H2_) | with_reducible exact H | (rw [hy267]; exact H) | exact H
                          have Ny267 := Aside0.mk hy267
                          clear hy267
                          replace H := Option.bind_eq_some_iff.mp H
                          obtain ⟨t271, A310, H⟩ := H
                          replace H : (if t271 = true then ((withylaw16_fixed.f).bind fun t272 => (some t272)) else (none)) = some r := H
                          have A31 := Aside0.mk A310
                          clear A310
                          by_cases c32 : t271 = true
                          · subst c32
                            have H1 : ((withylaw16_fixed.f).bind fun t272 => (some t272)) = some r := by rw [if_pos rfl] at H; exact H
                            clear H
                            have H := H1
                            clear H1
                            replace H := Option.bind_eq_some_iff.mp H
                            obtain ⟨t272, A330, H⟩ := H
                            replace H : (some t272) = some r := H
                            have A33 := Aside0.mk A330
                            clear A330
                            obtain rfl := Option.some.inj H
                            have q34 : (x12_1 : Int) ≤ ((t251.length : Int) : Int) := of_decide_eq_true (by first | (with_reducible assumption) | assumption)
                            obtain ⟨i034, hi034, _, hsz34, _⟩ := info_parts info35
                            have hroom34 : t251.length ≤ co12 := (Kd.R_reads' HO_8.out).2.1
                            have hC34 : Kd.C k35 _ Ao12 t251.length t251 := (Kd.R_reads' HO_8.out).2.2
                            have q034 : (0 : Int) ≤ (x12_1 : Int) := of_decide_eq_true (by first | (with_reducible assumption) | assumption)
                            have hcut34 := Go.Proofs.YtmheajenlhlbhaaW.PrintWords.cut_from (P := Try.prog) 26 35 .i64 Try.underlying26 hi034 5 hsz34 Ao12 t251.length co12 x12_1 q034 q34
                            have hr34 := Kd.C_drop (m := (x12_1 : Int).toNat) (c := co12) hC34 (by omega) hroom34
                            obtain ⟨A34, hA34⟩ : ∃ A1, A1 = (if co12 = (x12_1 : Int).toNat then Ao12 else (Ao12 : Option Addr).map (·.add ((x12_1 : Int).toNat * 5))) := ⟨_, rfl⟩
                            obtain ⟨c34, hc34⟩ : ∃ c1, c1 = co12 - (x12_1 : Int).toNat := ⟨_, rfl⟩
                            have hy34 : y260.length = t251.length - (x12_1 : Int).toNat := (by rw [Ny260.out, List.length_drop] <;> omega)
                            rw [show (t251).drop (x12_1 : Int).toNat = y260 from Ny260.out.symm] at hr34
                            replace hr34 : Kd.C k35 _ A34 y260.length y260 := (by rw [hA34]; exact hr34)
                            rw [← hy34, ← hA34, ← hc34] at hcut34
                            have HR263 := Aside0.mk hr34
                            have HC263 := Aside0.mk (show y260.length ≤ c34 from by rw [hy34, hc34]; exact Nat.sub_le_sub_right hroom34 _)
                            clear hr34 hC34 hroom34 hi034 hsz34 hc34
                            have KY34 := Aside0.mk hy34
                            have KA34 := Aside0.mk hA34
                            clear hy34 hA34
                            have KL34 := Aside0.mk (show (x12_1 : Int).toNat ≤ t251.length from by omega)
                            replace q34 := eq_true q34
                            go_wp2_with (first | ((with_reducible refine gate_callee (f := 13) rfl ?_); refine goesL_ (some 70) rfl rfl Try.func13 (by kernel_rfl) rfl #[.slice A34 y260.length c34, .int .i64 t247] rfl (by (try simp only [List.map_toArray, List.map_cons, List.map_nil]); first | done | rfl | (simp only [List.length_drop, List.length_take]; rfl)) ?_; (with_reducible refine (pack_Group.calls _ _ y260 t247 t264 _ ?side1 ?side2 A27.out).mono ?_); (case side1 => repeat (first | exact (by repeat (first | (with_reducible exact HR263.out) | (with_reducible refine Kd.C_alloc ?_ _) | (with_reducible refine Kd.C_drewN ?_ _) | (with_reducible refine Kd.C_drew ?_) | exact HR263.out)) | (with_reducible refine Kd.C_alloc ?_ _) | (with_reducible refine Kd.C_drewN ?_ _) | (with_reducible refine Kd.C_drew ?_))); (case side2 => exact HC263.out); rintro e w35 ⟨v265, rfl, ho0, hb⟩; refine ⟨_, rfl, ?_⟩; have n0_ := Aside0.mk (Kd.R_below (by (with_reducible repeat (first | apply Kd.R_alloc | apply Kd.R_drewN | apply Kd.R_drew)); exact HO_8.out) hb); have n1_ := Aside0.mk (Kd.R_elder' (by (with_reducible repeat (first | apply Kd.R_alloc | apply Kd.R_drewN | apply Kd.R_drew)); exact HO_10.out) (Kd.R_base ho0) hb); have n2_ := Aside0.mk (Kd.R_lower (Kd.R_new' ho0 (Kd.R_lt (by (with_reducible repeat (first | apply Kd.R_alloc | apply Kd.R_drewN | apply Kd.R_drew)); exact HO_10.out))) (below_size (by repeat (first | (with_reducible first | exact HB.out | apply below_alloc | apply pw_below_drewN | apply below_drew1) | exact HB.out)))); have n3_ := Aside0.mk (Kd.C_below (by repeat (first | (with_reducible exact HR263.out) | (with_reducible refine Kd.C_alloc ?_ _) | (with_reducible refine Kd.C_drewN ?_ _) | (with_reducible refine Kd.C_drew ?_) | exact HR263.out)) hb); have n4_ := Aside0.mk (below_step (by repeat (first | (with_reducible first | exact HB.out | apply below_alloc | apply pw_below_drewN | apply below_drew1) | exact HB.out)) hb); clear HO_8; clear HO_10; clear HR263; clear HB; have HO_8 := n0_; have HO_10 := n1_; have HO266 := n2_; have HR263 := n3_; have HB := n4_; clear n0_ n1_ n2_ n3_ n4_; (try clear hb); (try clear hb2); (try clear hk); (try clear hi); (try clear ho0); have q36 : ((ji28) : Int) ≤ ((t255.length : Int) : Int) := of_decide_eq_true (by first | (with_reducible assumption) | assumption); obtain ⟨i036, hi036, _, hsz36, _⟩ := info_parts info3; have hroom36 : t255.length ≤ co14 := (Kd.R_reads' HO_10.out).2.1; have hC36 : Kd.C (Kd.int .i64) _ Ao14 t255.length t255 := (Kd.R_reads' HO_10.out).2.2; have q036 : (0 : Int) ≤ ((ji28) : Int) := of_decide_eq_true (by first | (with_reducible assumption) | assumption); have hcut36 := Go.Proofs.YtmheajenlhlbhaaW.PrintWords.cut_from (P := Try.prog) 39 3 .i64 Try.underlying39 hi036 1 hsz36 Ao14 t255.length co14 (ji28) q036 q36; have hr36 := Kd.C_drop (m := ((ji28) : Int).toNat) (c := co14) hC36 (by omega) hroom36; obtain ⟨A36, hA36⟩ : ∃ A1, A1 = (if co14 = ((ji28) : Int).toNat then Ao14 else (Ao14 : Option Addr).map (·.add (((ji28) : Int).toNat * 1))) := ⟨_, rfl⟩; obtain ⟨c36, hc36⟩ : ∃ c1, c1 = co14 - ((ji28) : Int).toNat := ⟨_, rfl⟩; have hy36 : y267.length = t255.length - ((ji28) : Int).toNat := (by rw [Ny267.out, List.length_drop] <;> omega); rw [show (t255).drop ((ji28) : Int).toNat = y267 from Ny267.out.symm] at hr36; replace hr36 : Kd.C (Kd.int .i64) _ A36 y267.length y267 := (by rw [hA36]; exact hr36); rw [← hy36, ← hA36, ← hc36] at hcut36; have HR270 := Aside0.mk hr36; have HC270 := Aside0.mk (show y267.length ≤ c36 from by rw [hy36, hc36]; exact Nat.sub_le_sub_right hroom36 _); clear hr36 hC36 hroom36 hi036 hsz36 hc36; have KY36 := Aside0.mk hy36; have KA36 := Aside0.mk hA36; clear hy36 hA36; have KL36 := Aside0.mk (show ((ji28) : Int).toNat ≤ t255.length from by omega); replace q36 := eq_true q36; obtain ⟨Ao37, co37, eo37⟩ := Kd.R_slice HO266.out; subst eo37) | ((with_reducible refine gate_callee (f := 14) rfl ?_); refine goesL_ (some 75) rfl rfl Try.func14 (by kernel_rfl) rfl #[.slice Ao37 t264.length co37, .slice A36 y267.length c36] rfl (by (try simp only [List.map_toArray, List.map_cons, List.map_nil]); first | done | rfl | (simp only [List.length_drop, List.length_take]; rfl)) ?_; (with_reducible refine (withyref01_Ints.calls kj17 _ _ t264 _ _ y267 true _ ?side1 ?side2 ?side3 ?side4 A31.out).mono ?_); (case side1 => repeat (first | exact (Kd.R_reads' HO266.out).2.2 | (with_reducible refine Kd.C_alloc ?_ _) | (with_reducible refine Kd.C_drewN ?_ _) | (with_reducible refine Kd.C_drew ?_))); (case side2 => exact (Kd.R_reads' HO266.out).2.1); (case side3 => repeat (first | exact (by repeat (first | (with_reducible exact HR270.out) | (with_reducible refine Kd.C_alloc ?_ _) | (with_reducible refine Kd.C_drewN ?_ _) | (with_reducible refine Kd.C_drew ?_) | exact HR270.out)) | (with_reducible refine Kd.C_alloc ?_ _) | (with_reducible refine Kd.C_drewN ?_ _) | (with_reducible refine Kd.C_drew ?_))); (case side4 => exact HC270.out); rintro e w' ⟨rfl, ⟨nd, rfl⟩⟩; refine ⟨_, rfl, ?_⟩) | (go_at_call 12; (with_reducible refine (withylaw16_fixed.calls  t272 _ A33.out).mono ?_); rintro e w38 ⟨rfl, hb⟩; have n0_ := Aside0.mk (Kd.R_below (by (with_reducible repeat (first | apply Kd.R_alloc | apply Kd.R_drewN | apply Kd.R_drew)); exact HO_8.out) hb); have n1_ := Aside0.mk (Kd.R_below (by (with_reducible repeat (first | apply Kd.R_alloc | apply Kd.R_drewN | apply Kd.R_drew)); exact HO_10.out) hb); have n2_ := Aside0.mk (Kd.R_below (by (with_reducible repeat (first | apply Kd.R_alloc | apply Kd.R_drewN | apply Kd.R_drew)); exact HO266.out) hb); have n3_ := Aside0.mk (Kd.C_below (by repeat (first | (with_reducible exact HR263.out) | (with_reducible refine Kd.C_alloc ?_ _) | (with_reducible refine Kd.C_drewN ?_ _) | (with_reducible refine Kd.C_drew ?_) | exact HR263.out)) hb); have n4_ := Aside0.mk (Kd.C_below (by repeat (first | (with_reducible exact HR270.out) | (with_reducible refine Kd.C_alloc ?_ _) | (with_reducible refine Kd.C_drewN ?_ _) | (with_reducible refine Kd.C_drew ?_) | exact HR270.out)) hb); have n5_ := Aside0.mk (below_step (by repeat (first | (with_reducible first | exact HB.out | apply below_alloc | apply pw_below_drewN | apply below_drew1) | exact HB.out)) hb); clear HO_8; clear HO_10; clear HO266; clear HR263; clear HR270; clear HB; have HO_8 := n0_; have HO_10 := n1_; have HO266 := n2_; have HR263 := n3_; have HR270 := n4_; have HB := n5_; clear n0_ n1_ n2_ n3_ n4_ n5_; (try clear hb); (try clear hb2); (try clear hk); (try clear hi)))
                            go_ret
                            exact ⟨by first | rfl | (simp [errW_none, errW_some] <;> rfl) | (simp only [← hji28]; first | rfl | (simp [errW_none, errW_some] <;> rfl)) | (simp [*, errW_none, errW_some] <;> rfl), by repeat (first | (with_reducible first | exact HB.out | apply below_alloc | apply pw_below_drewN | apply below_drew1) | exact HB.out)⟩
                          · replace c32 := Bool.eq_false_iff.mpr c32
                            subst c32
                            have H1 : (none) = some r := by rw [if_neg (show ¬ (false = true) by decide)] at H; exact H
                            clear H
                            have H := H1
                            clear H1
                            exact absurd H (by simp)
                        · rw [if_neg c30] at H
                          exact absurd H (by simp)
                      · rw [if_neg c29] at H
                        exact absurd H (by simp)
                    · rw [if_neg c26] at H
                      exact absurd H (by simp)
                  · rw [if_neg c25] at H
                    exact absurd H (by simp)

end Go.Proofs.Ytmheajenlhlbhaa.X

-- Plain law of PackLast: true of every input.
namespace Go.Proofs.Ytmheajenlhlbhaa.X
open Go.RowKit Go.Proofs.YtmheajenlhlbhaaW.PrintWords Go.Proofs.YtmheajenlhlbhaaW.PrintLast Go.Proofs.YtmheajenlhlbhaaW.PrintMore
theorem sumN_take (n : List Int) (a : Nat) (h : a < n.length) : (n.take (a + 1)).sum = (n.take a).sum + n[a] := by
  rw [List.take_succ_eq_append_getElem h, List.sum_append]
  simp
theorem PackLast_j (p : Int) (l : List S30) (a : Int) (hp : 0 ≤ p ∧ p ≤ 100000) (hl : Cutted l) (kk s : Nat) (k : Nat) (hk : 60 ≤ k) (hkk : kk ≤ (groupN p (itemsN p a l)).length)
    (hs : s ≤ (itemsN p a l).length) (hd : s < (itemsN p a l).length → groupN p ((itemsN p a l).drop s) = (groupN p (itemsN p a l)).drop kk) :
    withylaw16_PackLast.j1 k p (itemsN p a l) (groupN p (itemsN p a l)) (kk : Int) (s : Int) false = some true := by
  obtain ⟨k, rfl⟩ : ∃ j, k = j + 1 := ⟨k - 1, by omega⟩
  have hlen := itemsN_length p l a
  have hg := groupN_length p _ (itemsN p a l) (Nat.le_refl _)
  have hl40 := hl.1
  rw [withylaw16_PackLast.j1]
  rw [if_neg (by simp)]
  by_cases c : s = (itemsN p a l).length
  · rw [if_pos (by omega)]
    rfl
  · rw [if_neg (by omega), if_pos (by omega), if_pos (by omega), Int.toNat_natCast, Group_ok p a l hp hl s, Option.bind_some, if_pos (by omega), if_pos (by omega), Int.toNat_natCast, hd (by omega)]
    rw [Ints_ok k _ (by rw [List.length_drop]; omega) (by rw [List.length_drop]; omega), Option.bind_some, if_pos rfl]
    rfl
theorem PackLast_l (p : Int) (l : List S30) (a : Int) (hp : 0 ≤ p ∧ p ≤ 100000) (hl : Cutted l) (kk s : Nat) (hkk : kk ≤ (groupN p (itemsN p a l)).length)
    (hsum : ((groupN p (itemsN p a l)).take kk).sum = (s : Int)) (hs : s ≤ (itemsN p a l).length) (hd : s < (itemsN p a l).length → groupN p ((itemsN p a l).drop s) = (groupN p (itemsN p a l)).drop kk) :
    ∀ (k i : Nat), kk + 100 ≤ i + k → i ≤ kk → withylaw16_PackLast.l0 k l p (itemsN p a l) (groupN p (itemsN p a l)) (kk : Int) (((groupN p (itemsN p a l)).take i).sum) (i : Int) = some true
  | 0, i, h, h1 => by omega
  | k + 1, i, h, h1 => by
    have hlen := itemsN_length p l a
    have hg := groupN_length p _ (itemsN p a l) (Nat.le_refl _)
    have hl40 := hl.1
    rw [withylaw16_PackLast.l0]
    by_cases c : i < kk
    · have hi : i < (groupN p (itemsN p a l)).length := by omega
      obtain ⟨s1, e1, l1, _⟩ := groupN_from p _ (itemsN p a l) (Nat.le_refl _) (i + 1) (by omega)
      rw [if_pos (by omega), if_pos (by omega), if_pos (by omega), rdI hi, w64n i (by omega), ← sumN_take _ _ hi, e1, w64i (s1 : Int) (by omega), ← e1]
      exact PackLast_l p l a hp hl kk s hkk hsum hs hd k (i + 1) (by omega) (by omega)
    · have : i = kk := by omega
      subst this
      rw [if_neg (by omega), hsum, if_neg (by omega), if_neg (by omega), show (((itemsN p a l).length : Int) != (l.length : Int)) = false by rw [hlen]; simp]
      exact PackLast_j p l a hp hl i s k (by omega) hkk hs hd
theorem PackLast_true (l : List S30) (p t : Int) (ht : 0 ≤ t ∧ t ≤ 255) : withylaw16_PackLast.f 200 l p t = some true := by
  obtain ⟨q, hq, hq4⟩ := Size_ok p
  obtain ⟨r, hr, hc, _⟩ := Rise_ok 200 l q (by omega) (by omega)
  have hG := Group_ok q 1 r (by omega) hc 0
  rw [List.drop_zero] at hG
  have hg := groupN_length q _ (itemsN q 1 r) (Nat.le_refl _)
  have hlen := itemsN_length q r 1
  have hr40 := hc.1
  unfold withylaw16_PackLast.f
  rw [hq, Option.bind_some, hr, Option.bind_some, Items_ok 200 r 1 q (by omega) hc (by omega) (by omega), Option.bind_some]
  dsimp only
  rw [hG, Option.bind_some, w64n _ (by omega), if_neg (by omega), w64i t (by omega)]
  have hm : Int.tmod t (((groupN q (itemsN q 1 r)).length + 1 : Nat) : Int) = ((t.toNat % ((groupN q (itemsN q 1 r)).length + 1) : Nat) : Int) := by
    rw [Int.tmod_eq_emod_of_nonneg ht.1, Int.natCast_emod, Int.toNat_of_nonneg ht.1]
  rw [hm]
  have hlt := Nat.mod_lt t.toNat (show 0 < (groupN q (itemsN q 1 r)).length + 1 by omega)
  obtain ⟨s, h1, h2, h3⟩ := groupN_from q _ (itemsN q 1 r) (Nat.le_refl _) (t.toNat % ((groupN q (itemsN q 1 r)).length + 1)) (by omega)
  have := PackLast_l q r 1 (by omega) hc _ s (by omega) h1 h2 h3 200 0 (by omega) (by omega)
  simpa using this
end Go.Proofs.Ytmheajenlhlbhaa.X

-- The row of PackLast: its statement out of the walk and the plain law.
namespace Go.Proofs.Ytmheajenlhlbhaa.packLast
open Go.ChangeShapes Go.WideShapes Go.ChangeAt Go.RowKit
open Go.ChangeMaps (open_string shut_string)
theorem own : ownKnob Try.prog.godebug = none := by kernel_rfl
theorem laidOut : laidOutB Try.prog = true := by kernel_rfl
set_option maxRecDepth 100000 in
theorem lifted (os : Os) (started : os.Started) (H : Type) (enc : TypeId × Value → H) :
    ReturnsInHanded {} Try.checked os 4 .any (Rows.packLastSpec.pre6 enc Try.prog Try.f4 Rows.packLastRow.domain false) (Rows.packLastSpec.post enc Try.prog Try.f4 false true false false) := by
  refine returnsInHanded_of_change_sized (C := Try.checked) own started (by kernel_rfl) Try.func4
    (ChangeSpec.witness6 (enc := enc) (C := Try.checked) false ⟨#[], #[.slice none 0 0, .int .i64 0, .int .u8 0], []⟩ 8 (by kernel_rfl) (by kernel_rfl) (by kernel_rfl) (by kernel_rfl)) ?_
  intro W base args ds gs before hval0 hW hcnd hsz0 _
  have hsz : (DataW.weightsEach Try.prog (Try.f4.params.toList ++ Rows.packLastSpec.plain.varTypes Try.prog) (ds ++ gs)).all (· ≤ reachBytes) = true := hsz0
  have hval : ∀ (j : Nat) t v, Try.f4.params[j]? = some t → args[j]? = some v → Value.okWide Try.prog W .any base t v := hval0
  have hW' := hW
  obtain ⟨p, q, hA0, hV, rfl, hfz, hnd⟩ := hW
  have hA : DataW.TrodAll enc Try.prog W 0 (fun _ => true) true Try.f4.params.toList args.toList ds p := hA0
  rw [Try.params4] at hA hval hsz
  obtain ⟨v0, vs0, d0, ds0, p0, q0, hargs, rfl, rfl, h0, r0⟩ := trodAll_cons hA
  obtain ⟨v1, vs1, d1, ds1, p1, q1, rfl, rfl, rfl, h1, r1⟩ := trodAll_cons r0
  obtain ⟨v2, vs2, d2, ds2, p2, q2, rfl, rfl, rfl, h2, r2⟩ := trodAll_cons r1
  obtain ⟨rfl, rfl, rfl⟩ := trodAll_nil r2
  obtain rfl : args = #[v0, v1, v2] := by cases args; simp_all
  obtain ⟨rfl, rfl⟩ := trodVars_none hV
  have k0 := h0
  have lt0 : ∀ x ∈ p0, x.block < W.heap.size := by obtain ⟨m, hm⟩ := k0; exact DataW.trod_lt m _ _ _ hm
  obtain ⟨A0, c0, l0, rfl, hC0, hc0⟩ := X.open_pairs (t := 22) hsz (j := 0) rfl rfl Try.underlying22 (okWide_slice Try.underlying22 (hval 0 22 v0 rfl rfl)) h0
  obtain ⟨a1, rfl, rfl, rfl, w1⟩ := open_int Try.underlying3 (hval 1 3 v1 rfl rfl) h1
  obtain ⟨a2, rfl, rfl, rfl, w2⟩ := open_int Try.underlying5 (hval 2 5 v2 rfl rfl) h2
  have b2 : 0 ≤ a2 ∧ a2 ≤ 255 := by simpa [Lit.wf, IntKind.min, IntKind.max, IntKind.bits, IntKind.signed] using w2
  clear hA0 hval0 hsz0 hsz
  refine (X.withylaw16_PackLast.calls 200 A0 c0 l0 a1 a2 true W hC0 hc0 (X.PackLast_true l0 a1 a2 b2)).mono fun e W' ⟨he, bel⟩ => ?_
  subst he
  exact ⟨_, rfl, _, _, _, [], _, [], hW', trodAll_mk1 (shut_bool Try.underlying4 _), (trodAll_cons_mk (Below.trod laidOut (by kernel_rfl) (of_decide_eq_true (by kernel_rfl)) k0 bel lt0) (trodAll_cons_mk (shut_int Try.underlying3 w1) (trodAll_cons_mk (shut_int Try.underlying5 w2) trodAll_mk0))), rfl, bel.frame _, fun h => by cases h⟩
theorem over : Rows.packLastRow.holds Try.pinned (OpenSpec.ofChange Rows.packLastSpec) :=
  OpenClaim.holds_of_wide 4 Try.f4 rfl rfl rfl rfl rfl rfl rfl ⟨rfl, rfl, rfl, rfl, rfl⟩ rfl rfl rfl rfl rfl (by kernel_rfl) Try.func4 (by kernel_rfl)
    (of_decide_eq_true (by kernel_rfl)) (by unfold Func.isWrapper; first | (rw [if_pos (by decide +kernel)]; kernel_rfl) | (rw [if_neg (by decide +kernel)]; exact ⟨rfl, rfl⟩))
    (fun os started H enc _ => lifted os started H enc)
theorem proved : Rows.PackLastSaid := over
#print axioms proved
end Go.Proofs.Ytmheajenlhlbhaa.packLast
namespace Go.Proofs.Ytmheajenlhlbhaa
/-- The row, under a short name, for the claim. -/
theorem packLast_holds : Rows.PackLastSaid := packLast.proved
end Go.Proofs.Ytmheajenlhlbhaa
