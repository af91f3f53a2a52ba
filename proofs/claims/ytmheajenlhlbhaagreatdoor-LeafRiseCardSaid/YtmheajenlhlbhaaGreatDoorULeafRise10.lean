/- What functions of the given program compute, step by step: the walks that the law LeafRise leans on, part 10. No conditions. -/
import Derived.Test.YtmheajenlhlbhaaGreatDoorULeafRise01
import Derived.Test.YtmheajenlhlbhaaGreatDoorULeafRise02
import Derived.Test.YtmheajenlhlbhaaGreatDoorULeafRise09
import Derived.Test.YtmheajenlhlbhaaGreatDoorVLeafRiseShelf
import Derived.Test.YtmheajenlhlbhaaGreatDoorULeafRise06
import Derived.Deep.QuietTactic
import Derived.BigQuiet
namespace Go.Proofs.YtmheajenlhlbhaaGreatDoor.X
open Go.RowKit Go.Proofs.YtmheajenlhlbhaaGreatDoorW.PrintWords Go.Proofs.YtmheajenlhlbhaaGreatDoorW.PrintLast Go.Proofs.YtmheajenlhlbhaaGreatDoorW.PrintMore
attribute [local go_sem] max2_int min2_int max_two min_two max_three min_three max_four min_four   -- for this text's walks alone
set_option linter.unusedVariables false
set_option linter.unusedSimpArgs false

def leaf_text.f (k : Nat) (s : ByteArray) (a : Int) : Option (ByteArray × Int × Bool) :=
  (word_Get.f k s a).bind fun g =>
    if g.2.2 = 0 then
      (if 0 ≤ g.1 ∧ 0 ≤ g.2.1 ∧ g.2.1 ≤ s.size ∧ s.size ≤ 1000000000 then
        (if (s.size : Int) - g.2.1 < g.1 then some (⟨#[]⟩, 0, true) else some (s.extract g.2.1.toNat (g.2.1 + g.1).toNat, g.2.1 + g.1, false))
      else none)
    else some (⟨#[]⟩, 0, true)
def textErr (bad : Bool) : Value := if bad = true then .iface 90 (.agg #[.string ⟨#[116, 101, 120, 116]⟩]) else .nilIface
set_option maxHeartbeats 1000000 in
theorem leaf_text.calls (k : Nat) (s : ByteArray) (a : Int) (r : ByteArray) (to_ : Int) (bad : Bool) (w : World) (h : leaf_text.f k s a = some (r, to_, bad)) :
    Calls Tryz.prog 85 #[.string s, .int .i64 a] w fun e w' => e = .returned (.tuple #[.string r, .int .i64 to_, textErr bad]) ∧ Below w.heap.size w w' := by
  unfold leaf_text.f at h
  obtain ⟨⟨n, t, e⟩, hg, h⟩ := Option.bind_eq_some_iff.mp h
  have HG := Aside0.mk hg
  clear hg
  dsimp only at h
  by_cases he : e = 0
  · rw [if_pos he] at h
    subst he
    by_cases hb : 0 ≤ n ∧ 0 ≤ t ∧ t ≤ s.size ∧ s.size ≤ 1000000000
    · rw [if_pos hb] at h
      obtain ⟨b1, b2, b3, b4⟩ := hb
      have hu : IntKind.u64.wrap ((s.size : Int) - t) = (s.size : Int) - t := u64_wrap_id (by omega) (by omega)
      have hw : IntKind.i64.wrap ((s.size : Int) - t) = (s.size : Int) - t := IntWalk.i64_in _ (by omega)
      by_cases hn : (s.size : Int) - t < n
      · rw [if_pos hn] at h
        simp only [Option.some.injEq, Prod.mk.injEq] at h
        obtain ⟨rfl, rfl, rfl⟩ := h
        have d1 : decide ((s.size : Int) - t < n) = true := decide_eq_true hn
        clear hn
        go_enter Tryz.func85, Tryz.ntmps85
        go_wp2_with (first | (go_at_call 138; ((with_reducible refine (word_Get.calls k s a n t 0 _ HG.out).mono ?_); rintro e w1 ⟨rfl, hb1⟩; have HB := Aside0.mk hb1; clear hb1)))
        go_ret3
        exact ⟨rfl, HB.out⟩
      · rw [if_neg hn] at h
        simp only [Option.some.injEq, Prod.mk.injEq] at h
        obtain ⟨rfl, rfl, rfl⟩ := h
        have d1 : decide ((s.size : Int) - t < n) = false := decide_eq_false hn
        have d2 : IntKind.i64.wrap n = n := IntWalk.i64_in _ (by omega)
        have d3 : IntKind.i64.wrap (t + n) = t + n := IntWalk.i64_in _ (by omega)
        have d4 : t ≤ t + n := by omega
        have d5 : t + n ≤ (s.size : Int) := by omega
        have d6 : n ≤ 1000000000 := by omega
        clear hn
        go_enter Tryz.func85, Tryz.ntmps85
        go_wp2_with (first | (go_at_call 138; ((with_reducible refine (word_Get.calls k s a n t 0 _ HG.out).mono ?_); rintro e w1 ⟨rfl, hb1⟩; have HB := Aside0.mk hb1; clear hb1)))
        go_ret3
        exact ⟨rfl, HB.out⟩
    · rw [if_neg hb] at h
      cases h
  · rw [if_neg he] at h
    simp only [Option.some.injEq, Prod.mk.injEq] at h
    obtain ⟨rfl, rfl, rfl⟩ := h
    have d1 : (e != 0) = true := by simpa using he
    clear he
    go_enter Tryz.func85, Tryz.ntmps85
    go_wp2_with (first | (go_at_call 138; ((with_reducible refine (word_Get.calls k s a n t e _ HG.out).mono ?_); rintro e w1 ⟨rfl, hb1⟩; have HB := Aside0.mk hb1; clear hb1)))
    go_ret3
    exact ⟨rfl, HB.out⟩


end Go.Proofs.YtmheajenlhlbhaaGreatDoor.X


namespace Go.Proofs.YtmheajenlhlbhaaGreatDoor.X
open Go.RowKit Go.Proofs.YtmheajenlhlbhaaGreatDoorW.PrintWords Go.Proofs.YtmheajenlhlbhaaGreatDoorW.PrintLast Go.Proofs.YtmheajenlhlbhaaGreatDoorW.PrintMore
attribute [local go_sem] max2_int min2_int max_two min_two max_three min_three max_four min_four   -- for this text's walks alone
set_option linter.unusedVariables false
set_option linter.unusedSimpArgs false

theorem spot_none {w : World} {a : Addr} {v : Value} (h : w.cell? a = some v) : a.spot = none := by
  unfold World.cell? at h
  split at h
  · by_cases hs : a.spot.isSome
    · rw [if_pos hs] at h
      exact absurd h (by simp)
    · cases hsp : a.spot with
      | none => rfl
      | some x => rw [hsp] at hs; exact absurd rfl hs
  · exact absurd h (by simp)
theorem strs_cells {w : World} {A : Option Addr} {l : List ByteArray} (hr : Kd.C Kd.string w A l.length l) (h0 : 0 < l.length) :
    ∃ bk o, A = some ⟨bk, o, none⟩ ∧ bk < w.heap.size ∧ ∀ (j : Nat) x, l[j]? = some x → w.cell? ⟨bk, o + j, none⟩ = some (.string x) := by
  obtain ⟨ad, e, h⟩ := Kd.at_string hr 0 (by omega) (by omega)
  have hs : ad.spot = none := spot_none (a := ad) (by simpa [Addr.add] using h)
  have hb : ad.block < w.heap.size := World.block_lt_of_cell? w ad (by simpa [Addr.add] using h)
  obtain ⟨bk, o, sp⟩ := ad
  obtain rfl : sp = none := hs
  refine ⟨bk, o, e, hb, fun j x hj => ?_⟩
  have hlt : j < l.length := by
    rcases Nat.lt_or_ge j l.length with h' | h'
    · exact h'
    · rw [List.getElem?_eq_none h'] at hj
      cases hj
  obtain ⟨ad2, e2, h2⟩ := Kd.at_string hr (j : Int) (by omega) (by omega)
  obtain rfl : (⟨bk, o, none⟩ : Addr) = ad2 := by rw [e] at e2; exact Option.some.inj e2
  rw [Int.toNat_natCast] at h2
  have e3 : (⟨bk, o, none⟩ : Addr).add j = ⟨bk, o + j, none⟩ := by
    unfold Addr.add
    split
    · rename_i h0
      rw [h0]
      rfl
    · rfl
  rw [e3] at h2
  rw [h2]
  simp only [rdOf, List.getD_eq_getElem?_getD, Int.toNat_natCast, hj, Option.getD_some]

def strings_Join.f (l : List ByteArray) (sep : ByteArray) : Option ByteArray :=
  if l.length ≤ 2000000000000 ∧ (Lib.join (l.map (·.data.toList)) sep.data.toList).length ≤ 140737488355328 then some ⟨(Lib.join (l.map (·.data.toList)) sep.data.toList).toArray⟩ else none
theorem strings_Join.calls (A0 : Option Addr) (c0 : Nat) (l0 : List ByteArray) (a1 : ByteArray) (r : ByteArray) (w : World) (hr0 : Kd.C Kd.string w A0 l0.length l0) (hc0 : l0.length ≤ c0) (h : strings_Join.f l0 a1 = some r) :
    Calls Tryz.prog 152 #[.slice A0 l0.length c0, .string a1] w fun e w' => e = .returned (.string r) ∧ Below w.heap.size w w' := by
  unfold strings_Join.f at h
  by_cases hs : l0.length ≤ 2000000000000 ∧ (Lib.join (l0.map (·.data.toList)) a1.data.toList).length ≤ 140737488355328
  · rw [if_pos hs] at h
    obtain rfl := Option.some.inj h
    rcases Nat.eq_zero_or_pos l0.length with h0 | h0
    · obtain rfl : l0 = [] := List.eq_nil_of_length_eq_zero h0
      refine (Tryz.strings_Join_none A0 c0 a1 w).mono ?_
      rintro e w' ⟨rfl, rfl⟩
      exact ⟨rfl, Below.refl _ _⟩
    · obtain ⟨bk, o, rfl, hb, hcell⟩ := strs_cells hr0 h0
      exact Tryz.strings_Join bk o c0 l0 a1 w hcell hb (by omega) hc0 hs.2
  · rw [if_neg hs] at h
    exact absurd h (by simp)


end Go.Proofs.YtmheajenlhlbhaaGreatDoor.X


namespace Go.Proofs.YtmheajenlhlbhaaGreatDoor.X
open Go.RowKit Go.Proofs.YtmheajenlhlbhaaGreatDoorW.PrintWords Go.Proofs.YtmheajenlhlbhaaGreatDoorW.PrintLast Go.Proofs.YtmheajenlhlbhaaGreatDoorW.PrintMore
attribute [local go_sem] max2_int min2_int max_two min_two max_three min_three max_four min_four   -- for this text's walks alone
set_option linter.unusedVariables false
set_option linter.unusedSimpArgs false

def slot_Size_raw.f (a0 : ByteArray) (l1 : List ByteArray) : Option (Int) := (strings_Join.f l1 (⟨#[]⟩ : ByteArray)).bind fun t150 => (some (wrap64 ((wrap64 ((a0.size : Int) + (t150.size : Int))) + (wrap64 (2 * (wrap64 ((l1.length : Int) + 1)))))))
set_option maxHeartbeats 8000000 in
set_option maxRecDepth 100000 in
theorem slot_Size_raw.calls (a0 : ByteArray) (A1 : Option Addr) (c1 : Nat) (l1 : List ByteArray) (r : Int) (w : World) (hr1 : Kd.C Kd.string w A1 l1.length l1) (hc1 : l1.length ≤ c1) (h : slot_Size_raw.f a0 l1 = some r) :
    Calls Tryz.prog 101 #[.string a0, .slice A1 l1.length c1] w fun e w' => e = .returned (.int .i64 r) ∧ Below w.heap.size w w' := by
  have HR1 := Aside0.mk hr1
  have HC1 := Aside0.mk hc1
  clear hr1 hc1
  have HB := Aside0.mk (Below.refl w.heap.size w)
  have H : ((strings_Join.f l1 (⟨#[]⟩ : ByteArray)).bind fun t150 => (some (wrap64 ((wrap64 ((a0.size : Int) + (t150.size : Int))) + (wrap64 (2 * (wrap64 ((l1.length : Int) + 1)))))))) = some r := h
  clear h
  replace H := Option.bind_eq_some_iff.mp H
  obtain ⟨t150, A30, H⟩ := H
  replace H : (some (wrap64 ((wrap64 ((a0.size : Int) + (t150.size : Int))) + (wrap64 (2 * (wrap64 ((l1.length : Int) + 1))))))) = some r := H
  have A3 := Aside0.mk A30
  clear A30
  obtain rfl := Option.some.inj H
  go_enter Tryz.func101, Tryz.ntmps101
  go_wp2_with (first | ((with_reducible refine gate_callee (f := 152) rfl ?_); refine goesL_ (some 8) rfl rfl Tryz.func152 (by kernel_rfl) rfl #[.slice A1 l1.length c1, .string (⟨#[]⟩ : ByteArray)] rfl (by (try simp only [List.map_toArray, List.map_cons, List.map_nil]); first | done | rfl | (simp only [List.length_drop, List.length_take]; rfl)) ?_; (with_reducible refine (strings_Join.calls _ _ l1 (⟨#[]⟩ : ByteArray) t150 _ ?side1 ?side2 A3.out).mono ?_); (case side1 => repeat (first | exact HR1.out | (with_reducible refine Kd.C_alloc ?_ _) | (with_reducible refine Kd.C_drewN ?_ _) | (with_reducible refine Kd.C_drew ?_))); (case side2 => exact HC1.out); rintro e w4 ⟨rfl, hb⟩; refine ⟨_, rfl, ?_⟩; have n0_ := Aside0.mk (below_step (by repeat (first | (with_reducible first | exact HB.out | apply below_alloc | apply pw_below_drewN | apply below_drew1) | exact HB.out)) hb); clear HB; have HB := n0_; clear n0_; (try clear hb); (try clear hb2); (try clear hk); (try clear hi)))
  go_ret
  exact ⟨by first | rfl | (simp [errW_none, errW_some] <;> rfl) | (simp [*, errW_none, errW_some] <;> rfl), by repeat (first | (with_reducible first | exact HB.out | apply below_alloc | apply pw_below_drewN | apply below_drew1) | exact HB.out)⟩

end Go.Proofs.YtmheajenlhlbhaaGreatDoor.X


namespace Go.Proofs.YtmheajenlhlbhaaGreatDoor.X
open Go.RowKit Go.Proofs.YtmheajenlhlbhaaGreatDoorW.PrintWords Go.Proofs.YtmheajenlhlbhaaGreatDoorW.PrintLast Go.Proofs.YtmheajenlhlbhaaGreatDoorW.PrintMore
attribute [local go_sem] max2_int min2_int max_two min_two max_three min_three max_four min_four   -- for this text's walks alone
set_option linter.unusedVariables false
set_option linter.unusedSimpArgs false

def sizeSum (l : List ByteArray) : Nat := (l.map ByteArray.size).sum
theorem join_nil_length (l : List ByteArray) : (Lib.join (l.map (·.data.toList)) []).length = sizeSum l := by
  cases l with
  | nil => rfl
  | cons a r =>
    rw [List.map_cons, Lib.join_cons]
    have : ∀ (r : List ByteArray), (Lib.joinTail [] (r.map (·.data.toList))).length = sizeSum r := by
      intro r
      induction r with
      | nil => rfl
      | cons b r ih =>
        simp only [Lib.joinTail, sizeSum, List.map_cons, List.nil_append, List.flatten_cons, List.length_append, List.sum_cons, List.map_map] at ih ⊢
        have hb : b.data.toList.length = b.size := by rw [Array.length_toList]; rfl
        simp only [Function.comp_def, List.nil_append] at ih ⊢
        omega
    rw [List.length_append, this]
    have hb : a.data.toList.length = a.size := by rw [Array.length_toList]; rfl
    rw [hb]
    rfl
def slot_Size.f (a : ByteArray) (l : List ByteArray) : Option Int := if a.size ≤ 10000000000 ∧ l.length ≤ 1000000000 ∧ sizeSum l ≤ 100000000000000 then some ((a.size + sizeSum l + 2 * (l.length + 1) : Nat) : Int) else none
theorem slot_Size.calls (a0 : ByteArray) (A1 : Option Addr) (c1 : Nat) (l1 : List ByteArray) (r : Int) (w : World) (hr1 : Kd.C Kd.string w A1 l1.length l1) (hc1 : l1.length ≤ c1) (h : slot_Size.f a0 l1 = some r) :
    Calls Tryz.prog 101 #[.string a0, .slice A1 l1.length c1] w fun e w' => e = .returned (.int .i64 r) ∧ Below w.heap.size w w' := by
  unfold slot_Size.f at h
  by_cases hs : a0.size ≤ 10000000000 ∧ l1.length ≤ 1000000000 ∧ sizeSum l1 ≤ 100000000000000
  · rw [if_pos hs] at h
    refine slot_Size_raw.calls a0 A1 c1 l1 r w hr1 hc1 ?_
    obtain ⟨h1, h2, h3⟩ := hs
    have hj := join_nil_length l1
    unfold slot_Size_raw.f strings_Join.f
    rw [show ((⟨#[]⟩ : ByteArray).data.toList) = [] from rfl, if_pos ⟨by omega, by omega⟩]
    simp only [Option.bind_some]
    have hz : ((⟨(Lib.join (l1.map (·.data.toList)) []).toArray⟩ : ByteArray)).size = sizeSum l1 := by
      rw [← hj]
      exact List.size_toArray
    rw [hz, wrap64_id (n := (a0.size : Int) + (sizeSum l1 : Int)) (by omega) (by omega), wrap64_id (n := (l1.length : Int) + 1) (by omega) (by omega), wrap64_id (n := 2 * ((l1.length : Int) + 1)) (by omega) (by omega), wrap64_id (by omega) (by omega), ← h]
    congr 1
  · rw [if_neg hs] at h
    exact absurd h (by simp)


end Go.Proofs.YtmheajenlhlbhaaGreatDoor.X


namespace Go.Proofs.YtmheajenlhlbhaaGreatDoor.X
open Go.RowKit Go.Proofs.YtmheajenlhlbhaaGreatDoorW.PrintWords Go.Proofs.YtmheajenlhlbhaaGreatDoorW.PrintLast Go.Proofs.YtmheajenlhlbhaaGreatDoorW.PrintMore
attribute [local go_sem] max2_int min2_int max_two min_two max_three min_three max_four min_four   -- for this text's walks alone
set_option linter.unusedVariables false
set_option linter.unusedSimpArgs false

def slot_place.f (a0 : Int) : Option (ByteArray) := some (strOfNums (([(a0) % 256, (a0 / 256) % 256] : List Int)))
set_option maxHeartbeats 8000000 in
set_option maxRecDepth 100000 in
theorem slot_place.calls (a0 : Int) (r : ByteArray) (w : World) (h : slot_place.f a0 = some r) :
    Calls Tryz.prog 150 #[.int .i64 a0] w fun e w' => e = .returned (.string r) ∧ Below w.heap.size w w' := by
  have HB := Aside0.mk (Below.refl w.heap.size w)
  have H : (some (strOfNums (([(a0) % 256, (a0 / 256) % 256] : List Int)))) = some r := h
  clear h
  obtain ⟨y151, hy151⟩ : ∃ y_ : List Int, y_ = (([(a0) % 256, (a0 / 256) % 256] : List Int)) := ⟨_, rfl⟩
  replace H : (some (strOfNums y151)) = some r := by first | (rw [hy151]; with_reducible exact H) | (have H2_ := (Option.bind_some _ _).symm.trans H; rw [hy151]; with_reducible exact H2_) | (have H2_ := (Option.bind_some _ _).symm.trans H; with_reducible exact H2_) | with_reducible exact H | (rw [hy151]; exact H) | exact H
  have Ny151 := Aside0.mk hy151
  clear hy151
  obtain rfl := Option.some.inj H
  go_enter Tryz.func150, Tryz.ntmps150
  go_wp2_with (first | ((with_reducible refine gate_dst (N := 8) rfl ?_); refine Kd.R_lit (Kd.int .u8) _ 5 ?hg (N := 8) ?hd (xs := ([(a0) % 256, (a0 / 256) % 256] : List Int)) (inner := [.int .u8 ((a0) % 256), .int .u8 ((a0 / 256) % 256)]) (ok := fun _ => True) (okp := fun _ => True) ?hr ?hp (fun _ hk => hk) trivial (Below.refl _ _) (Nat.le_refl _) (by simp) ?_; (case hd => rfl); (case hg => rfl); (case hr => first | (go_simp; done) | (go_simp; rfl)); (case hp => exact (Reps.one (show Kd.M (Kd.int .u8) _ _ _ ((a0) % 256) [.int .u8 ((a0) % 256)] from rfl) (Reps.one (show Kd.M (Kd.int .u8) _ _ _ ((a0 / 256) % 256) [.int .u8 ((a0 / 256) % 256)] from rfl) (Reps.none _ _)))); intro v152 w2 ho3 hb hg_ hnew_; clear hg_ hnew_; (first | rw [← Ny151.out] at ho3 | (simp only [Int.reduceToNat] at ho3; rw [← Ny151.out] at ho3)); have n0_ := Aside0.mk (Kd.R_lower ho3 (below_size (by repeat (first | (with_reducible first | exact HB.out | apply below_alloc | apply pw_below_drewN | apply below_drew1) | exact HB.out)))); have n1_ := Aside0.mk (below_step (by repeat (first | (with_reducible first | exact HB.out | apply below_alloc | apply pw_below_drewN | apply below_drew1) | exact HB.out)) hb); clear HB; have HO153 := n0_; have HB := n1_; clear n0_ n1_; clear hb ho3; have hcv4 := own_string (P := Tryz.prog) Tryz.underlying96 Tryz.underlying5 Tryz.underlying9 (Kd.own_of_R HO153.out)))
  go_ret
  exact ⟨by first | rfl | (simp [errW_none, errW_some] <;> rfl) | (simp [*, errW_none, errW_some] <;> rfl), by repeat (first | (with_reducible first | exact HB.out | apply below_alloc | apply pw_below_drewN | apply below_drew1) | exact HB.out)⟩

end Go.Proofs.YtmheajenlhlbhaaGreatDoor.X


namespace Go.Proofs.YtmheajenlhlbhaaGreatDoor.X
open Go.RowKit Go.Proofs.YtmheajenlhlbhaaGreatDoorW.PrintWords Go.Proofs.YtmheajenlhlbhaaGreatDoorW.PrintLast Go.Proofs.YtmheajenlhlbhaaGreatDoorW.PrintMore
attribute [local go_sem] max2_int min2_int max_two min_two max_three min_three max_four min_four   -- for this text's walks alone
set_option linter.unusedVariables false
set_option linter.unusedSimpArgs false

mutual
def slot_Pack_raw.j0 : Nat → Int → ByteArray → List ByteArray → Bool → Option (ByteArray × Int)
  | 0, _, _, _, _ => none
  | k + 1, x0, x1, x2, x17 => if x17 = true then (some ((⟨#[]⟩ : ByteArray), 4)) else ((slot_Size.f x1 x2).bind fun t154 => (if t154 > x0 then (some ((⟨#[]⟩ : ByteArray), 8)) else (slot_Pack_raw.l0 k x0 x1 (⟨#[]⟩ : ByteArray) x2 (x2.length : Int) 0)))
def slot_Pack_raw.l0 : Nat → Int → ByteArray → ByteArray → List ByteArray → Int → Int → Option (ByteArray × Int)
  | 0, _, _, _, _, _, _ => none
  | k + 1, x0, x8, x9, x24, x25, x26 => if x26 < x25 then (if 0 ≤ x26 then (if x26 < (x24.length : Int) then ((slot_place.f (x8.size : Int)).bind fun t156 => (if t156.size + x9.size ≤ 9223372036854775807 then (if x8.size + (rdOf ByteArray.empty x24 x26).size ≤ 9223372036854775807 then (slot_Pack_raw.l0 k x0 (x8 ++ (rdOf ByteArray.empty x24 x26)) (t156 ++ x9) x24 x25 (wrap64 (x26 + 1))) else (none)) else (none))) else (none)) else (none)) else ((slot_place.f (x8.size : Int)).bind fun t157 => (if t157.size + x9.size ≤ 9223372036854775807 then ((strings_Repeat.f (⟨#[0]⟩ : ByteArray) (wrap64 ((wrap64 (x0 - (x8.size : Int))) - ((t157 ++ x9).size : Int)))).bind fun t158 => (if x8.size + t158.size ≤ 9223372036854775807 then (if (x8 ++ t158).size + (t157 ++ x9).size ≤ 9223372036854775807 then (some ((x8 ++ t158) ++ (t157 ++ x9), 0)) else (none)) else (none))) else (none)))
end
def slot_Pack_raw.f (k : Nat) (a0 : Int) (a1 : ByteArray) (l2 : List ByteArray) : Option (ByteArray × Int) := if a0 < 0 then (slot_Pack_raw.j0 k a0 a1 l2 true) else (slot_Pack_raw.j0 k a0 a1 l2 (decide (a0 > 65535)))
set_option maxHeartbeats 8000000 in
set_option maxRecDepth 100000 in
theorem slot_Pack_raw.calls (k : Nat) (a0 : Int) (a1 : ByteArray) (A2 : Option Addr) (c2 : Nat) (l2 : List ByteArray) (r1 : ByteArray) (r2 : Int) (w : World) (hr2 : Kd.C Kd.string w A2 l2.length l2) (hc2 : l2.length ≤ c2) (h : slot_Pack_raw.f k a0 a1 l2 = some (r1, r2)) :
    Calls Tryz.prog 96 #[.int .i64 a0, .string a1, .slice A2 l2.length c2] w fun e w' => e = .returned (.tuple #[.string r1, .int .i64 r2]) ∧ Below w.heap.size w w' := by
  have HR2 := Aside0.mk hr2
  have HC2 := Aside0.mk hc2
  clear hr2 hc2
  have HB := Aside0.mk (Below.refl w.heap.size w)
  have H : (if a0 < 0 then (slot_Pack_raw.j0 k a0 a1 l2 true) else (slot_Pack_raw.j0 k a0 a1 l2 (decide (a0 > 65535)))) = some (r1, r2) := h
  clear h
  have HC4 := Aside0.mk H
  clear H
  go_enter Tryz.func96, Tryz.ntmps96
  go_upto_region 1 with (fail)
  go_cut [17] (fun v17 wc => ∃ (kq : Nat) (x17_3 : Bool), v17 = .bool x17_3 ∧ Aside0 (slot_Pack_raw.j0 kq a0 a1 l2 x17_3 = some (r1, r2)) ∧ Aside0 (kq ≤ k) ∧ Aside0 (Below w.heap.size w wc))
  case first =>
    have H := HC4.out
    clear HC4
    by_cases c5 : a0 < 0
    · rw [if_pos c5] at H
      have c5b0 : decide (a0 < 0) = true := decide_eq_true c5
      clear c5
      (first | rw [c5b0] | (simp only [i64_w, i32_w]; rw [c5b0]) | skip)
      have H' := Aside0.mk H
      clear H
      go_wp2
      go_meet
      case rel => exact ⟨_, (true), (by first | rfl | (simp; done) | (simp [*]; done)), H', ⟨by first | omega | exact Nat.le_refl _⟩, ⟨by repeat (first | (with_reducible first | exact HB.out | apply below_alloc | apply pw_below_drewN | apply below_drew1) | exact HB.out)⟩⟩
    · rw [if_neg c5] at H
      have c5b0 : decide (a0 < 0) = false := decide_eq_false c5
      clear c5
      (first | rw [c5b0] | (simp only [i64_w, i32_w]; rw [c5b0]) | skip)
      have H' := Aside0.mk H
      clear H
      go_wp2
      go_meet
      case rel => exact ⟨_, (decide (a0 > 65535)), (by first | rfl | (simp; done) | (simp [*]; done)), H', ⟨by first | omega | exact Nat.le_refl _⟩, ⟨by repeat (first | (with_reducible first | exact HB.out | apply below_alloc | apply pw_below_drewN | apply below_drew1) | exact HB.out)⟩⟩
  case rest =>
    clear HC4
    try clear c2
    try clear p2
    try clear c5
    try clear c5b0
    obtain ⟨kq, x17_3, rfl, HA, HJ3, HB⟩ := hcut
    cases kq with
    | zero => exact absurd HA.out (by simp [slot_Pack_raw.j0])
    | succ kj3 =>
      have H := HA.out
      clear HA
      simp only [slot_Pack_raw.j0] at H
      by_cases c6 : x17_3 = true
      · subst c6
        have H1 : (some ((⟨#[]⟩ : ByteArray), 4)) = some (r1, r2) := by rw [if_pos rfl] at H; exact H
        clear H
        have H := H1
        clear H1
        simp only [Option.some.injEq, Prod.mk.injEq] at H
        obtain ⟨rfl, rfl⟩ := H
        go_wp2
        go_ret2
        exact ⟨by first | rfl | (simp [errW_none, errW_some] <;> rfl) | (simp [*, errW_none, errW_some] <;> rfl), by repeat (first | (with_reducible first | exact HB.out | apply below_alloc | apply pw_below_drewN | apply below_drew1) | exact HB.out)⟩
      · replace c6 := Bool.eq_false_iff.mpr c6
        subst c6
        have H1 : ((slot_Size.f a1 l2).bind fun t154 => (if t154 > a0 then (some ((⟨#[]⟩ : ByteArray), 8)) else (slot_Pack_raw.l0 kj3 a0 a1 (⟨#[]⟩ : ByteArray) l2 (l2.length : Int) 0))) = some (r1, r2) := by rw [if_neg (show ¬ (false = true) by decide)] at H; exact H
        clear H
        have H := H1
        clear H1
        replace H := Option.bind_eq_some_iff.mp H
        obtain ⟨t154, A70, H⟩ := H
        replace H : (if t154 > a0 then (some ((⟨#[]⟩ : ByteArray), 8)) else (slot_Pack_raw.l0 kj3 a0 a1 (⟨#[]⟩ : ByteArray) l2 (l2.length : Int) 0)) = some (r1, r2) := H
        try simp only [ByteArray.size_append, Int.natCast_add] at A70
        have A7 := Aside0.mk A70
        clear A70
        by_cases c8 : t154 > a0
        · rw [if_pos c8] at H
          have c8b0 : decide (a0 < t154) = true := decide_eq_true c8
          clear c8
          simp only [Option.some.injEq, Prod.mk.injEq] at H
          obtain ⟨rfl, rfl⟩ := H
          go_wp2_with (first | ((with_reducible refine gate_callee (f := 101) rfl ?_); refine goesL_ (some 20) rfl rfl Tryz.func101 (by kernel_rfl) rfl #[.string a1, .slice A2 l2.length c2] rfl (by (try simp only [List.map_toArray, List.map_cons, List.map_nil]); first | done | rfl | (simp only [List.length_drop, List.length_take]; rfl)) ?_; (with_reducible refine (slot_Size.calls a1 _ _ l2 t154 _ ?side1 ?side2 A7.out).mono ?_); (case side1 => repeat (first | exact (Kd.C_below HR2.out HB.out) | (with_reducible refine Kd.C_alloc ?_ _) | (with_reducible refine Kd.C_drewN ?_ _) | (with_reducible refine Kd.C_drew ?_))); (case side2 => exact HC2.out); rintro e w9 ⟨rfl, hb⟩; refine ⟨_, rfl, ?_⟩; have n0_ := Aside0.mk (below_step (by repeat (first | (with_reducible first | exact HB.out | apply below_alloc | apply pw_below_drewN | apply below_drew1) | exact HB.out)) hb); clear HB; have HB := n0_; clear n0_; (try clear hb); (try clear hb2); (try clear hk); (try clear hi)))
          go_ret2
          exact ⟨by first | rfl | (simp [errW_none, errW_some] <;> rfl) | (simp [*, errW_none, errW_some] <;> rfl), by repeat (first | (with_reducible first | exact HB.out | apply below_alloc | apply pw_below_drewN | apply below_drew1) | exact HB.out)⟩
        · rw [if_neg c8] at H
          have c8b0 : decide (a0 < t154) = false := decide_eq_false c8
          clear c8
          have H' := Aside0.mk H
          clear H
          go_wp2_with (first | ((with_reducible refine gate_callee (f := 101) rfl ?_); refine goesL_ (some 20) rfl rfl Tryz.func101 (by kernel_rfl) rfl #[.string a1, .slice A2 l2.length c2] rfl (by (try simp only [List.map_toArray, List.map_cons, List.map_nil]); first | done | rfl | (simp only [List.length_drop, List.length_take]; rfl)) ?_; (with_reducible refine (slot_Size.calls a1 _ _ l2 t154 _ ?side1 ?side2 A7.out).mono ?_); (case side1 => repeat (first | exact (Kd.C_below HR2.out HB.out) | (with_reducible refine Kd.C_alloc ?_ _) | (with_reducible refine Kd.C_drewN ?_ _) | (with_reducible refine Kd.C_drew ?_))); (case side2 => exact HC2.out); rintro e w10 ⟨rfl, hb⟩; refine ⟨_, rfl, ?_⟩; have n0_ := Aside0.mk (below_step (by repeat (first | (with_reducible first | exact HB.out | apply below_alloc | apply pw_below_drewN | apply below_drew1) | exact HB.out)) hb); clear HB; have HB := n0_; clear n0_; (try clear hb); (try clear hb2); (try clear hk); (try clear hi)))
          go_loopg [8, 9, 26] kj3 (fun kq v8 v9 v26 w' => ∃ (x8_2 : ByteArray) (x9_2 : ByteArray) (x26_2 : Int), v8 = .string x8_2 ∧ v9 = .string x9_2 ∧ v26 = .int .i64 x26_2 ∧ Aside0 (slot_Pack_raw.l0 kq a0 x8_2 x9_2 l2 (l2.length : Int) x26_2 = some (r1, r2)) ∧ Aside0 (kq ≤ kj3) ∧ Aside0 (Below w.heap.size w w'))
          case atStart => exact ⟨(a1), ((⟨#[]⟩ : ByteArray)), (0), (by first | rfl | (simp; done) | (simp [*]; done)), (by first | rfl | (simp; done) | (simp [*]; done)), (by first | rfl | (simp; done) | (simp [*]; done)), H', ⟨Nat.le_refl _⟩, ⟨by repeat (first | (with_reducible first | exact HB.out | apply below_alloc | apply pw_below_drewN | apply below_drew1) | exact HB.out)⟩⟩
          case round =>
            clear H'
            try clear c1
            try clear c2
            try clear p2
            try clear c5
            try clear c5b0
            try clear c6
            try clear c8
            try clear c8b0
            try clear c9
            try clear c10
            try clear p2
            obtain ⟨x8_2, x9_2, x26_2, rfl, rfl, rfl, HA, HK2, HB⟩ := hrel
            cases gk with
            | zero => exact absurd HA.out (by simp [slot_Pack_raw.l0])
            | succ k2 =>
              have H := HA.out
              clear HA
              simp only [slot_Pack_raw.l0] at H
              by_cases c11 : x26_2 < (l2.length : Int)
              · rw [if_pos c11] at H
                have c11b0 : decide (x26_2 < (l2.length : Int)) = true := decide_eq_true c11
                clear c11
                by_cases c12 : 0 ≤ x26_2
                · rw [if_pos c12] at H
                  have c12b0 : decide (0 ≤ x26_2) = true := decide_eq_true c12
                  clear c12
                  by_cases c13 : x26_2 < (l2.length : Int)
                  · rw [if_pos c13] at H
                    have c13b0 : decide (x26_2 < (l2.length : Int)) = true := decide_eq_true c13
                    clear c13
                    replace H := Option.bind_eq_some_iff.mp H
                    obtain ⟨t156, A140, H⟩ := H
                    replace H : (if t156.size + x9_2.size ≤ 9223372036854775807 then (if x8_2.size + (rdOf ByteArray.empty l2 x26_2).size ≤ 9223372036854775807 then (slot_Pack_raw.l0 k2 a0 (x8_2 ++ (rdOf ByteArray.empty l2 x26_2)) (t156 ++ x9_2) l2 (l2.length : Int) (wrap64 (x26_2 + 1))) else (none)) else (none)) = some (r1, r2) := H
                    try simp only [ByteArray.size_append, Int.natCast_add] at A140
                    have A14 := Aside0.mk A140
                    clear A140
                    by_cases c15 : t156.size + x9_2.size ≤ 9223372036854775807
                    · rw [if_pos c15] at H
                      have c15b0 := eq_true c15
                      have c15b1 : decide (t156.size + x9_2.size ≤ 9223372036854775807) = true := decide_eq_true c15
                      try have c15b2 : (9223372036854775807 < t156.size + x9_2.size) = False := eq_false (Nat.not_lt.2 c15)
                      by_cases c16 : x8_2.size + (rdOf ByteArray.empty l2 x26_2).size ≤ 9223372036854775807
                      · rw [if_pos c16] at H
                        have c16b0 := eq_true c16
                        have c16b1 : decide (x8_2.size + (rdOf ByteArray.empty l2 x26_2).size ≤ 9223372036854775807) = true := decide_eq_true c16
                        try have c16b2 : (9223372036854775807 < x8_2.size + (rdOf ByteArray.empty l2 x26_2).size) = False := eq_false (Nat.not_lt.2 c16)
                        have H' := Aside0.mk H
                        clear H
                        have p155 : 0 ≤ (x26_2 : Int) := of_decide_eq_true (by first | (with_reducible assumption) | assumption)
                        have q155 : x26_2 < (l2.length : Int) := of_decide_eq_true (by first | (with_reducible assumption) | assumption)
                        obtain ⟨ad155, e155, hx155_0⟩ := Kd.at_string HR2.out x26_2 p155 q155
                        cases e155
                        replace hx155_0 := (HB.out.cell (World.block_lt_of_cell? w _ hx155_0)).trans hx155_0
                        replace p155 := eq_true p155
                        replace q155 := eq_true q155
                        go_wp2_with (first | ((with_reducible refine gate_callee (f := 150) rfl ?_); refine goesL_ (some 32) rfl rfl Tryz.func150 (by kernel_rfl) rfl #[.int .i64 (x8_2.size : Int)] rfl (by (try simp only [List.map_toArray, List.map_cons, List.map_nil]); first | done | rfl | (simp only [List.length_drop, List.length_take]; rfl)) ?_; (with_reducible refine (slot_place.calls (x8_2.size : Int) t156 _ A14.out).mono ?_); rintro e w17 ⟨rfl, hb⟩; refine ⟨_, rfl, ?_⟩; have n0_ := Aside0.mk (below_step (by repeat (first | (with_reducible first | exact HB.out | apply below_alloc | apply pw_below_drewN | apply below_drew1) | exact HB.out)) hb); clear HB; have HB := n0_; clear n0_; (try clear hb); (try clear hb2); (try clear hk); (try clear hi)))
                        go_roundg k2
                        case measure => have := HJ3.out; have := HK2.out; omega
                        case rel => exact ⟨(x8_2 ++ (rdOf ByteArray.empty l2 x26_2)), (t156 ++ x9_2), (wrap64 (x26_2 + 1)), (by first | rfl | (simp; done) | (simp [*]; done)), (by first | rfl | (simp; done) | (simp [*]; done)), (by first | rfl | (simp; done) | (simp [*]; done)), H', ⟨by have := HJ3.out; have := HK2.out; omega⟩, ⟨by repeat (first | (with_reducible first | exact HB.out | apply below_alloc | apply pw_below_drewN | apply below_drew1) | exact HB.out)⟩⟩
                      · rw [if_neg c16] at H
                        exact absurd H (by simp)
                    · rw [if_neg c15] at H
                      exact absurd H (by simp)
                  · rw [if_neg c13] at H
                    exact absurd H (by simp)
                · rw [if_neg c12] at H
                  exact absurd H (by simp)
              · rw [if_neg c11] at H
                have c11b0 : decide (x26_2 < (l2.length : Int)) = false := decide_eq_false c11
                clear c11
                replace H := Option.bind_eq_some_iff.mp H
                obtain ⟨t157, A180, H⟩ := H
                replace H : (if t157.size + x9_2.size ≤ 9223372036854775807 then ((strings_Repeat.f (⟨#[0]⟩ : ByteArray) (wrap64 ((wrap64 (a0 - (x8_2.size : Int))) - ((t157 ++ x9_2).size : Int)))).bind fun t158 => (if x8_2.size + t158.size ≤ 9223372036854775807 then (if (x8_2 ++ t158).size + (t157 ++ x9_2).size ≤ 9223372036854775807 then (some ((x8_2 ++ t158) ++ (t157 ++ x9_2), 0)) else (none)) else (none))) else (none)) = some (r1, r2) := H
                try simp only [ByteArray.size_append, Int.natCast_add] at A180
                have A18 := Aside0.mk A180
                clear A180
                by_cases c19 : t157.size + x9_2.size ≤ 9223372036854775807
                · rw [if_pos c19] at H
                  have c19b0 := eq_true c19
                  have c19b1 : decide (t157.size + x9_2.size ≤ 9223372036854775807) = true := decide_eq_true c19
                  try have c19b2 : (9223372036854775807 < t157.size + x9_2.size) = False := eq_false (Nat.not_lt.2 c19)
                  replace H := Option.bind_eq_some_iff.mp H
                  obtain ⟨t158, A200, H⟩ := H
                  replace H : (if x8_2.size + t158.size ≤ 9223372036854775807 then (if (x8_2 ++ t158).size + (t157 ++ x9_2).size ≤ 9223372036854775807 then (some ((x8_2 ++ t158) ++ (t157 ++ x9_2), 0)) else (none)) else (none)) = some (r1, r2) := H
                  try simp only [ByteArray.size_append, Int.natCast_add] at A200
                  have A20 := Aside0.mk A200
                  clear A200
                  by_cases c21 : x8_2.size + t158.size ≤ 9223372036854775807
                  · rw [if_pos c21] at H
                    have c21b0 := eq_true c21
                    have c21b1 : decide (x8_2.size + t158.size ≤ 9223372036854775807) = true := decide_eq_true c21
                    try have c21b2 : (9223372036854775807 < x8_2.size + t158.size) = False := eq_false (Nat.not_lt.2 c21)
                    by_cases c22 : (x8_2 ++ t158).size + (t157 ++ x9_2).size ≤ 9223372036854775807
                    · rw [if_pos c22] at H
                      have c22b0 := eq_true c22
                      have c22b1 : decide ((x8_2 ++ t158).size + (t157 ++ x9_2).size ≤ 9223372036854775807) = true := decide_eq_true c22
                      try have c22b2 : (9223372036854775807 < (x8_2 ++ t158).size + (t157 ++ x9_2).size) = False := eq_false (Nat.not_lt.2 c22)
                      try have c22b3 := c22b2; try simp only [ByteArray.size_append, ByteArray.size_extract, Nat.sub_zero] at c22b3
                      simp only [Option.some.injEq, Prod.mk.injEq] at H
                      obtain ⟨rfl, rfl⟩ := H
                      go_wp2_with (first | ((with_reducible refine gate_callee (f := 150) rfl ?_); refine goesL_ (some 41) rfl rfl Tryz.func150 (by kernel_rfl) rfl #[.int .i64 (x8_2.size : Int)] rfl (by (try simp only [List.map_toArray, List.map_cons, List.map_nil]); first | done | rfl | (simp only [List.length_drop, List.length_take]; rfl)) ?_; (with_reducible refine (slot_place.calls (x8_2.size : Int) t157 _ A18.out).mono ?_); rintro e w23 ⟨rfl, hb⟩; refine ⟨_, rfl, ?_⟩; have n0_ := Aside0.mk (below_step (by repeat (first | (with_reducible first | exact HB.out | apply below_alloc | apply pw_below_drewN | apply below_drew1) | exact HB.out)) hb); clear HB; have HB := n0_; clear n0_; (try clear hb); (try clear hb2); (try clear hk); (try clear hi)) | ((with_reducible refine gate_callee (f := 118) rfl ?_); refine goesL_ (some 52) rfl rfl Tryz.func118 (by kernel_rfl) rfl #[.string (⟨#[0]⟩ : ByteArray), .int .i64 (wrap64 ((wrap64 (a0 - (x8_2.size : Int))) - ((t157.size : Int) + (x9_2.size : Int))))] rfl (by (try simp only [List.map_toArray, List.map_cons, List.map_nil]); first | done | rfl | (simp only [List.length_drop, List.length_take]; rfl)) ?_; (with_reducible refine (strings_Repeat.calls (⟨#[0]⟩ : ByteArray) (wrap64 ((wrap64 (a0 - (x8_2.size : Int))) - ((t157.size : Int) + (x9_2.size : Int)))) t158 _ A20.out).mono ?_); rintro e w24 ⟨rfl, hb⟩; refine ⟨_, rfl, ?_⟩; have n0_ := Aside0.mk (below_step (by repeat (first | (with_reducible first | exact HB.out | apply below_alloc | apply pw_below_drewN | apply below_drew1) | exact HB.out)) hb); clear HB; have HB := n0_; clear n0_; (try clear hb); (try clear hb2); (try clear hk); (try clear hi)))
                      go_ret2
                      exact ⟨by first | rfl | (simp [errW_none, errW_some] <;> rfl) | (simp [*, errW_none, errW_some] <;> rfl), by repeat (first | (with_reducible first | exact HB.out | apply below_alloc | apply pw_below_drewN | apply below_drew1) | exact HB.out)⟩
                    · rw [if_neg c22] at H
                      exact absurd H (by simp)
                  · rw [if_neg c21] at H
                    exact absurd H (by simp)
                · rw [if_neg c19] at H
                  exact absurd H (by simp)

end Go.Proofs.YtmheajenlhlbhaaGreatDoor.X


namespace Go.Proofs.YtmheajenlhlbhaaGreatDoor.X
open Go.RowKit Go.Proofs.YtmheajenlhlbhaaGreatDoorW.PrintWords Go.Proofs.YtmheajenlhlbhaaGreatDoorW.PrintLast Go.Proofs.YtmheajenlhlbhaaGreatDoorW.PrintMore
attribute [local go_sem] max2_int min2_int max_two min_two max_three min_three max_four min_four   -- for this text's walks alone
set_option linter.unusedVariables false
set_option linter.unusedSimpArgs false

def placeB (n : Int) : ByteArray := strOfNums [n % 256, n / 256 % 256]
theorem placeB_size (n : Int) : (placeB n).size = 2 := strOfNums_size _
def packL : List ByteArray → ByteArray → ByteArray → ByteArray × ByteArray
  | [], s, d => (s, placeB s.size ++ d)
  | c :: r, s, d => packL r (s ++ c) (placeB s.size ++ d)
def packBody (room : Int) (fixed : ByteArray) (cells : List ByteArray) : ByteArray :=
  ((packL cells fixed ⟨#[]⟩).1 ++ zeroB (room - ((fixed.size + sizeSum cells + 2 * (cells.length + 1) : Nat) : Int)).toNat) ++ (packL cells fixed ⟨#[]⟩).2
def slot_Pack.f (room : Int) (fixed : ByteArray) (cells : List ByteArray) : Option (ByteArray × Int) :=
  if room < 0 ∨ 65535 < room then some (⟨#[]⟩, 4)
  else if fixed.size ≤ 10000000000 ∧ cells.length ≤ 1000000000 ∧ sizeSum cells ≤ 100000000000000 then
    (if room < ((fixed.size + sizeSum cells + 2 * (cells.length + 1) : Nat) : Int) then some (⟨#[]⟩, 8) else some (packBody room fixed cells, 0))
  else none
theorem rdOf_at {l : List ByteArray} {i : Nat} (h : i < l.length) : rdOf ByteArray.empty l (i : Int) = l[i] := by
  simp [rdOf, List.getD_eq_getElem?_getD, List.getElem?_eq_getElem h]
theorem sizeSum_drop (l : List ByteArray) (i : Nat) (h : i < l.length) : sizeSum (l.drop i) = l[i].size + sizeSum (l.drop (i + 1)) := by
  unfold sizeSum
  rw [List.drop_eq_getElem_cons h, List.map_cons, List.sum_cons]
theorem pack_l0 (room : Int) (fixed : ByteArray) (cells : List ByteArray) (hr : 0 ≤ room ∧ room ≤ 65535) (hz : ((fixed.size + sizeSum cells + 2 * (cells.length + 1) : Nat) : Int) ≤ room) (n : Nat) :
    ∀ (k i : Nat) (s d : ByteArray), i + n = cells.length → n < k → s.size + sizeSum (cells.drop i) = fixed.size + sizeSum cells → d.size = 2 * i → packL (cells.drop i) s d = packL cells fixed ⟨#[]⟩ →
      slot_Pack_raw.l0 k room s d cells cells.length (i : Int) = some (packBody room fixed cells, 0) := by
  induction n with
  | zero =>
    intro k i s d h1 h2 h3 h4 h5
    obtain ⟨k, rfl⟩ : ∃ m, k = m + 1 := ⟨k - 1, by omega⟩
    have hi : i = cells.length := by omega
    subst hi
    rw [List.drop_length] at h3 h5
    have hs : s.size = fixed.size + sizeSum cells := by simpa [sizeSum] using h3
    rw [slot_Pack_raw.l0, if_neg (by omega)]
    have hp : slot_place.f (s.size : Int) = some (placeB s.size) := rfl
    rw [hp]
    simp only [Option.bind_some]
    have q1 := placeB_size (s.size : Int)
    rw [if_pos (by omega)]
    have hw : wrap64 (wrap64 (room - (s.size : Int)) - ((placeB s.size ++ d).size : Int)) = room - ((fixed.size + sizeSum cells + 2 * (cells.length + 1) : Nat) : Int) := by
      rw [ByteArray.size_append, q1, wrap64_id (n := room - (s.size : Int)) (by omega) (by omega), wrap64_id (by omega) (by omega)]
      omega
    rw [hw]
    have hrep : strings_Repeat.f ⟨#[0]⟩ (room - ((fixed.size + sizeSum cells + 2 * (cells.length + 1) : Nat) : Int)) = some (zeroB (room - ((fixed.size + sizeSum cells + 2 * (cells.length + 1) : Nat) : Int)).toNat) := by
      unfold strings_Repeat.f
      rw [if_pos ⟨by omega, by omega, by
        show 1 * (room - ((fixed.size + sizeSum cells + 2 * (cells.length + 1) : Nat) : Int)).toNat ≤ _
        omega⟩]
      rfl
    rw [hrep]
    simp only [Option.bind_some]
    have q2 := zeroB_size (room - ((fixed.size + sizeSum cells + 2 * (cells.length + 1) : Nat) : Int)).toNat
    rw [if_pos (by omega), if_pos (by rw [ByteArray.size_append, ByteArray.size_append]; omega)]
    unfold packBody
    rw [← h5]
    rfl
  | succ n ih =>
    intro k i s d h1 h2 h3 h4 h5
    obtain ⟨k, rfl⟩ : ∃ m, k = m + 1 := ⟨k - 1, by omega⟩
    have hi : i < cells.length := by omega
    have hsd := sizeSum_drop cells i hi
    rw [slot_Pack_raw.l0, if_pos (by omega), if_pos (by omega), if_pos (by omega), rdOf_at hi]
    have hp : slot_place.f (s.size : Int) = some (placeB s.size) := rfl
    rw [hp]
    simp only [Option.bind_some]
    have q1 := placeB_size (s.size : Int)
    rw [if_pos (by omega), if_pos (by omega), wrap64_id (by omega) (by omega), show (i : Int) + 1 = ((i + 1 : Nat) : Int) by omega]
    refine ih k (i + 1) _ _ (by omega) (by omega) (by rw [ByteArray.size_append]; omega) (by rw [ByteArray.size_append]; omega) ?_
    rw [← h5, List.drop_eq_getElem_cons hi]
    rfl
theorem slot_Pack.calls (a0 : Int) (a1 : ByteArray) (A2 : Option Addr) (c2 : Nat) (l2 : List ByteArray) (r1 : ByteArray) (r2 : Int) (w : World) (hr2 : Kd.C Kd.string w A2 l2.length l2) (hc2 : l2.length ≤ c2) (h : slot_Pack.f a0 a1 l2 = some (r1, r2)) :
    Calls Tryz.prog 96 #[.int .i64 a0, .string a1, .slice A2 l2.length c2] w fun e w' => e = .returned (.tuple #[.string r1, .int .i64 r2]) ∧ Below w.heap.size w w' := by
  refine slot_Pack_raw.calls (l2.length + 2) a0 a1 A2 c2 l2 r1 r2 w hr2 hc2 ?_
  unfold slot_Pack.f at h
  unfold slot_Pack_raw.f
  by_cases h1 : a0 < 0
  · rw [if_pos (.inl h1)] at h
    rw [if_pos h1, slot_Pack_raw.j0, if_pos rfl]
    exact h
  · rw [if_neg h1, slot_Pack_raw.j0]
    by_cases h2 : 65535 < a0
    · rw [if_pos (.inr h2)] at h
      rw [if_pos (decide_eq_true h2)]
      exact h
    · rw [if_neg (by omega)] at h
      rw [if_neg (by simpa using h2)]
      by_cases hb : a1.size ≤ 10000000000 ∧ l2.length ≤ 1000000000 ∧ sizeSum l2 ≤ 100000000000000
      · rw [if_pos hb] at h
        have hs : slot_Size.f a1 l2 = some ((a1.size + sizeSum l2 + 2 * (l2.length + 1) : Nat) : Int) := by unfold slot_Size.f; rw [if_pos hb]
        rw [hs, Option.bind_some]
        by_cases hz : a0 < ((a1.size + sizeSum l2 + 2 * (l2.length + 1) : Nat) : Int)
        · rw [if_pos hz] at h
          rw [if_pos hz]
          exact h
        · rw [if_neg hz] at h
          rw [if_neg hz, ← h]
          exact pack_l0 a0 a1 l2 (by omega) (by omega) l2.length (l2.length + 1) 0 a1 ⟨#[]⟩ (by omega) (by omega) rfl rfl rfl
      · rw [if_neg hb] at h
        cases h


end Go.Proofs.YtmheajenlhlbhaaGreatDoor.X


namespace Go.Proofs.YtmheajenlhlbhaaGreatDoor.X
open Go.RowKit Go.Proofs.YtmheajenlhlbhaaGreatDoorW.PrintWords Go.Proofs.YtmheajenlhlbhaaGreatDoorW.PrintLast Go.Proofs.YtmheajenlhlbhaaGreatDoorW.PrintMore
attribute [local go_sem] max2_int min2_int max_two min_two max_three min_three max_four min_four   -- for this text's walks alone
set_option linter.unusedVariables false
set_option linter.unusedSimpArgs false

theorem byteInfo : (Tryz.prog.info? 5).map (fun i => (i.zero, i.size, i.bytes)) = some (some (.int .u8 0), 1, 1) := by kernel_rfl
def placeAt (s : ByteArray) (i : Int) : Int := bt s ((s.size : Int) - 2 * (i + 1)) + bt s ((s.size : Int) - 2 * (i + 1) + 1) * 256
theorem placeAt_range (s : ByteArray) (i : Int) : 0 ≤ placeAt s i ∧ placeAt s i ≤ 65535 := by
  unfold placeAt
  have h1 := bt_range s ((s.size : Int) - 2 * (i + 1))
  have h2 := bt_range s ((s.size : Int) - 2 * (i + 1) + 1)
  omega
def unpackGo (s : ByteArray) : Nat → Nat → Option (List ByteArray)
  | 0, _ => some []
  | d + 1, i => if placeAt s i ≤ placeAt s (i + 1 : Nat) ∧ placeAt s (i + 1 : Nat) ≤ s.size then (unpackGo s d (i + 1)).map (s.extract (placeAt s i).toNat (placeAt s (i + 1 : Nat)).toNat :: ·) else none
theorem unpackGo_length (s : ByteArray) : ∀ (d i : Nat) (l : List ByteArray), unpackGo s d i = some l → l.length = d
  | 0, _, l, h => by cases h; rfl
  | d + 1, i, l, h => by
    unfold unpackGo at h
    split at h
    · obtain ⟨r, hr, rfl⟩ := Option.map_eq_some_iff.1 h
      have := unpackGo_length s d (i + 1) r hr
      simp [this]
    · cases h
def slot_Unpack.f (a0 : ByteArray) (a1 a2 : Int) : Option (List ByteArray × Int) :=
  if a1 < 0 ∨ a2 < 0 ∨ 65535 < (a0.size : Int) then some ([], 4)
  else if (a0.size : Int) < a1 ∨ (a0.size : Int) / 2 - 1 < a2 then some ([], 3)
  else match unpackGo a0 a2.toNat 0 with
    | none => some ([], 3)
    | some cs => (slot_Pack.f a0.size (a0.extract 0 a1.toNat) cs).bind fun u => if u.2 ≠ 0 ∨ u.1.toList ≠ a0.toList then some ([], 3) else some (cs, 0)
theorem cut_lhm {P : Program} {α : Type} (kd : Kd α) (t e : TypeId) {i : TypeInfo} (ht : P.underlying t = some (.slice e)) (hi : P.info? e = some i) (hsz : i.size = kd.sz) (A : Option Addr) (c n : Nat) (xs : List α) (hn : xs.length = n) (l h : Int) (h0 : 0 ≤ l) (h1 : l ≤ h) (h2 : h ≤ n) (hc : n ≤ c) :
    ∃ A' : Option Addr, (∀ W : World, (Instr.slice t (.slice A n c) (some (.int .i64 l)) (some (.int .i64 h)) (some (.int .i64 h))).run P W = .ok (.slice A' (h.toNat - l.toNat) (h.toNat - l.toNat)) W) ∧ (∀ w : World, kd.C w A xs.length xs → kd.C w A' ((xs.take h.toNat).drop l.toNat).length ((xs.take h.toNat).drop l.toNat)) := by
  subst hn
  refine ⟨if h.toNat = l.toNat then A else A.map (·.add (l.toNat * kd.sz)), fun W => ?_, fun w hr => ?_⟩
  · have hel : P.elem t = e := by simp [Program.elem, ht]
    have hu : P.underlying t = some (.slice (P.elem t)) := by rw [hel]; exact ht
    rw [run_slice_lhm W t A xs.length c hu .i64 .i64 .i64 l h h h0 h1 (Int.le_refl _) (by omega), hel]
    simp [sizeOf, typeInfo, hi, hsz, sliced, Result.andThen]
  · have hl : (xs.take h.toNat).length = h.toNat := by rw [List.length_take]; omega
    have := Kd.C_drop (c := h.toNat) (m := l.toNat) (Kd.C_take (m := h.toNat) hr (by omega)) (by rw [hl]; omega) (by rw [hl]; exact Nat.le_refl _)
    exact this
theorem bl_cut (s : ByteArray) (l h : Nat) : strOfNums (((bl s).take h).drop l) = s.extract l h := by
  have e : (((bl s).take h).drop l) = ((s.data.toList.take h).drop l).map fun b => (b.toNat : Int) := by
    unfold bl
    rw [← List.map_take, ← List.map_drop]
  rw [e]
  unfold strOfNums
  rw [List.map_map]
  have e2 : ((fun n : Int => UInt8.ofNat n.toNat) ∘ fun b : UInt8 => (b.toNat : Int)) = id := by
    funext b
    simp
  rw [e2, List.map_id]
  apply ByteArray.ext
  rw [ByteArray.data_extract]
  apply Array.toList_inj.1
  simp [Array.toList_extract, List.extract_eq_take_drop, List.drop_take]
theorem unpackGo_none (s : ByteArray) (d i : Nat) (h : ¬ (placeAt s i ≤ placeAt s (i + 1 : Nat) ∧ placeAt s (i + 1 : Nat) ≤ s.size)) : unpackGo s (d + 1) i = none := by
  unfold unpackGo
  rw [if_neg h]
theorem unpackGo_some (s : ByteArray) (d i : Nat) (h : placeAt s i ≤ placeAt s (i + 1 : Nat) ∧ placeAt s (i + 1 : Nat) ≤ s.size) : unpackGo s (d + 1) i = (unpackGo s d (i + 1)).map (s.extract (placeAt s i).toNat (placeAt s (i + 1 : Nat)).toNat :: ·) := by
  rw [unpackGo, if_pos h]
set_option maxHeartbeats 1000000 in
theorem slot_Unpack1.calls (s : ByteArray) (i : Int) (b : Nat) (w : World) (hs : s.size ≤ 65535) (h0 : 0 ≤ i) (hi : 2 * (i + 1) ≤ s.size) (hc : w.cell? ⟨b, 0, none⟩ = some (.string s)) :
    Calls Tryz.prog 139 #[.int .i64 i, .pointer (some ⟨b, 0, none⟩)] w fun e w' => e = .returned (.int .i64 (placeAt s i)) ∧ Below w.heap.size w w' := by
  have hw1 : IntKind.i64.wrap (i + 1) = i + 1 := IntWalk.i64_in _ (by omega)
  have hw2 : IntKind.i64.wrap (2 * (i + 1)) = 2 * (i + 1) := IntWalk.i64_in _ (by omega)
  have hw3 : IntKind.i64.wrap ((s.size : Int) - 2 * (i + 1)) = (s.size : Int) - 2 * (i + 1) := IntWalk.i64_in _ (by omega)
  have hw4 : IntKind.i64.wrap ((s.size : Int) - 2 * (i + 1) + 1) = (s.size : Int) - 2 * (i + 1) + 1 := IntWalk.i64_in _ (by omega)
  have b0 := bt_range s ((s.size : Int) - 2 * (i + 1))
  have b1 := bt_range s ((s.size : Int) - 2 * (i + 1) + 1)
  have x0 : ∀ W : World, (Instr.index 9 (.string s) (.int .i64 ((s.size : Int) - 2 * (i + 1)))).run Tryz.prog W = .ok (.int .u8 (bt s ((s.size : Int) - 2 * (i + 1)))) W := fun W => by
    rw [run_index_string (P := Tryz.prog) W 9 s .i64 _ Tryz.underlying9, dif_pos ⟨by omega, by omega⟩, bt_at s _ (by omega)]
  have x1 : ∀ W : World, (Instr.index 9 (.string s) (.int .i64 ((s.size : Int) - 2 * (i + 1) + 1))).run Tryz.prog W = .ok (.int .u8 (bt s ((s.size : Int) - 2 * (i + 1) + 1))) W := fun W => by
    rw [run_index_string (P := Tryz.prog) W 9 s .i64 _ Tryz.underlying9, dif_pos ⟨by omega, by omega⟩, bt_at s _ (by omega)]
  have hp : placeAt s i = bt s ((s.size : Int) - 2 * (i + 1)) + bt s ((s.size : Int) - 2 * (i + 1) + 1) * 256 := rfl
  have HP := Aside0.mk hp
  have HC := Aside0.mk hc
  clear hp
  generalize bt s ((s.size : Int) - 2 * (i + 1)) = u at x0 b0 HP
  generalize bt s ((s.size : Int) - 2 * (i + 1) + 1) = v at x1 b1 HP
  obtain ⟨b00, b01⟩ := b0
  obtain ⟨b10, b11⟩ := b1
  have hw5 : IntKind.i64.wrap u = u := IntWalk.i64_in _ (by omega)
  have hw6 : IntKind.i64.wrap v = v := IntWalk.i64_in _ (by omega)
  have hw7 : IntKind.i64.wrap (v * 256) = v * 256 := IntWalk.i64_in _ (by omega)
  have hw8 : IntKind.i64.wrap (u + v * 256) = u + v * 256 := IntWalk.i64_in _ (by omega)
  go_enter Tryz.func139, Tryz.ntmps139
  go_wp2
  refine wp_region_class (Cls fun W => W.cell? ⟨b, 0, none⟩ = some (.string s) ∧ Below w.heap.size w W) (by kernel_rfl) (by kernel_rfl) ⟨HC.out, below_drew (Below.refl _ _)⟩ ?_
  repeat (first | go_big_quiet_skip | (go_big_quiet_want; go_big_quiet_op; first | go_big_quiet_on | (apply Exists.intro; refine ⟨fun W hW => ?_, ?_⟩; (first | (with_reducible exact rfl) | (have y0 := hW.out.1; go_simp; with_reducible rfl)); go_big_quiet_on)))
  refine wpQuiet_nil ?_
  intro W hW
  have HB := Aside0.mk hW.out.2
  clear hW
  go_wp2
  go_ret
  exact ⟨by rw [HP.out]; rfl, HB.out⟩
inductive UnpEnd (s : ByteArray) (fx n : Int) (r : List ByteArray) (e : Int) : Prop
  | arg (h : fx < 0 ∨ n < 0 ∨ 65535 < (s.size : Int)) (hr : r = []) (he : e = 4)
  | form (h0 : 0 ≤ fx) (h1 : 0 ≤ n) (h2 : (s.size : Int) ≤ 65535) (h : (s.size : Int) < fx ∨ (s.size : Int) / 2 - 1 < n) (hr : r = []) (he : e = 3)
  | go (h0 : 0 ≤ fx) (h1 : 0 ≤ n) (h2 : (s.size : Int) ≤ 65535) (h3 : fx ≤ s.size) (h4 : n ≤ (s.size : Int) / 2 - 1) (h : (match unpackGo s n.toNat 0 with
    | none => some ([], 3)
    | some cs => (slot_Pack.f s.size (s.extract 0 fx.toNat) cs).bind fun u => if u.2 ≠ 0 ∨ u.1.toList ≠ s.toList then some ([], 3) else some (cs, 0)) = some (r, e))
theorem unpEnd_of (s : ByteArray) (fx n : Int) (r : List ByteArray) (e : Int) (h : slot_Unpack.f s fx n = some (r, e)) : UnpEnd s fx n r e := by
  unfold slot_Unpack.f at h
  by_cases h1 : fx < 0 ∨ n < 0 ∨ 65535 < (s.size : Int)
  · rw [if_pos h1] at h
    simp only [Option.some.injEq, Prod.mk.injEq] at h
    exact .arg h1 h.1.symm h.2.symm
  · rw [if_neg h1] at h
    by_cases h2 : (s.size : Int) < fx ∨ (s.size : Int) / 2 - 1 < n
    · rw [if_pos h2] at h
      simp only [Option.some.injEq, Prod.mk.injEq] at h
      exact .form (by omega) (by omega) (by omega) h2 h.1.symm h.2.symm
    · rw [if_neg h2] at h
      exact .go (by omega) (by omega) (by omega) (by omega) (by omega) h
set_option maxRecDepth 100000 in
set_option maxHeartbeats 4000000 in
theorem slot_Unpack.calls (a0 : ByteArray) (a1 a2 : Int) (r1 : List ByteArray) (r2 : Int) (w : World) (h : slot_Unpack.f a0 a1 a2 = some (r1, r2)) :
    Calls Tryz.prog 86 #[.string a0, .int .i64 a1, .int .i64 a2] w fun e w' => ∃ v1_ : Value, e = .returned (.tuple #[v1_, .int .i64 r2]) ∧ Kd.R Kd.string 9 w' w.heap.size (fun _ => True) v1_ r1 ∧ Below w.heap.size w w' := by
  have HE := Aside0.mk (unpEnd_of a0 a1 a2 r1 r2 h)
  clear h
  rcases HE.out with ⟨h1, rfl, rfl⟩ | ⟨h0, h1, h2, h3, rfl, rfl⟩ | ⟨h0, h1, h2, h3, h4, h⟩
  · clear HE
    have hd : decide (a1 < 0) = true ∨ (decide (a1 < 0) = false ∧ decide (a2 < 0) = true) ∨ (decide (a1 < 0) = false ∧ decide (a2 < 0) = false ∧ decide (65535 < (a0.size : Int)) = true) := by
      by_cases c1 : a1 < 0
      · exact .inl (decide_eq_true c1)
      · by_cases c2 : a2 < 0
        · exact .inr (.inl ⟨decide_eq_false c1, decide_eq_true c2⟩)
        · exact .inr (.inr ⟨decide_eq_false c1, decide_eq_false c2, decide_eq_true (by omega)⟩)
    clear h1
    rcases hd with d1 | ⟨d1, d2⟩ | ⟨d1, d2, d3⟩
    all_goals
      go_enter Tryz.func86, Tryz.ntmps86
      go_wp2
      go_ret2
      exact ⟨_, rfl, Kd.R_nil _ _ _ _ _, below_alloc (Below.refl _ _) _⟩
  · clear HE
    have d1 : decide (a1 < 0) = false := decide_eq_false (by omega)
    have d2 : decide (a2 < 0) = false := decide_eq_false (by omega)
    have d3 : decide (65535 < (a0.size : Int)) = false := decide_eq_false (by omega)
    have hd : decide ((a0.size : Int) < a1) = true ∨ (decide ((a0.size : Int) < a1) = false ∧ decide ((a0.size : Int) / 2 - 1 < a2) = true) := by
      by_cases c1 : (a0.size : Int) < a1
      · exact .inl (decide_eq_true c1)
      · exact .inr ⟨decide_eq_false c1, decide_eq_true (by omega)⟩
    have p0 : (0 : Int) ≤ a0.size := by omega
    have p1 : (0 : Int) ≤ (a0.size : Int) / 2 := by omega
    have p2 : (a0.size : Int) / 2 ≤ 65535 := by omega
    clear h3
    rcases hd with d4 | ⟨d4, d5⟩
    all_goals
      go_enter Tryz.func86, Tryz.ntmps86
      go_wp2
      go_ret2
      exact ⟨_, rfl, Kd.R_nil _ _ _ _ _, below_alloc (Below.refl _ _) _⟩
  · clear HE
    have HH := Aside0.mk h
    clear h
    obtain ⟨n, rfl⟩ : ∃ n : Nat, a2 = n := ⟨a2.toNat, by omega⟩
    rw [Int.toNat_natCast] at HH
    have d1 : decide (a1 < 0) = false := decide_eq_false (by omega)
    have d2 : decide ((n : Int) < 0) = false := decide_eq_false (by omega)
    have d3 : decide (65535 < (a0.size : Int)) = false := decide_eq_false (by omega)
    have d4 : decide ((a0.size : Int) < a1) = false := decide_eq_false (by omega)
    have d5 : decide ((a0.size : Int) / 2 - 1 < (n : Int)) = false := decide_eq_false (by omega)
    have p1 : (0 : Int) ≤ (a0.size : Int) / 2 := by omega
    have p2 : (a0.size : Int) / 2 ≤ 65535 := by omega
    have p3 : (n : Int) ≤ 65535 := by omega
    have hns : 2 * (n + 1) ≤ a0.size := by omega
    have hconv : ∀ (W : World) (s : ByteArray), (convert 9 96 (.string s)).run Tryz.prog W = .ok (.slice (some ⟨W.heap.size, 0, none⟩) s.size (grownCap W s.size 0 5)) (Lib.bytesWorld W 5 s) := fun W s => Lib.run_convert_string_bytes W 9 96 5 s Tryz.underlying9 Tryz.underlying96 Tryz.underlying5
    have hC2 : (Lib.bytesWorld (w.alloc (.cells #[.string a0] 9)) 5 a0).cell? ⟨w.heap.size, 0, none⟩ = some (.string a0) := ((bytesWorld_below (w.alloc (.cells #[.string a0] 9)) 5 a0).cell (p := ⟨w.heap.size, 0, none⟩) (by simp)).trans (by simp)
    have hY2 := bl_reads (w.alloc (.cells #[.string a0] 9)) 5 a0 (by omega)
    have hB2 : Below w.heap.size w (Lib.bytesWorld (w.alloc (.cells #[.string a0] 9)) 5 a0) := below_step (below_alloc (Below.refl _ _) _) (bytesWorld_below (w.alloc (.cells #[.string a0] 9)) 5 a0)
    have hS2 : w.heap.size < (Lib.bytesWorld (w.alloc (.cells #[.string a0] 9)) 5 a0).heap.size := by rw [Lib.bytesWorld_size]; simp; omega
    have hcap := grownCap_ge (w.alloc (.cells #[.string a0] 9)) a0.size 0 5
    rw [World.size_alloc] at hY2
    have HC2 := Aside0.mk hC2
    have HY2 := Aside0.mk hY2
    have HB2 := Aside0.mk hB2
    have HS2 := Aside0.mk hS2
    have HCAP := Aside0.mk hcap
    clear hC2 hY2 hB2 hS2 hcap
    go_enter Tryz.func86, Tryz.ntmps86
    go_wp2_with fail
    generalize Lib.bytesWorld (w.alloc (.cells #[.string a0] 9)) 5 a0 = w2 at HC2 HY2 HB2 HS2 ⊢
    generalize grownCap (w.alloc (.cells #[.string a0] 9)) a0.size 0 5 = c9 at HCAP ⊢
    go_loopw [10, 43] (fun v i wr => ∃ (k : Nat) (cs : List ByteArray), k ≤ n ∧ i = .int .i64 k ∧ cs.length = k ∧ Aside0 (unpackGo a0 n 0 = (unpackGo a0 (n - k) k).map (cs ++ ·)) ∧ Aside0 (Kd.R Kd.string 9 wr w2.heap.size (fun _ => True) v cs) ∧ Aside0 (Below w2.heap.size w2 wr)) (fun _ i _ => n - (intOf i).toNat)
    case atStart => exact ⟨0, [], by omega, rfl, rfl, ⟨by simp⟩, ⟨Kd.R_nil _ _ _ _ _⟩, ⟨Below.refl _ _⟩⟩
    case round =>
      obtain ⟨k, cs, h0k, rfl, hlen, HG, HO, HB⟩ := hrel
      by_cases hx : k < n
      · have HCr := Aside0.mk ((HB.out.cell (p := ⟨w.heap.size, 0, none⟩) HS2.out).trans HC2.out)
        have q0 := placeAt_range a0 (k : Int)
        have q1 := placeAt_range a0 ((k : Int) + 1)
        obtain ⟨q00, q01⟩ := q0
        obtain ⟨q10, q11⟩ := q1
        have e1 : (((k + 1 : Nat)) : Int) = (k : Int) + 1 := by omega
        by_cases hc : placeAt a0 (k : Int) ≤ placeAt a0 ((k : Int) + 1) ∧ placeAt a0 ((k : Int) + 1) ≤ a0.size
        · obtain ⟨hc1, hc2⟩ := hc
          have g1 : decide (placeAt a0 ((k : Int) + 1) < placeAt a0 (k : Int)) = false := decide_eq_false (by omega)
          have g2 : decide ((a0.size : Int) < placeAt a0 ((k : Int) + 1)) = false := decide_eq_false (by omega)
          have hstep := unpackGo_some a0 (n - k - 1) k (by rw [e1]; exact ⟨hc1, hc2⟩)
          rw [show n - k - 1 + 1 = n - k by omega, e1] at hstep
          have HST := Aside0.mk hstep
          clear hstep e1
          obtain ⟨i0, hi, hz0, hz1, hz2⟩ := info_parts byteInfo
          obtain ⟨A', hsl, hrd⟩ := cut_lhm (P := Tryz.prog) (Kd.int .u8) 96 5 Tryz.underlying96 hi hz1 (some ⟨w.heap.size + 1, 0, none⟩) c9 a0.size (bl a0) (bl_length a0) (placeAt a0 (k : Int)) (placeAt a0 ((k : Int) + 1)) q00 hc1 hc2 HCAP.out
          have HRD := Aside0.mk hrd
          clear hrd hi hz0 hz1 hz2
          go_wp2_with (first
            | (go_at_call 139; ((with_reducible refine (slot_Unpack1.calls a0 (k : Int) w.heap.size _ (by omega) (by omega) (by omega) HCr.out).mono ?_); rintro e w3 ⟨rfl, hb3⟩; have HB3 := Aside0.mk (below_step HB.out hb3); have HO3 := Aside0.mk (Kd.R_below HO.out hb3); have HCs := Aside0.mk ((HB3.out.cell (p := ⟨w.heap.size, 0, none⟩) HS2.out).trans HC2.out); clear hb3 HB HO))
            | (go_at_call 139; ((with_reducible refine (slot_Unpack1.calls a0 ((k : Int) + 1) w.heap.size _ (by omega) (by omega) (by omega) HCs.out).mono ?_); rintro e w4 ⟨rfl, hb4⟩; have HB4 := Aside0.mk (below_step HB3.out hb4); have HO4 := Aside0.mk (Kd.R_below HO3.out hb4); clear hb4 HB3 HO3; have hcv := Kd.C_string (dst := 9) (c := (placeAt a0 ((k : Int) + 1)).toNat - (placeAt a0 (k : Int)).toNat) Tryz.underlying96 Tryz.underlying5 Tryz.underlying9 (HRD.out w4 (Kd.C_below HY2.out HB4.out)); rw [bl_cut, List.length_drop, List.length_take, bl_length, Nat.min_eq_left (by omega)] at hcv))
            | (at_builtin; refine Kd.R_append Kd.string (w0 := w2) w2.heap.size rfl (.tmp 62) (.tmp 69) 47 9 (.string ⟨#[]⟩) 16 rfl Tryz.underlying47 info9 rfl (by decide) (by omega) u10 cs (a0.extract (placeAt a0 (k : Int)).toNat (placeAt a0 ((k : Int) + 1)).toNat) [.string (a0.extract (placeAt a0 (k : Int)).toNat (placeAt a0 ((k : Int) + 1)).toNat)] (fun _ => True) (fun _ => False) rfl rfl ?aP (fun _ hk => hk.elim) ?aF ?aO ?aB ?aS ?aL ?_; (case aP => exact rfl); (case aB => exact HB4.out); (case aF => exact (fun _ _ => trivial)); (case aO => exact HO4.out); (case aS => exact below_size HB4.out); (case aL => omega); intro v255 w10 ho hb hg hat; have HB := Aside0.mk hb; have HO := Aside0.mk ho; clear ho hb hg hat))
          go_roundw
          case rel => exact ⟨k + 1, cs ++ [a0.extract (placeAt a0 (k : Int)).toNat (placeAt a0 ((k : Int) + 1)).toNat], by omega, by go_num, by simp [hlen], ⟨by rw [HG.out, HST.out, Option.map_map, show n - (k + 1) = n - k - 1 by omega]; congr 1; funext x; simp⟩, HO, HB⟩
          case measure => simp [intOf]; omega
        · have hno := unpackGo_none a0 (n - k - 1) k (by rw [e1]; exact hc)
          rw [show n - k - 1 + 1 = n - k by omega] at hno
          have hr : r1 = [] ∧ r2 = 3 := by
            have := HH.out
            rw [HG.out, hno] at this
            simp only [Option.map_none, Option.some.injEq, Prod.mk.injEq] at this
            exact ⟨this.1.symm, this.2.symm⟩
          obtain ⟨rfl, rfl⟩ := hr
          clear hno
          have hd : decide (placeAt a0 ((k : Int) + 1) < placeAt a0 (k : Int)) = true ∨ (decide (placeAt a0 ((k : Int) + 1) < placeAt a0 (k : Int)) = false ∧ decide ((a0.size : Int) < placeAt a0 ((k : Int) + 1)) = true) := by
            by_cases c1 : placeAt a0 ((k : Int) + 1) < placeAt a0 (k : Int)
            · exact .inl (decide_eq_true c1)
            · exact .inr ⟨decide_eq_false c1, decide_eq_true (by omega)⟩
          clear e1 hc
          rcases hd with g1 | ⟨g1, g2⟩
          all_goals
            go_wp2_with (first
              | (go_at_call 139; ((with_reducible refine (slot_Unpack1.calls a0 (k : Int) w.heap.size _ (by omega) (by omega) (by omega) HCr.out).mono ?_); rintro e w3 ⟨rfl, hb3⟩; have HB3 := Aside0.mk (below_step HB.out hb3); have HO3 := Aside0.mk (Kd.R_below HO.out hb3); have HCs := Aside0.mk ((HB3.out.cell (p := ⟨w.heap.size, 0, none⟩) HS2.out).trans HC2.out); clear hb3 HB HO))
              | (go_at_call 139; ((with_reducible refine (slot_Unpack1.calls a0 ((k : Int) + 1) w.heap.size _ (by omega) (by omega) (by omega) HCs.out).mono ?_); rintro e w4 ⟨rfl, hb4⟩; have HB4 := Aside0.mk (below_step HB3.out hb4); clear hb4 HB3 HO3)))
            go_ret2
            exact ⟨_, rfl, Kd.R_nil _ _ _ _ _, (HB2.out.trans (HB4.out.mono (Nat.le_of_lt HS2.out)))⟩
      · have hk : k = n := by omega
        subst hk
        obtain ⟨A1, cap1, rfl⟩ := Kd.R_slice HO.out
        obtain ⟨_, hcp, hcc⟩ := Kd.R_reads' HO.out
        have HCP := Aside0.mk hcp
        have HCC := Aside0.mk hcc
        have h := HH.out
        rw [HG.out, Nat.sub_self] at h
        simp only [unpackGo, Option.map_some, List.append_nil] at h
        obtain ⟨⟨u, ue⟩, hp, h⟩ := Option.bind_eq_some_iff.mp h
        have HP := Aside0.mk hp
        have hcs : ((ue != 0) = true ∧ r1 = [] ∧ r2 = 3) ∨ ((ue != 0) = false ∧ (u.toList == a0.toList) = false ∧ r1 = [] ∧ r2 = 3) ∨ ((ue != 0) = false ∧ (u.toList == a0.toList) = true ∧ r1 = cs ∧ r2 = 0) := by
          by_cases he : ue = 0
          · by_cases hu : u.toList = a0.toList
            · rw [if_neg (by simp [he, hu])] at h
              simp only [Option.some.injEq, Prod.mk.injEq] at h
              exact .inr (.inr ⟨by simp [he], by simp [hu], h.1.symm, h.2.symm⟩)
            · rw [if_pos (.inr hu)] at h
              simp only [Option.some.injEq, Prod.mk.injEq] at h
              exact .inr (.inl ⟨by simp [he], by simpa using hu, h.1.symm, h.2.symm⟩)
          · rw [if_pos (.inl he)] at h
            simp only [Option.some.injEq, Prod.mk.injEq] at h
            exact .inl ⟨by simpa using he, h.1.symm, h.2.symm⟩
        clear h hp hcp hcc HH HG hx h0k hlen
        have hC0 : Cls (fun W => Below wr.heap.size wr W) wr.drew := ⟨below_drew (Below.refl _ _)⟩
        have HK := Aside0.mk hC0
        clear hC0
        rcases hcs with ⟨g1, rfl, rfl⟩ | ⟨g1, g2, rfl, rfl⟩ | ⟨g1, g2, rfl, rfl⟩
        all_goals
          go_wp2
          refine wp_region_class (Cls fun W => Below wr.heap.size wr W) (by kernel_rfl) (by kernel_rfl) HK.out ?_
          repeat (first | go_big_quiet_skip | (go_big_quiet_want; go_big_quiet_op; first | go_big_quiet_on | (apply Exists.intro; refine ⟨fun W hW => ?_, ?_⟩; (first | (with_reducible exact rfl) | (go_at_call 96; ((with_reducible refine (slot_Pack.calls _ _ A1 cap1 _ u ue W (Kd.C_below HCC.out hW.out) HCP.out HP.out).mono ?_); rintro e w5 ⟨rfl, hb5⟩; exact ⟨rfl, ⟨below_step hW.out hb5⟩⟩)) | (have y0 := (hW.out.cell (p := ⟨w.heap.size, 0, none⟩) (Nat.lt_of_lt_of_le HS2.out (below_size HB.out))).trans ((HB.out.cell (p := ⟨w.heap.size, 0, none⟩) HS2.out).trans HC2.out); go_simp; with_reducible rfl)); go_big_quiet_on)))
          refine wpQuiet_nil ?_
          intro W hW
          have HW := Aside0.mk hW.out
          clear hW
          have y1 := (HW.out.cell (p := ⟨w.heap.size, 0, none⟩) (Nat.lt_of_lt_of_le HS2.out (below_size HB.out))).trans ((HB.out.cell (p := ⟨w.heap.size, 0, none⟩) HS2.out).trans HC2.out)
          go_wp2
          go_ret2
          first
            | exact ⟨_, rfl, Kd.R_nil _ _ _ _ _, below_step (HB2.out.trans (HB.out.mono (Nat.le_of_lt HS2.out))) HW.out⟩
            | exact ⟨_, rfl, Kd.R_lower (Kd.R_below HO.out HW.out) (Nat.le_of_lt HS2.out), below_step (HB2.out.trans (HB.out.mono (Nat.le_of_lt HS2.out))) HW.out⟩


end Go.Proofs.YtmheajenlhlbhaaGreatDoor.X


namespace Go.Proofs.YtmheajenlhlbhaaGreatDoor.X
open Go.RowKit Go.Proofs.YtmheajenlhlbhaaGreatDoorW.PrintWords Go.Proofs.YtmheajenlhlbhaaGreatDoorW.PrintLast Go.Proofs.YtmheajenlhlbhaaGreatDoorW.PrintMore
attribute [local go_sem] max2_int min2_int max_two min_two max_three min_three max_four min_four   -- for this text's walks alone
set_option linter.unusedVariables false
set_option linter.unusedSimpArgs false

structure RB (n : Nat) (w0 W : World) (g : Nat) (t : TypeId) (rest : List Value) (s : ByteArray) (a : Int) (bad : Bool) : Prop where
  blk : Block W g t ((Value.string s :: Value.int .i64 a :: Value.bool bad :: rest).toArray)
  low : Below n w0 W
  at_ : n ≤ g
theorem RB.c0 {n : Nat} {w0 W : World} {g : Nat} {t : TypeId} {rest : List Value} {s : ByteArray} {a : Int} {bad : Bool} (h : RB n w0 W g t rest s a bad) : W.cell? ⟨g, 0, none⟩ = some (.string s) := h.blk.cell 0 (by simp)
theorem RB.c1 {n : Nat} {w0 W : World} {g : Nat} {t : TypeId} {rest : List Value} {s : ByteArray} {a : Int} {bad : Bool} (h : RB n w0 W g t rest s a bad) : W.cell? ⟨g, 1, none⟩ = some (.int .i64 a) := h.blk.cell 1 (by simp)
theorem RB.c2 {n : Nat} {w0 W : World} {g : Nat} {t : TypeId} {rest : List Value} {s : ByteArray} {a : Int} {bad : Bool} (h : RB n w0 W g t rest s a bad) : W.cell? ⟨g, 2, none⟩ = some (.bool bad) := h.blk.cell 2 (by simp)
theorem RB.fr {n : Nat} {w0 W : World} {g : Nat} {t : TypeId} {rest : List Value} {s : ByteArray} {a : Int} {bad : Bool} (h : RB n w0 W g t rest s a bad) (k : Nat) : W.frozen? ⟨g, k, none⟩ = false := h.blk.frozen k
theorem RB.setAt {n : Nat} {w0 W : World} {g : Nat} {t : TypeId} {rest : List Value} {s : ByteArray} {a : Int} {bad : Bool} (h : RB n w0 W g t rest s a bad) (b : Int) : RB n w0 (W.setCell ⟨g, 1, none⟩ (.int .i64 b)) g t rest s b bad :=
  ⟨by have := h.blk.set 1 (.int .i64 b); simpa using this, h.low.setCell (p := ⟨g, 1, none⟩) h.at_ _, h.at_⟩
theorem RB.setBad {n : Nat} {w0 W : World} {g : Nat} {t : TypeId} {rest : List Value} {s : ByteArray} {a : Int} {bad : Bool} (h : RB n w0 W g t rest s a bad) (b : Bool) : RB n w0 (W.setCell ⟨g, 2, none⟩ (.bool b)) g t rest s a b :=
  ⟨by have := h.blk.set 2 (.bool b); simpa using this, h.low.setCell (p := ⟨g, 2, none⟩) h.at_ _, h.at_⟩
theorem RB.step {n : Nat} {w0 W W2 : World} {g : Nat} {t : TypeId} {rest : List Value} {s : ByteArray} {a : Int} {bad : Bool} (h : RB n w0 W g t rest s a bad) (hb : Below W.heap.size W W2) : RB n w0 W2 g t rest s a bad :=
  ⟨h.blk.below hb h.blk.lt, h.low.trans (hb.mono (Nat.le_trans h.at_ (Nat.le_of_lt h.blk.lt))), h.at_⟩
theorem RB.drew {n : Nat} {w0 W : World} {g : Nat} {t : TypeId} {rest : List Value} {s : ByteArray} {a : Int} {bad : Bool} (h : RB n w0 W g t rest s a bad) : RB n w0 W.drew g t rest s a bad := h.step (below_drew (Below.refl _ _))
def cell_reader_number.f (k : Nat) (s : ByteArray) (a : Int) (bad : Bool) : Option (Int × Int × Bool) :=
  (word_Get.f k s a).bind fun g => if g.2.2 = 0 then (if 0 ≤ g.1 then (if 4096 < g.1 then some (0, a, true) else some (g.1, g.2.1, bad)) else none) else some (0, a, true)
set_option maxRecDepth 100000 in
set_option maxHeartbeats 2000000 in
theorem cell_reader_number.calls (k : Nat) (g : Nat) (t : TypeId) (rest : List Value) (s : ByteArray) (a : Int) (bad : Bool) (r a2 : Int) (bad2 : Bool) (n : Nat) (w0 w : World) (hR : RB n w0 w g t rest s a bad) (h : cell_reader_number.f k s a bad = some (r, a2, bad2)) :
    Calls Tryz.prog 141 #[.pointer (some ⟨g, 0, none⟩)] w fun e w' => e = .returned (.int .i64 r) ∧ RB n w0 w' g t rest s a2 bad2 := by
  unfold cell_reader_number.f at h
  obtain ⟨⟨m, t2, e⟩, hg, h⟩ := Option.bind_eq_some_iff.mp h
  have HG := Aside0.mk hg
  have HR := Aside0.mk hR
  clear hg hR
  dsimp only at h
  by_cases he : e = 0
  · rw [if_pos he] at h
    subst he
    by_cases hm : 0 ≤ m
    · rw [if_pos hm] at h
      by_cases hn : 4096 < m
      · rw [if_pos hn] at h
        simp only [Option.some.injEq, Prod.mk.injEq] at h
        obtain ⟨rfl, rfl, rfl⟩ := h
        have d1 : decide (4096 < m) = true := decide_eq_true hn
        clear hn
        obtain ⟨e, he⟩ : ∃ e : Int, e = 0 := ⟨0, rfl⟩
        rw [← he] at HG
        have d2 : (e != 0) = false := by rw [he]; rfl
        clear he
        go_enter Tryz.func141, Tryz.ntmps141
        go_wp2
        refine wp_region_class (fun W => RB n w0 W g t rest s a bad) (by kernel_rfl) (by kernel_rfl) HR.out.drew ?_
        repeat (first | go_big_quiet_skip | (go_big_quiet_want; go_big_quiet_op; first | go_big_quiet_on | (apply Exists.intro; refine ⟨fun W hW => ?_, ?_⟩; (first | (with_reducible exact rfl) | (go_at_call 138; ((with_reducible refine (word_Get.calls k s a m t2 e _ HG.out).mono ?_); rintro e w5 ⟨rfl, hb5⟩; exact ⟨rfl, hW.step hb5⟩)) | (have y0 := hW.c0; have y1 := hW.c1; go_simp; with_reducible rfl)); go_big_quiet_on)))
        refine wpQuiet_nil ?_
        intro W hW
        have z2 := hW.c2
        have zf := hW.fr 2
        have HE := Aside0.mk (hW.setBad true)
        clear hW
        go_wp2
        go_ret
        exact ⟨rfl, HE.out⟩
      · rw [if_neg hn] at h
        simp only [Option.some.injEq, Prod.mk.injEq] at h
        obtain ⟨rfl, rfl, rfl⟩ := h
        have d1 : decide (4096 < m) = false := decide_eq_false hn
        have d3 : IntKind.i64.wrap m = m := IntWalk.i64_in _ (by omega)
        clear hn
        obtain ⟨e, he⟩ : ∃ e : Int, e = 0 := ⟨0, rfl⟩
        rw [← he] at HG
        have d2 : (e != 0) = false := by rw [he]; rfl
        clear he
        go_enter Tryz.func141, Tryz.ntmps141
        go_wp2
        refine wp_region_class (fun W => RB n w0 W g t rest s a bad) (by kernel_rfl) (by kernel_rfl) HR.out.drew ?_
        repeat (first | go_big_quiet_skip | (go_big_quiet_want; go_big_quiet_op; first | go_big_quiet_on | (apply Exists.intro; refine ⟨fun W hW => ?_, ?_⟩; (first | (with_reducible exact rfl) | (go_at_call 138; ((with_reducible refine (word_Get.calls k s a m t2 e _ HG.out).mono ?_); rintro e w5 ⟨rfl, hb5⟩; exact ⟨rfl, hW.step hb5⟩)) | (have y0 := hW.c0; have y1 := hW.c1; go_simp; with_reducible rfl)); go_big_quiet_on)))
        refine wpQuiet_nil ?_
        intro W hW
        have z2 := hW.c1
        have zf := hW.fr 1
        have HE := Aside0.mk (hW.setAt t2)
        clear hW
        go_wp2
        go_ret
        exact ⟨rfl, HE.out⟩
    · rw [if_neg hm] at h
      cases h
  · rw [if_neg he] at h
    simp only [Option.some.injEq, Prod.mk.injEq] at h
    obtain ⟨rfl, rfl, rfl⟩ := h
    have d2 : (e != 0) = true := by simpa using he
    clear he
    go_enter Tryz.func141, Tryz.ntmps141
    go_wp2
    refine wp_region_class (fun W => RB n w0 W g t rest s a bad) (by kernel_rfl) (by kernel_rfl) HR.out.drew ?_
    repeat (first | go_big_quiet_skip | (go_big_quiet_want; go_big_quiet_op; first | go_big_quiet_on | (apply Exists.intro; refine ⟨fun W hW => ?_, ?_⟩; (first | (with_reducible exact rfl) | (go_at_call 138; ((with_reducible refine (word_Get.calls k s a m t2 e _ HG.out).mono ?_); rintro e w5 ⟨rfl, hb5⟩; exact ⟨rfl, hW.step hb5⟩)) | (have y0 := hW.c0; have y1 := hW.c1; go_simp; with_reducible rfl)); go_big_quiet_on)))
    refine wpQuiet_nil ?_
    intro W hW
    have z2 := hW.c2
    have zf := hW.fr 2
    have HE := Aside0.mk (hW.setBad true)
    clear hW
    go_wp2
    go_ret
    exact ⟨rfl, HE.out⟩


end Go.Proofs.YtmheajenlhlbhaaGreatDoor.X


namespace Go.Proofs.YtmheajenlhlbhaaGreatDoor.X
open Go.RowKit Go.Proofs.YtmheajenlhlbhaaGreatDoorW.PrintWords Go.Proofs.YtmheajenlhlbhaaGreatDoorW.PrintLast Go.Proofs.YtmheajenlhlbhaaGreatDoorW.PrintMore
attribute [local go_sem] max2_int min2_int max_two min_two max_three min_three max_four min_four   -- for this text's walks alone
set_option linter.unusedVariables false
set_option linter.unusedSimpArgs false

def cell_reader_take.f (s : ByteArray) (a : Int) (bad : Bool) (m : Int) : Option (ByteArray × Int × Bool) :=
  if 0 ≤ a ∧ a ≤ s.size ∧ s.size ≤ 1000000000 ∧ 0 ≤ m ∧ m ≤ 1000000000 then (if bad = true then some (⟨#[]⟩, a, true) else if (s.size : Int) - a < m then some (⟨#[]⟩, a, true) else some (s.extract a.toNat (a + m).toNat, a + m, false)) else none
set_option maxRecDepth 100000 in
set_option maxHeartbeats 2000000 in
theorem cell_reader_take.calls (g : Nat) (t : TypeId) (rest : List Value) (s : ByteArray) (a : Int) (bad : Bool) (m : Int) (r : ByteArray) (a2 : Int) (bad2 : Bool) (n : Nat) (w0 w : World) (hR : RB n w0 w g t rest s a bad) (h : cell_reader_take.f s a bad m = some (r, a2, bad2)) :
    Calls Tryz.prog 140 #[.pointer (some ⟨g, 0, none⟩), .int .i64 m] w fun e w' => e = .returned (.string r) ∧ RB n w0 w' g t rest s a2 bad2 := by
  unfold cell_reader_take.f at h
  by_cases hb : 0 ≤ a ∧ a ≤ s.size ∧ s.size ≤ 1000000000 ∧ 0 ≤ m ∧ m ≤ 1000000000
  · rw [if_pos hb] at h
    obtain ⟨b1, b2, b3, b4, b5⟩ := hb
    have HR := Aside0.mk hR
    clear hR
    have hw : IntKind.i64.wrap ((s.size : Int) - a) = (s.size : Int) - a := IntWalk.i64_in _ (by omega)
    cases bad with
    | true =>
      rw [if_pos rfl] at h
      simp only [Option.some.injEq, Prod.mk.injEq] at h
      obtain ⟨rfl, rfl, rfl⟩ := h
      go_enter Tryz.func140, Tryz.ntmps140
      go_wp2
      refine wp_region_class (fun W => RB n w0 W g t rest s a true) (by kernel_rfl) (by kernel_rfl) HR.out.drew ?_
      repeat (first | go_big_quiet_skip | (go_big_quiet_want; go_big_quiet_op; first | go_big_quiet_on | (apply Exists.intro; refine ⟨fun W hW => ?_, ?_⟩; (first | (with_reducible exact rfl) | (have y0 := hW.c0; have y1 := hW.c1; have y2 := hW.c2; go_simp; with_reducible rfl)); go_big_quiet_on)))
      refine wpQuiet_nil ?_
      intro W hW
      have z2 := hW.c2
      have zf := hW.fr 2
      have HE := Aside0.mk (hW.setBad true)
      clear hW
      go_wp2
      go_ret
      exact ⟨rfl, HE.out⟩
    | false =>
      rw [if_neg (by decide)] at h
      by_cases hn : (s.size : Int) - a < m
      · rw [if_pos hn] at h
        simp only [Option.some.injEq, Prod.mk.injEq] at h
        obtain ⟨rfl, rfl, rfl⟩ := h
        have d1 : decide ((s.size : Int) - a < m) = true := decide_eq_true hn
        clear hn
        go_enter Tryz.func140, Tryz.ntmps140
        go_wp2
        refine wp_region_class (fun W => RB n w0 W g t rest s a false) (by kernel_rfl) (by kernel_rfl) HR.out.drew ?_
        repeat (first | go_big_quiet_skip | (go_big_quiet_want; go_big_quiet_op; first | go_big_quiet_on | (apply Exists.intro; refine ⟨fun W hW => ?_, ?_⟩; (first | (with_reducible exact rfl) | (have y0 := hW.c0; have y1 := hW.c1; have y2 := hW.c2; go_simp; with_reducible rfl)); go_big_quiet_on)))
        refine wpQuiet_nil ?_
        intro W hW
        have z2 := hW.c2
        have zf := hW.fr 2
        have HE := Aside0.mk (hW.setBad true)
        clear hW
        go_wp2
        go_ret
        exact ⟨rfl, HE.out⟩
      · rw [if_neg hn] at h
        simp only [Option.some.injEq, Prod.mk.injEq] at h
        obtain ⟨rfl, rfl, rfl⟩ := h
        have d1 : decide ((s.size : Int) - a < m) = false := decide_eq_false hn
        have d2 : IntKind.i64.wrap (a + m) = a + m := IntWalk.i64_in _ (by omega)
        have d3 : a + m - m = a := by omega
        have d4 : IntKind.i64.wrap a = a := IntWalk.i64_in _ (by omega)
        have d5 : IntKind.i64.wrap (a + m - m) = a := by rw [d3]; exact d4
        have d6 : a ≤ a + m := by omega
        have d7 : a + m ≤ (s.size : Int) := by omega
        have d8 : m ≤ (s.size : Int) - a := by omega
        clear hn
        go_enter Tryz.func140, Tryz.ntmps140
        go_wp2
        refine wp_region_class (fun W => RB n w0 W g t rest s a false) (by kernel_rfl) (by kernel_rfl) HR.out.drew ?_
        repeat (first | go_big_quiet_skip | (go_big_quiet_want; go_big_quiet_op; first | go_big_quiet_on | (apply Exists.intro; refine ⟨fun W hW => ?_, ?_⟩; (first | (with_reducible exact rfl) | (have y0 := hW.c0; have y1 := hW.c1; have y2 := hW.c2; go_simp; with_reducible rfl)); go_big_quiet_on)))
        refine wpQuiet_nil ?_
        intro W hW
        have z1 := hW.c1
        have zf := hW.fr 1
        have HE := Aside0.mk (hW.setAt (a + m))
        clear hW
        go_wp2
        refine wp_region_class (fun W => RB n w0 W g t rest s (a + m) false) (by kernel_rfl) (by kernel_rfl) HE.out.drew ?_
        repeat (first | go_big_quiet_skip | (go_big_quiet_want; go_big_quiet_op; first | go_big_quiet_on | (apply Exists.intro; refine ⟨fun W hW => ?_, ?_⟩; (first | (with_reducible exact rfl) | (have y0 := hW.c0; have y1 := hW.c1; have y2 := hW.c2; go_simp; with_reducible rfl)); go_big_quiet_on)))
        refine wpQuiet_nil ?_
        intro W2 hW2
        have HF := Aside0.mk hW2
        clear hW2
        go_wp2
        go_ret
        exact ⟨rfl, HF.out⟩
  · rw [if_neg hb] at h
    cases h


end Go.Proofs.YtmheajenlhlbhaaGreatDoor.X


namespace Go.Proofs.YtmheajenlhlbhaaGreatDoor.X
open Go.RowKit Go.Proofs.YtmheajenlhlbhaaGreatDoorW.PrintWords Go.Proofs.YtmheajenlhlbhaaGreatDoorW.PrintLast Go.Proofs.YtmheajenlhlbhaaGreatDoorW.PrintMore
attribute [local go_sem] max2_int min2_int max_two min_two max_three min_three max_four min_four   -- for this text's walks alone
set_option linter.unusedVariables false
set_option linter.unusedSimpArgs false

def cell_reader_four.f (k : Nat) (s : ByteArray) (a : Int) (bad : Bool) : Option (Int × Int × Bool) :=
  (word_Read.f k s a).bind fun g => if g.2 = 0 then (if 0 ≤ g.1 ∧ 0 ≤ a ∧ a ≤ 1000000000 then (if 4096 ≤ g.1 then some (0, a, true) else some (g.1, a + 4, bad)) else none) else some (0, a, true)
set_option maxRecDepth 100000 in
set_option maxHeartbeats 2000000 in
theorem cell_reader_four.calls (k : Nat) (g : Nat) (t : TypeId) (rest : List Value) (s : ByteArray) (a : Int) (bad : Bool) (r a2 : Int) (bad2 : Bool) (n : Nat) (w0 w : World) (hR : RB n w0 w g t rest s a bad) (h : cell_reader_four.f k s a bad = some (r, a2, bad2)) :
    Calls Tryz.prog 183 #[.pointer (some ⟨g, 0, none⟩)] w fun e w' => e = .returned (.int .i64 r) ∧ RB n w0 w' g t rest s a2 bad2 := by
  unfold cell_reader_four.f at h
  obtain ⟨⟨m, e⟩, hg, h⟩ := Option.bind_eq_some_iff.mp h
  have HG := Aside0.mk hg
  have HR := Aside0.mk hR
  clear hg hR
  dsimp only at h
  by_cases he : e = 0
  · rw [if_pos he] at h
    subst he
    by_cases hm : 0 ≤ m ∧ 0 ≤ a ∧ a ≤ 1000000000
    · rw [if_pos hm] at h
      by_cases hn : 4096 ≤ m
      · rw [if_pos hn] at h
        simp only [Option.some.injEq, Prod.mk.injEq] at h
        obtain ⟨rfl, rfl, rfl⟩ := h
        have d1 : decide (4096 ≤ m) = true := decide_eq_true hn
        clear hn
        obtain ⟨e, he⟩ : ∃ e : Int, e = 0 := ⟨0, rfl⟩
        rw [← he] at HG
        have d2 : (e != 0) = false := by rw [he]; rfl
        clear he
        go_enter Tryz.func183, Tryz.ntmps183
        go_wp2
        refine wp_region_class (fun W => RB n w0 W g t rest s a bad) (by kernel_rfl) (by kernel_rfl) HR.out.drew ?_
        repeat (first | go_big_quiet_skip | (go_big_quiet_want; go_big_quiet_op; first | go_big_quiet_on | (apply Exists.intro; refine ⟨fun W hW => ?_, ?_⟩; (first | (with_reducible exact rfl) | (go_at_call 82; ((with_reducible refine (word_Read.calls k s a m e _ HG.out).mono ?_); rintro e w5 ⟨rfl, ⟨nd, rfl⟩⟩; exact ⟨rfl, hW.step (pw_below_drewN (Below.refl _ _) _)⟩)) | (have y0 := hW.c0; have y1 := hW.c1; go_simp; with_reducible rfl)); go_big_quiet_on)))
        refine wpQuiet_nil ?_
        intro W hW
        have z2 := hW.c2
        have zf := hW.fr 2
        have HE := Aside0.mk (hW.setBad true)
        clear hW
        go_wp2
        go_ret
        exact ⟨rfl, HE.out⟩
      · rw [if_neg hn] at h
        simp only [Option.some.injEq, Prod.mk.injEq] at h
        obtain ⟨rfl, rfl, rfl⟩ := h
        have d1 : decide (4096 ≤ m) = false := decide_eq_false hn
        have d3 : IntKind.i64.wrap m = m := IntWalk.i64_in _ (by omega)
        have d4 : IntKind.i64.wrap (a + 4) = a + 4 := IntWalk.i64_in _ (by omega)
        have d5 : 0 ≤ m := hm.1
        have d6 : m < 4096 := by omega
        have d7 : 0 ≤ a := hm.2.1
        have d8 : a ≤ 1000000000 := hm.2.2
        clear hn
        obtain ⟨e, he⟩ : ∃ e : Int, e = 0 := ⟨0, rfl⟩
        rw [← he] at HG
        have d2 : (e != 0) = false := by rw [he]; rfl
        clear he
        go_enter Tryz.func183, Tryz.ntmps183
        go_wp2
        refine wp_region_class (fun W => RB n w0 W g t rest s a bad) (by kernel_rfl) (by kernel_rfl) HR.out.drew ?_
        repeat (first | go_big_quiet_skip | (go_big_quiet_want; go_big_quiet_op; first | go_big_quiet_on | (apply Exists.intro; refine ⟨fun W hW => ?_, ?_⟩; (first | (with_reducible exact rfl) | (go_at_call 82; ((with_reducible refine (word_Read.calls k s a m e _ HG.out).mono ?_); rintro e w5 ⟨rfl, ⟨nd, rfl⟩⟩; exact ⟨rfl, hW.step (pw_below_drewN (Below.refl _ _) _)⟩)) | (have y0 := hW.c0; have y1 := hW.c1; go_simp; with_reducible rfl)); go_big_quiet_on)))
        refine wpQuiet_nil ?_
        intro W hW
        have z2 := hW.c1
        have zf := hW.fr 1
        have HE := Aside0.mk (hW.setAt (a + 4))
        clear hW
        go_wp2
        go_ret
        exact ⟨rfl, HE.out⟩
    · rw [if_neg hm] at h
      cases h
  · rw [if_neg he] at h
    simp only [Option.some.injEq, Prod.mk.injEq] at h
    obtain ⟨rfl, rfl, rfl⟩ := h
    have d2 : (e != 0) = true := by simpa using he
    clear he
    go_enter Tryz.func183, Tryz.ntmps183
    go_wp2
    refine wp_region_class (fun W => RB n w0 W g t rest s a bad) (by kernel_rfl) (by kernel_rfl) HR.out.drew ?_
    repeat (first | go_big_quiet_skip | (go_big_quiet_want; go_big_quiet_op; first | go_big_quiet_on | (apply Exists.intro; refine ⟨fun W hW => ?_, ?_⟩; (first | (with_reducible exact rfl) | (go_at_call 82; ((with_reducible refine (word_Read.calls k s a m e _ HG.out).mono ?_); rintro e w5 ⟨rfl, ⟨nd, rfl⟩⟩; exact ⟨rfl, hW.step (pw_below_drewN (Below.refl _ _) _)⟩)) | (have y0 := hW.c0; have y1 := hW.c1; go_simp; with_reducible rfl)); go_big_quiet_on)))
    refine wpQuiet_nil ?_
    intro W hW
    have z2 := hW.c2
    have zf := hW.fr 2
    have HE := Aside0.mk (hW.setBad true)
    clear hW
    go_wp2
    go_ret
    exact ⟨rfl, HE.out⟩


end Go.Proofs.YtmheajenlhlbhaaGreatDoor.X

