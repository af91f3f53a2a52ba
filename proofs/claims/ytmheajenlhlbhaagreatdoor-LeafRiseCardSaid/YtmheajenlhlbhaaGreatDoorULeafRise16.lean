/- What functions of the given program compute, step by step: the walks that the law LeafRise leans on, part 16. No conditions. -/
import Derived.Test.YtmheajenlhlbhaaGreatDoorULeafRise01
import Derived.Test.YtmheajenlhlbhaaGreatDoorULeafRise10
import Derived.Test.YtmheajenlhlbhaaGreatDoorULeafRise12
import Derived.Test.YtmheajenlhlbhaaGreatDoorULeafRise03
import Derived.Test.YtmheajenlhlbhaaGreatDoorULeafRise05
import Derived.Test.YtmheajenlhlbhaaGreatDoorULeafRise11
import Derived.Test.YtmheajenlhlbhaaGreatDoorULeafRise13
import Derived.Test.YtmheajenlhlbhaaGreatDoorULeafRise14
import Derived.Test.YtmheajenlhlbhaaGreatDoorULeafRise15
import Derived.Deep.RegionHeld3
import Derived.Deep.RegionWith
namespace Go.Proofs.YtmheajenlhlbhaaGreatDoor.X
open Go.RowKit Go.Proofs.YtmheajenlhlbhaaGreatDoorW.PrintWords Go.Proofs.YtmheajenlhlbhaaGreatDoorW.PrintLast Go.Proofs.YtmheajenlhlbhaaGreatDoorW.PrintMore
attribute [local go_sem] max2_int min2_int max_two min_two max_three min_three max_four min_four   -- for this text's walks alone
set_option linter.unusedVariables false
set_option linter.unusedSimpArgs false

def leaf_Size_raw.f (a0_0 : Int) (a0_1 : Int) (a0_2 : ByteArray) (l0_3 : List (S32)) : Option (Int) := (leaf_parts.f a0_0 a0_1 a0_2 l0_3).bind fun bt246 => ((slot_Size.f bt246.1 bt246.2).bind fun t250 => (some t250))
set_option maxHeartbeats 8000000 in
set_option maxRecDepth 100000 in
theorem leaf_Size_raw.calls (a0_0 : Int) (a0_1 : Int) (a0_2 : ByteArray) (A0_3 : Option Addr) (c0_3 : Nat) (l0_3 : List (S32)) (r : Int) (w : World) (hr0_3 : Kd.C k32 w A0_3 l0_3.length l0_3) (hc0_3 : l0_3.length ≤ c0_3) (h : leaf_Size_raw.f a0_0 a0_1 a0_2 l0_3 = some r) :
    Calls Tryz.prog 49 #[.agg #[.int .i64 a0_0, .int .i64 a0_1, .string a0_2, .slice A0_3 l0_3.length c0_3]] w fun e w' => e = .returned (.int .i64 r) ∧ Below w.heap.size w w' := by
  have hu24 := Tryz.underlying24
  have HR0_3 := Aside0.mk hr0_3
  have HC0_3 := Aside0.mk hc0_3
  clear hr0_3 hc0_3
  have HB := Aside0.mk (Below.refl w.heap.size w)
  have H : ((leaf_parts.f a0_0 a0_1 a0_2 l0_3).bind fun bt246 => ((slot_Size.f bt246.1 bt246.2).bind fun t250 => (some t250))) = some r := h
  clear h
  replace H := Option.bind_eq_some_iff.mp H
  obtain ⟨⟨t246, t247⟩, A20, H⟩ := H
  replace H : ((slot_Size.f t246 t247).bind fun t250 => (some t250)) = some r := H
  have A2 := Aside0.mk A20
  clear A20
  replace H := Option.bind_eq_some_iff.mp H
  obtain ⟨t250, A30, H⟩ := H
  replace H : (some t250) = some r := H
  have A3 := Aside0.mk A30
  clear A30
  obtain rfl := Option.some.inj H
  go_enter Tryz.func49, Tryz.ntmps49
  go_wp2_with (first | ((with_reducible refine gate_dst (N := 1) rfl ?_); refine box_event ?hg (N := 1) ?hd (cs := #[.int .i64 a0_0, .int .i64 a0_1, .string a0_2, .slice A0_3 l0_3.length c0_3]) (t := 24) ?hr ?_; (case hd => rfl); (case hg => rfl); (case hr => first | (go_simp; done) | (go_simp; rfl)); intro gb245 hg w4 hbox hb; have n0_ := Aside0.mk (below_step (by repeat (first | (with_reducible first | exact HB.out | apply below_alloc | apply pw_below_drewN | apply below_drew1) | exact HB.out)) hb); have n1_ := Aside0.mk (hbox); have n2_ := Aside0.mk ((by rw [hg]; exact (below_size (by repeat (first | (with_reducible first | exact HB.out | apply below_alloc | apply pw_below_drewN | apply below_drew1) | exact HB.out))) : w.heap.size ≤ gb245)); have n3_ := Aside0.mk ((by rw [hg]; exact (below_size (by repeat (first | (with_reducible first | exact HB.out | apply below_alloc | apply pw_below_drewN | apply below_drew1) | exact HB.out))) : w.heap.size ≤ gb245)); clear HB; have HB := n0_; have BK245 := n1_; have GW245 := n2_; have GE245 := n3_; clear n0_ n1_ n2_ n3_; clear hb hbox hg; have hcz5_0 : w4.cell? ⟨gb245, 0, none⟩ = some (.int .i64 a0_0) := (blk_cell BK245.out 0).trans rfl; have hcz5_1 : w4.cell? ⟨gb245, 1, none⟩ = some (.int .i64 a0_1) := (blk_cell BK245.out 1).trans rfl; have hcz5_2 : w4.cell? ⟨gb245, 2, none⟩ = some (.string a0_2) := (blk_cell BK245.out 2).trans rfl; have hcz5_3 : w4.cell? ⟨gb245, 3, none⟩ = some (.slice A0_3 l0_3.length c0_3) := (blk_cell BK245.out 3).trans rfl; have hfz5_0 := blk_frozen BK245.out 0; have hfz5_1 := blk_frozen BK245.out 1; have hfz5_2 := blk_frozen BK245.out 2; have hfz5_3 := blk_frozen BK245.out 3) | ((with_reducible refine gate_callee (f := 95) rfl ?_); refine goesL_ (some 7) rfl rfl Tryz.func95 (by kernel_rfl) rfl #[.agg #[.int .i64 a0_0, .int .i64 a0_1, .string a0_2, .slice A0_3 l0_3.length c0_3]] rfl (by (try simp only [List.map_toArray, List.map_cons, List.map_nil]); first | done | rfl | (simp only [List.length_drop, List.length_take]; rfl)) ?_; (with_reducible refine (leaf_parts.calls a0_0 a0_1 a0_2 _ _ l0_3 t246 t247 _ ?side1 ?side2 A2.out).mono ?_); (case side1 => repeat (first | exact (Kd.C_below HR0_3.out HB.out) | (with_reducible refine Kd.C_alloc ?_ _) | (with_reducible refine Kd.C_drewN ?_ _) | (with_reducible refine Kd.C_drew ?_))); (case side2 => exact HC0_3.out); rintro e w6 ⟨v248, rfl, ho0, hb⟩; refine ⟨_, rfl, ?_⟩; have n0_ := Aside0.mk (Kd.R_lower ho0 (below_size (by repeat (first | (with_reducible first | exact HB.out | apply below_alloc | apply pw_below_drewN | apply below_drew1 | refine below_set ?_ GE245.out) | exact HB.out)))); have n1_ := Aside0.mk (blk_below (g := gb245) (o := .cells #[.int .i64 a0_0, .int .i64 a0_1, .string a0_2, .slice A0_3 l0_3.length c0_3] 24 (0, 0)) (by (with_reducible repeat (first | refine blk_drewN ?_ _ | refine blk_drew ?_ | refine blk_alloc ?_ _)); exact BK245.out) hb); have n2_ := Aside0.mk (below_step (by repeat (first | (with_reducible first | exact HB.out | apply below_alloc | apply pw_below_drewN | apply below_drew1 | refine below_set ?_ GE245.out) | exact HB.out)) hb); clear BK245; clear HB; have HO249 := n0_; have BK245 := n1_; have HB := n2_; clear n0_ n1_ n2_; (try clear hb); (try clear hb2); (try clear hk); (try clear hi); (try clear ho0); obtain ⟨Ao7, co7, eo7⟩ := Kd.R_slice HO249.out; subst eo7) | ((with_reducible refine gate_callee (f := 101) rfl ?_); refine goesL_ (some 12) rfl rfl Tryz.func101 (by kernel_rfl) rfl #[.string t246, .slice Ao7 t247.length co7] rfl (by (try simp only [List.map_toArray, List.map_cons, List.map_nil]); first | done | rfl | (simp only [List.length_drop, List.length_take]; rfl)) ?_; (with_reducible refine (slot_Size.calls t246 _ _ t247 t250 _ ?side1 ?side2 A3.out).mono ?_); (case side1 => repeat (first | exact (Kd.R_reads' HO249.out).2.2 | (with_reducible refine Kd.C_alloc ?_ _) | (with_reducible refine Kd.C_drewN ?_ _) | (with_reducible refine Kd.C_drew ?_))); (case side2 => exact (Kd.R_reads' HO249.out).2.1); rintro e w8 ⟨rfl, hb⟩; refine ⟨_, rfl, ?_⟩; have n0_ := Aside0.mk (Kd.R_below (by (with_reducible repeat (first | apply Kd.R_alloc | apply Kd.R_drewN | apply Kd.R_drew)); exact HO249.out) hb); have n1_ := Aside0.mk (blk_below (g := gb245) (o := .cells #[.int .i64 a0_0, .int .i64 a0_1, .string a0_2, .slice A0_3 l0_3.length c0_3] 24 (0, 0)) (by (with_reducible repeat (first | refine blk_drewN ?_ _ | refine blk_drew ?_ | refine blk_alloc ?_ _)); exact BK245.out) hb); have n2_ := Aside0.mk (below_step (by repeat (first | (with_reducible first | exact HB.out | apply below_alloc | apply pw_below_drewN | apply below_drew1 | refine below_set ?_ GE245.out) | exact HB.out)) hb); clear HO249; clear BK245; clear HB; have HO249 := n0_; have BK245 := n1_; have HB := n2_; clear n0_ n1_ n2_; (try clear hb); (try clear hb2); (try clear hk); (try clear hi)))
  go_ret
  exact ⟨by first | rfl | (simp [errW_none, errW_some] <;> rfl) | (simp [*, errW_none, errW_some] <;> rfl), by repeat (first | (with_reducible first | exact HB.out | apply below_alloc | apply pw_below_drewN | apply below_drew1 | refine below_set ?_ GE245.out) | exact HB.out)⟩

end Go.Proofs.YtmheajenlhlbhaaGreatDoor.X


namespace Go.Proofs.YtmheajenlhlbhaaGreatDoor.X
open Go.RowKit Go.Proofs.YtmheajenlhlbhaaGreatDoorW.PrintWords Go.Proofs.YtmheajenlhlbhaaGreatDoorW.PrintLast Go.Proofs.YtmheajenlhlbhaaGreatDoorW.PrintMore
attribute [local go_sem] max2_int min2_int max_two min_two max_three min_three max_four min_four   -- for this text's walks alone
set_option linter.unusedVariables false
set_option linter.unusedSimpArgs false

theorem cellB_size (s : ByteArray) (v : S30) (h : valOk v = true) : (cellB s v).size ≤ s.size + 300 := by
  unfold cellB valB
  have h1 := textB_size s
  rw [ByteArray.size_append]
  by_cases hb : v.f0 = true
  · rw [if_pos hb, ByteArray.size_append, ByteArray.size_append, strOfNums_size, strOfNums_size, strOfNums_size]
    have := putL_length_le v.f2.toNat
    simp
    omega
  · rw [if_neg hb, ByteArray.size_append, strOfNums_size]
    have h2 := textB_size v.f1
    have hv : v.f1.size ≤ 256 := by
      unfold valOk at h
      rw [if_neg hb] at h
      simp at h
      exact h.2
    simp
    omega
theorem itemCell_size (s : ByteArray) (v : S30) : (itemCell s v).size ≤ 428 := by
  unfold itemCell
  by_cases h : s.size ≤ 128 ∧ valOk v = true
  · rw [if_pos h]
    have := cellB_size s v h.2
    omega
  · rw [if_neg h]
    show 0 ≤ 428
    omega
theorem sizeSum_le (l : List ByteArray) (m : Nat) (h : ∀ s ∈ l, s.size ≤ m) : sizeSum l ≤ l.length * m := by
  induction l with
  | nil => exact Nat.zero_le _
  | cons a r ih =>
    have h1 := h a (by simp)
    have h2 := ih (fun s hs => h s (by simp [hs]))
    simp only [sizeSum, List.map_cons, List.sum_cons, List.length_cons, Nat.add_mul] at h2 ⊢
    omega
theorem leafCells_mem (l : List S32) : ∀ s ∈ leafCells l, s.size ≤ 428 := by
  intro s hs
  obtain ⟨i, hi, rfl⟩ := List.getElem_of_mem hs
  simp only [leafCells, List.getElem_zipWith]
  exact itemCell_size _ _
def leafNeed (high : ByteArray) (l : List S32) : Nat := (leafFixed high l).size + sizeSum (leafCells l) + 2 * (l.length + 1)
def leaf_Size.f (a b : Int) (high : ByteArray) (l : List S32) : Option Int := if l.length ≤ 1000000 ∧ high.size ≤ 1000000000 ∧ ∀ x ∈ l, x.f0.size ≤ 1000000000 then some (leafNeed high l : Nat) else none
theorem leaf_Size.calls (a0_0 : Int) (a0_1 : Int) (a0_2 : ByteArray) (A0_3 : Option Addr) (c0_3 : Nat) (l0_3 : List S32) (r : Int) (w : World) (hr0_3 : Kd.C k32 w A0_3 l0_3.length l0_3) (hc0_3 : l0_3.length ≤ c0_3) (h : leaf_Size.f a0_0 a0_1 a0_2 l0_3 = some r) :
    Calls Tryz.prog 49 #[.agg #[.int .i64 a0_0, .int .i64 a0_1, .string a0_2, .slice A0_3 l0_3.length c0_3]] w fun e w' => e = .returned (.int .i64 r) ∧ Below w.heap.size w w' := by
  unfold leaf_Size.f at h
  by_cases hs : l0_3.length ≤ 1000000 ∧ a0_2.size ≤ 1000000000 ∧ ∀ x ∈ l0_3, x.f0.size ≤ 1000000000
  · rw [if_pos hs] at h
    refine leaf_Size_raw.calls a0_0 a0_1 a0_2 A0_3 c0_3 l0_3 r w hr0_3 hc0_3 ?_
    have h1 : leaf_parts.f a0_0 a0_1 a0_2 l0_3 = some (leafFixed a0_2 l0_3, leafCells l0_3) := by unfold leaf_parts.f; rw [if_pos ⟨by omega, hs.2⟩]
    have hall : (stripAll (leafKeys l0_3)).size ≤ 1000000000 := stripAll_size_le _ _ (fun s hs' => by obtain ⟨x, hx, rfl⟩ := List.mem_map.1 hs'; exact hs.2.2 x hx)
    have hf : (leafFixed a0_2 l0_3).size ≤ 3000000000 := by
      unfold leafFixed
      have p1 := putL_length_le (stripAll (leafKeys l0_3)).size
      have p2 := putL_length_le a0_2.size
      rw [ByteArray.size_append, ByteArray.size_append, ByteArray.size_append, strOfNums_size, strOfNums_size]
      omega
    have hc := sizeSum_le (leafCells l0_3) 428 (leafCells_mem l0_3)
    have h2 : slot_Size.f (leafFixed a0_2 l0_3) (leafCells l0_3) = some ((leafNeed a0_2 l0_3 : Nat) : Int) := by
      unfold slot_Size.f leafNeed
      rw [leafCells_length] at hc ⊢
      rw [if_pos ⟨by omega, by omega, by omega⟩]
    unfold leaf_Size_raw.f
    rw [h1]
    simp only [Option.bind_some, h2]
    exact h
  · rw [if_neg hs] at h
    exact absurd h (by simp)


end Go.Proofs.YtmheajenlhlbhaaGreatDoor.X


namespace Go.Proofs.YtmheajenlhlbhaaGreatDoor.X
open Go.RowKit Go.Proofs.YtmheajenlhlbhaaGreatDoorW.PrintWords Go.Proofs.YtmheajenlhlbhaaGreatDoorW.PrintLast Go.Proofs.YtmheajenlhlbhaaGreatDoorW.PrintMore
attribute [local go_sem] max2_int min2_int max_two min_two max_three min_three max_four min_four   -- for this text's walks alone
set_option linter.unusedVariables false
set_option linter.unusedSimpArgs false

def fx_L : List S32 := [⟨⟨#[97, 98]⟩, ⟨false, ⟨#[120]⟩, 0, 0⟩⟩, ⟨⟨#[97, 99]⟩, ⟨false, ⟨#[121]⟩, 0, 0⟩⟩]
def fx_ad : ByteArray := ⟨#[97, 100]⟩
def fx_s : ByteArray := ((leaf_Encode.f 1 0 ⟨#[]⟩ fx_L 128).getD (⟨#[]⟩, 9)).1
def fx_t : ByteArray := ((leaf_Encode.f 1 2 fx_ad fx_L 128).getD (⟨#[]⟩, 9)).1
def fx_rep : ByteArray := ⟨(List.replicate 30 7).toArray⟩
def fx_item (k : Nat) : S32 := ⟨strOfNums [(k : Int) % 256], ⟨false, fx_rep, 0, 0⟩⟩
def fx_big (k : Nat) : List S32 := (List.range k).map fx_item
def fx_z : ByteArray := ⟨(List.replicate 128 0).toArray⟩
def fx_ref (l : List S32) : List S185 := ((withylaw10_Ref.f 20 1 0 ⟨#[]⟩ l).getD (0, 0, ⟨#[]⟩, [])).2.2.2
theorem fx_big_succ (k : Nat) : fx_big (k + 1) = fx_big k ++ [fx_item k] := by unfold fx_big; rw [List.range_succ, List.map_append]; rfl
theorem fx_big_len (k : Nat) : (fx_big k).length = k := by simp [fx_big]
theorem fx_two : withylaw10_two.f = some (1, 0, ⟨#[]⟩, fx_L) := by rfl
theorem fx_e1 : leaf_Encode.f 1 0 ⟨#[]⟩ fx_L 128 = some (fx_s, 0) := by kernel_rfl
theorem fx_e2 : leaf_Encode.f 1 0 ⟨#[]⟩ fx_L 100 = some (⟨#[]⟩, 4) := by kernel_rfl
theorem fx_e3 : leaf_Encode.f 1 2 ⟨#[]⟩ fx_L 128 = some (⟨#[]⟩, 3) := by kernel_rfl
theorem fx_e4 : leaf_Encode.f 1 2 fx_ad fx_L 128 = some (fx_t, 0) := by kernel_rfl
theorem fx_rp : withyref01_Repeat.f 40 7 30 = some fx_rep := by kernel_rfl
theorem fx_e5 : leaf_Encode.f 1 0 ⟨#[]⟩ (fx_big 9) 128 = some (⟨#[]⟩, 8) := by kernel_rfl
theorem fx_d1 : leaf_Decode.f fx_s = some (1, 0, ⟨#[]⟩, fx_L, 0) := by kernel_rfl
theorem fx_d2 : leaf_Decode.f fx_t = some (1, 2, fx_ad, fx_L, 0) := by kernel_rfl
theorem fx_rz : withyref01_Repeat.f 140 0 128 = some fx_z := by kernel_rfl
theorem fx_d3 : leaf_Decode.f fx_z = some (0, 0, ⟨#[]⟩, [], 3) := by kernel_rfl
theorem fx_f1 : leaf_Find.f 1 0 ⟨#[]⟩ fx_L ⟨#[97, 99]⟩ = some (false, ⟨#[121]⟩, 0, 0, true) := by decide +kernel
theorem fx_f2 : leaf_Find.f 1 0 ⟨#[]⟩ fx_L ⟨#[97]⟩ = some (false, ⟨#[]⟩, 0, 0, false) := by decide +kernel
theorem fx_r1 : withylaw10_Ref.f 20 1 0 ⟨#[]⟩ fx_L = some (1, 0, ⟨#[]⟩, fx_ref fx_L) := by kernel_rfl
theorem fx_r2 : withylaw10_Ref.f 20 1 2 fx_ad fx_L = some (1, 2, fx_ad, fx_ref fx_L) := by kernel_rfl
theorem fx_s1 : withyref10_Same.f 20 1 0 ⟨#[]⟩ (fx_ref fx_L) 1 0 ⟨#[]⟩ (fx_ref fx_L) = some true := by kernel_rfl
theorem fx_s2 : withyref10_Same.f 20 1 2 fx_ad (fx_ref fx_L) 1 2 fx_ad (fx_ref fx_L) = some true := by kernel_rfl
theorem fx_m1 : leaf_May.f 1 0 ⟨#[]⟩ fx_L 128 = some true := by kernel_rfl
theorem fx_m2 : leaf_May.f 1 0 ⟨#[]⟩ fx_L 64 = some false := by kernel_rfl
theorem fx_m3 : leaf_May.f 0 0 ⟨#[]⟩ [] 128 = some false := by kernel_rfl
theorem fx_q1 : leaf_Same.f 20 1 0 ⟨#[]⟩ fx_L 1 0 ⟨#[]⟩ fx_L = some true := by kernel_rfl
theorem fx_q2 : leaf_Same.f 20 1 0 ⟨#[]⟩ fx_L 1 2 fx_ad fx_L = some false := by kernel_rfl
theorem fx_z1 : leaf_Size.f 1 0 ⟨#[]⟩ fx_L = some 19 := by kernel_rfl
theorem fx_n1 : ((fx_s.size : Int) != 128) = false := by kernel_rfl
theorem fx_n2 : (29 : Int) ≤ (fx_s.size : Int) := by decide +kernel
theorem fx_n3 : ((fx_s.extract 16 29).toList == [1, 97, 0, 1, 98, 0, 1, 120, 1, 99, 0, 1, 121]) = true := by kernel_rfl
theorem fx_may0 (w : World) : Calls Tryz.prog 47 #[.agg #[.int .i64 0, .int .i64 0, .string ⟨#[]⟩, .slice none 0 0], .int .i64 128] w fun e w' => e = .returned (.bool false) ∧ Below w.heap.size w w' := leaf_May.calls 0 0 ⟨#[]⟩ none 0 [] 128 false w (Kd.C_nil _ _) (Nat.le_refl _) fx_m3
theorem cellIf {W W2 : World} (h : Below W.heap.size W W2) (b : Nat) : W2.cell? ⟨b, 0, none⟩ = if b < W.heap.size then W.cell? ⟨b, 0, none⟩ else W2.cell? ⟨b, 0, none⟩ := by
  split
  · exact h.cell (p := ⟨b, 0, none⟩) (by assumption)
  · rfl
def withylaw10_fixed.f : Option Bool := some true
set_option maxRecDepth 100000 in
set_option maxHeartbeats 16000000 in
theorem withylaw10_fixed.calls (r : Bool) (w : World) (h : withylaw10_fixed.f = some r) (hg : GlobE w) :
    Calls Tryz.prog 12 #[] w fun e w' => e = .returned (.bool r) ∧ Below w.heap.size w w' := by
  obtain rfl : true = r := Option.some.inj h
  have HG := Aside0.mk hg
  clear h hg
  go_enter Tryz.func12, Tryz.ntmps12
  go_wp2_with fail
  refine (withylaw10_two.calls 1 0 ⟨#[]⟩ fx_L _ fx_two).mono ?_
  rintro e w1 ⟨v1, rfl, ho1, hb1⟩
  obtain ⟨A1, c1, rfl⟩ := Kd.R_slice ho1
  obtain ⟨_, hc1, hC1⟩ := Kd.R_reads' ho1
  have X1 : Aside0 (Block (w1.alloc (.cells #[.int .i64 1, .int .i64 0, .string ⟨#[]⟩, .slice A1 fx_L.length c1] 24)) w1.heap.size 24 #[.int .i64 1, .int .i64 0, .string ⟨#[]⟩, .slice A1 fx_L.length c1]) := ⟨World.alloc_heap_new w1 _⟩
  have C1 := Aside0.mk (Kd.C_below hC1 (below_alloc (Below.refl _ _) (.cells #[.int .i64 1, .int .i64 0, .string ⟨#[]⟩, .slice A1 fx_L.length c1] 24)))
  have HB := Aside0.mk (below_alloc hb1 (.cells #[.int .i64 1, .int .i64 0, .string ⟨#[]⟩, .slice A1 fx_L.length c1] 24))
  have H1 := Aside0.mk (Below.refl (w1.alloc (.cells #[.int .i64 1, .int .i64 0, .string ⟨#[]⟩, .slice A1 fx_L.length c1] 24)).heap.size (w1.alloc (.cells #[.int .i64 1, .int .i64 0, .string ⟨#[]⟩, .slice A1 fx_L.length c1] 24)))
  have hle1 : w.heap.size ≤ w1.heap.size := below_size hb1
  have hL1 : w1.heap.size + 1 = (w1.alloc (.cells #[.int .i64 1, .int .i64 0, .string ⟨#[]⟩, .slice A1 fx_L.length c1] 24)).heap.size := (World.size_alloc _ _).symm
  have L1 := Aside0.mk hL1
  clear hL1
  clear ho1 hC1 hb1
  go_wp2_with fail
  generalize w1.alloc (.cells #[.int .i64 1, .int .i64 0, .string ⟨#[]⟩, .slice A1 fx_L.length c1] 24) = o1 at X1 C1 HB H1 L1 ⊢
  refine (leaf_Encode.calls 1 0 ⟨#[]⟩ A1 c1 fx_L 128 fx_s 0 _ C1.out hc1 fx_e1).mono ?_
  rintro e w2 ⟨rfl, hb⟩
  have nHB := Aside0.mk (below_step HB.out hb)
  have nH1 := Aside0.mk (below_step H1.out hb)
  clear HB H1
  have HB := nHB
  have H1 := nH1
  clear nHB nH1
  have x0 := (X1.out.below H1.out X1.out.lt).cell 0 (by simp)
  have x1 := (X1.out.below H1.out X1.out.lt).cell 1 (by simp)
  have x2 := (X1.out.below H1.out X1.out.lt).cell 2 (by simp)
  have x3 := (X1.out.below H1.out X1.out.lt).cell 3 (by simp)
  clear hb
  go_wp2_with fail
  have hn1 := fx_n1
  refine (leaf_Encode.calls 1 0 ⟨#[]⟩ A1 c1 fx_L 100 ⟨#[]⟩ 4 _ (Kd.C_below C1.out H1.out) hc1 fx_e2).mono ?_
  rintro e w3 ⟨rfl, hb⟩
  have nHB := Aside0.mk (below_step HB.out hb)
  have nH1 := Aside0.mk (below_step H1.out hb)
  clear x0 x1 x2 x3
  clear HB H1
  have HB := nHB
  have H1 := nH1
  clear nHB nH1
  clear hb
  go_wp2_with fail
  refine (withylaw10_two.calls 1 0 ⟨#[]⟩ fx_L _ fx_two).mono ?_
  rintro e w4 ⟨v6, rfl, ho6, hb⟩
  obtain ⟨A6, c6, rfl⟩ := Kd.R_slice ho6
  obtain ⟨_, hc6, hC6⟩ := Kd.R_reads' ho6
  have HC6 := Aside0.mk hC6
  have L14 : Aside0 (o1.heap.size ≤ w4.heap.size) := ⟨Nat.le_trans (below_size H1.out) hb.size⟩
  have hlt16 : w1.heap.size < w4.heap.size := by have a1 := below_size H1.out; have a2 := hb.size; have a3 := X1.out.lt; omega
  have X6 : Aside0 (Block (w4.alloc (.cells #[.int .i64 1, .int .i64 2, .string ⟨#[]⟩, .slice A6 fx_L.length c6] 24)) w4.heap.size 24 #[.int .i64 1, .int .i64 2, .string ⟨#[]⟩, .slice A6 fx_L.length c6]) := ⟨World.alloc_heap_new w4 _⟩
  have nHB := Aside0.mk (below_alloc (below_step HB.out hb) (.cells #[.int .i64 1, .int .i64 2, .string ⟨#[]⟩, .slice A6 fx_L.length c6] 24))
  have nH1 := Aside0.mk (below_alloc (below_step H1.out hb) (.cells #[.int .i64 1, .int .i64 2, .string ⟨#[]⟩, .slice A6 fx_L.length c6] 24))
  clear HB H1
  have HB := nHB
  have H1 := nH1
  clear nHB nH1
  have H6 := Aside0.mk (Below.refl (w4.alloc (.cells #[.int .i64 1, .int .i64 2, .string ⟨#[]⟩, .slice A6 fx_L.length c6] 24)).heap.size (w4.alloc (.cells #[.int .i64 1, .int .i64 2, .string ⟨#[]⟩, .slice A6 fx_L.length c6] 24)))
  have HL6 := Aside0.mk (below_alloc (Below.refl w4.heap.size w4) (.cells #[.int .i64 1, .int .i64 2, .string ⟨#[]⟩, .slice A6 fx_L.length c6] 24))
  clear ho6 hC6
  clear hb
  go_wp2_with fail
  generalize hO6 : w4.alloc (.cells #[.int .i64 1, .int .i64 2, .string ⟨#[]⟩, .slice A6 fx_L.length c6] 24) = o6 at X6 HB H1 H6 HL6 ⊢
  clear hO6
  refine (leaf_Encode.calls 1 2 ⟨#[]⟩ A6 c6 fx_L 128 ⟨#[]⟩ 3 _ (Kd.C_below HC6.out HL6.out) hc6 fx_e3).mono ?_
  rintro e w5 ⟨rfl, hb⟩
  have nHB := Aside0.mk (below_step HB.out hb)
  have nH1 := Aside0.mk (below_step H1.out hb)
  have nH6 := Aside0.mk (below_step H6.out hb)
  have nHL6 := Aside0.mk (below_step HL6.out hb)
  clear HB H1 H6 HL6
  have HB := nHB
  have H1 := nH1
  have H6 := nH6
  have HL6 := nHL6
  clear nHB nH1 nH6 nHL6
  have y0 := (X6.out.below H6.out X6.out.lt).cell 0 (by simp)
  have y1 := (X6.out.below H6.out X6.out.lt).cell 1 (by simp)
  have y2 := (X6.out.below H6.out X6.out.lt).cell 2 (by simp)
  have y3 := (X6.out.below H6.out X6.out.lt).cell 3 (by simp)
  have yf2 := (X6.out.below H6.out X6.out.lt).frozen 2
  clear hb
  have had : (⟨#[97, 100]⟩ : ByteArray) = fx_ad := rfl
  go_wp2_with fail
  clear had
  have X7 : Aside0 (Block (w5.setCell ⟨w4.heap.size, 2, none⟩ (.string fx_ad)) w4.heap.size 24 #[.int .i64 1, .int .i64 2, .string fx_ad, .slice A6 fx_L.length c6]) := ⟨(X6.out.below H6.out X6.out.lt).set 2 (.string fx_ad)⟩
  have hle : w4.heap.size ≤ (⟨w4.heap.size, 2, none⟩ : Addr).block := Nat.le_refl _
  have nHB := Aside0.mk (HB.out.setCell (p := ⟨w4.heap.size, 2, none⟩) (by show w.heap.size ≤ w4.heap.size; omega) (.string fx_ad))
  have nH1 := Aside0.mk (H1.out.setCell (p := ⟨w4.heap.size, 2, none⟩) (by have a1 := L14.out; exact a1) (.string fx_ad))
  have nHL6 := Aside0.mk (HL6.out.setCell (p := ⟨w4.heap.size, 2, none⟩) (Nat.le_refl _) (.string fx_ad))
  have H7 := Aside0.mk (Below.refl (w5.setCell ⟨w4.heap.size, 2, none⟩ (.string fx_ad)).heap.size (w5.setCell ⟨w4.heap.size, 2, none⟩ (.string fx_ad)))
  have H67 := nHL6
  clear HB H1 H6 HL6 X6 y0 y1 y2 y3 yf2 hle
  have HB := nHB
  have H1 := nH1
  have HL6 := nHL6
  clear nHB nH1 nHL6
  generalize w5.setCell ⟨w4.heap.size, 2, none⟩ (.string fx_ad) = o7 at X7 HB H1 HL6 H7 H67 ⊢
  refine (leaf_Encode.calls 1 2 fx_ad A6 c6 fx_L 128 fx_t 0 _ (Kd.C_below HC6.out HL6.out) hc6 fx_e4).mono ?_
  rintro e w6 ⟨rfl, hb⟩
  have nHB := Aside0.mk (below_step HB.out hb)
  have nH1 := Aside0.mk (below_step H1.out hb)
  have nH7 := Aside0.mk (below_step H7.out hb)
  have nHL6 := Aside0.mk (below_step HL6.out hb)
  clear HB H1 H7 HL6
  have HB := nHB
  have H1 := nH1
  have H7 := nH7
  have HL6 := nHL6
  clear nHB nH1 nH7 nHL6
  clear hb
  go_wp2
  go_loopw [12] (fun i wr => ∃ (k : Nat) (v : Value), k ≤ 9 ∧ i = .int .i64 k ∧ Aside0 (Block wr w6.heap.size 24 #[.int .i64 1, .int .i64 0, .string ⟨#[]⟩, v]) ∧ Aside0 (Kd.R k32 32 wr (w6.heap.size + 1) (fun _ => True) v (fx_big k)) ∧ Aside0 (Below w6.heap.size w6 wr)) (fun i _ => 9 - (intOf i).toNat)
  case atStart => exact ⟨0, _, by omega, rfl, ⟨World.alloc_heap_new w6 _⟩, ⟨Kd.R_nil _ _ _ _ _⟩, ⟨below_alloc (Below.refl _ _) _⟩⟩
  case round =>
    obtain ⟨k, v, h0, rfl, HX, HO, HW⟩ := hrel
    by_cases hx : k < 9
    rotate_left
    · obtain rfl : k = 9 := by omega
      clear hx h0
      obtain ⟨A11, c11, rfl⟩ := Kd.R_slice HO.out
      obtain ⟨_, hc11, hC11⟩ := Kd.R_reads' HO.out
      have C11 := Aside0.mk hC11
      have X11 := HX
      clear hC11 HO
      have nB := Aside0.mk (HB.out.trans (HW.out.mono (below_size HB.out)))
      have nH1 := Aside0.mk (H1.out.trans (HW.out.mono (below_size H1.out)))
      have nH7 := Aside0.mk (H7.out.trans (HW.out.mono (below_size H7.out)))
      have nL6 := Aside0.mk (HL6.out.trans (HW.out.mono (below_size HL6.out)))
      clear HB H1 H7 HL6
      have HB := nB
      have H1 := nH1
      have H7 := nH7
      have HL6 := nL6
      clear nB nH1 nH7 nL6 HW
      have x0 := HX.out.cell 0 (by simp)
      have x1 := HX.out.cell 1 (by simp)
      have x2 := HX.out.cell 2 (by simp)
      have x3 := HX.out.cell 3 (by simp)
      clear HX X11
      go_wp2_with fail
      refine (leaf_Encode.calls 1 0 ⟨#[]⟩ A11 c11 (fx_big 9) 128 ⟨#[]⟩ 8 _ C11.out hc11 fx_e5).mono ?_
      rintro e w8 ⟨rfl, hb⟩
      have nHB := Aside0.mk (below_step HB.out hb)
      have nH1 := Aside0.mk (below_step H1.out hb)
      have nH7 := Aside0.mk (below_step H7.out hb)
      have nHL6 := Aside0.mk (below_step HL6.out hb)
      clear x0 x1 x2 x3
      clear HB H1 H7 HL6
      have HB := nHB
      have H1 := nH1
      have H7 := nH7
      have HL6 := nHL6
      clear nHB nH1 nH7 nHL6
      clear hb
      clear C11
      go_wp2_with fail
      refine (leaf_Decode.calls fx_s 1 0 ⟨#[]⟩ fx_L 0 _ fx_d1 (HG.out.below HB.out)).mono ?_
      rintro e w9 ⟨v15, rfl, ho, hb⟩
      obtain ⟨A15, c15, rfl⟩ := Kd.R_slice ho
      obtain ⟨_, hc15, hC15⟩ := Kd.R_reads' ho
      have C15 := Aside0.mk (Kd.C_below hC15 (below_alloc (Below.refl _ _) (.cells #[.int .i64 1, .int .i64 0, .string ⟨#[]⟩, .slice A15 fx_L.length c15] 24)))
      have X15 : Aside0 (Block (w9.alloc (.cells #[.int .i64 1, .int .i64 0, .string ⟨#[]⟩, .slice A15 fx_L.length c15] 24)) w9.heap.size 24 #[.int .i64 1, .int .i64 0, .string ⟨#[]⟩, .slice A15 fx_L.length c15]) := ⟨World.alloc_heap_new w9 _⟩
      have nHB := Aside0.mk (below_alloc (below_step HB.out hb) (.cells #[.int .i64 1, .int .i64 0, .string ⟨#[]⟩, .slice A15 fx_L.length c15] 24))
      have nH1 := Aside0.mk (below_alloc (below_step H1.out hb) (.cells #[.int .i64 1, .int .i64 0, .string ⟨#[]⟩, .slice A15 fx_L.length c15] 24))
      have nH7 := Aside0.mk (below_alloc (below_step H7.out hb) (.cells #[.int .i64 1, .int .i64 0, .string ⟨#[]⟩, .slice A15 fx_L.length c15] 24))
      have nHL6 := Aside0.mk (below_alloc (below_step HL6.out hb) (.cells #[.int .i64 1, .int .i64 0, .string ⟨#[]⟩, .slice A15 fx_L.length c15] 24))
      clear HB H1 H7 HL6
      have HB := nHB
      have H1 := nH1
      have H7 := nH7
      have HL6 := nHL6
      clear nHB nH1 nH7 nHL6
      have H15 := Aside0.mk (Below.refl (w9.alloc (.cells #[.int .i64 1, .int .i64 0, .string ⟨#[]⟩, .slice A15 fx_L.length c15] 24)).heap.size (w9.alloc (.cells #[.int .i64 1, .int .i64 0, .string ⟨#[]⟩, .slice A15 fx_L.length c15] 24)))
      clear ho hb hC15
      go_wp2_with fail
      generalize w9.alloc (.cells #[.int .i64 1, .int .i64 0, .string ⟨#[]⟩, .slice A15 fx_L.length c15] 24) = o15 at X15 C15 HB H1 H7 HL6 H15 ⊢
      refine (leaf_Decode.calls fx_t 1 2 fx_ad fx_L 0 _ fx_d2 (HG.out.below HB.out)).mono ?_
      rintro e w10 ⟨v17, rfl, ho, hb⟩
      obtain ⟨A17, c17, rfl⟩ := Kd.R_slice ho
      obtain ⟨_, hc17, hC17⟩ := Kd.R_reads' ho
      have C17 := Aside0.mk (Kd.C_below hC17 (below_alloc (Below.refl _ _) (.cells #[.int .i64 1, .int .i64 2, .string fx_ad, .slice A17 fx_L.length c17] 24)))
      have X17 : Aside0 (Block (w10.alloc (.cells #[.int .i64 1, .int .i64 2, .string fx_ad, .slice A17 fx_L.length c17] 24)) w10.heap.size 24 #[.int .i64 1, .int .i64 2, .string fx_ad, .slice A17 fx_L.length c17]) := ⟨World.alloc_heap_new w10 _⟩
      have nHB := Aside0.mk (below_alloc (below_step HB.out hb) (.cells #[.int .i64 1, .int .i64 2, .string fx_ad, .slice A17 fx_L.length c17] 24))
      have nH1 := Aside0.mk (below_alloc (below_step H1.out hb) (.cells #[.int .i64 1, .int .i64 2, .string fx_ad, .slice A17 fx_L.length c17] 24))
      have nH7 := Aside0.mk (below_alloc (below_step H7.out hb) (.cells #[.int .i64 1, .int .i64 2, .string fx_ad, .slice A17 fx_L.length c17] 24))
      have nHL6 := Aside0.mk (below_alloc (below_step HL6.out hb) (.cells #[.int .i64 1, .int .i64 2, .string fx_ad, .slice A17 fx_L.length c17] 24))
      have nH15 := Aside0.mk (below_alloc (below_step H15.out hb) (.cells #[.int .i64 1, .int .i64 2, .string fx_ad, .slice A17 fx_L.length c17] 24))
      clear HB H1 H7 HL6 H15
      have HB := nHB
      have H1 := nH1
      have H7 := nH7
      have HL6 := nHL6
      have H15 := nH15
      clear nHB nH1 nH7 nHL6 nH15
      have H17 := Aside0.mk (Below.refl (w10.alloc (.cells #[.int .i64 1, .int .i64 2, .string fx_ad, .slice A17 fx_L.length c17] 24)).heap.size (w10.alloc (.cells #[.int .i64 1, .int .i64 2, .string fx_ad, .slice A17 fx_L.length c17] 24)))
      clear ho hb hC17
      go_wp2_with fail
      generalize w10.alloc (.cells #[.int .i64 1, .int .i64 2, .string fx_ad, .slice A17 fx_L.length c17] 24) = o17 at X17 C17 HB H1 H7 HL6 H15 H17 ⊢
      refine (withyref01_Repeat.calls 140 0 128 fx_z _ fx_rz).mono ?_
      rintro e w11 ⟨rfl, hb⟩
      have nHB := Aside0.mk (below_step HB.out hb)
      have nH1 := Aside0.mk (below_step H1.out hb)
      have nH7 := Aside0.mk (below_step H7.out hb)
      have nHL6 := Aside0.mk (below_step HL6.out hb)
      have nH15 := Aside0.mk (below_step H15.out hb)
      have nH17 := Aside0.mk (below_step H17.out hb)
      clear HB H1 H7 HL6 H15 H17
      have HB := nHB
      have H1 := nH1
      have H7 := nH7
      have HL6 := nHL6
      have H15 := nH15
      have H17 := nH17
      clear nHB nH1 nH7 nHL6 nH15 nH17
      clear hb
      go_wp2_with fail
      refine (leaf_Decode.calls fx_z 0 0 ⟨#[]⟩ [] 3 _ fx_d3 (HG.out.below HB.out)).mono ?_
      rintro e w12 ⟨v19, rfl, ho, hb⟩
      obtain ⟨A19, c19, rfl⟩ := Kd.R_slice ho
      have nHB := Aside0.mk (below_alloc (below_step HB.out hb) (.cells #[.int .i64 0, .int .i64 0, .string ⟨#[]⟩, .slice A19 0 c19] 24))
      have nH1 := Aside0.mk (below_alloc (below_step H1.out hb) (.cells #[.int .i64 0, .int .i64 0, .string ⟨#[]⟩, .slice A19 0 c19] 24))
      have nH7 := Aside0.mk (below_alloc (below_step H7.out hb) (.cells #[.int .i64 0, .int .i64 0, .string ⟨#[]⟩, .slice A19 0 c19] 24))
      have nHL6 := Aside0.mk (below_alloc (below_step HL6.out hb) (.cells #[.int .i64 0, .int .i64 0, .string ⟨#[]⟩, .slice A19 0 c19] 24))
      have nH15 := Aside0.mk (below_alloc (below_step H15.out hb) (.cells #[.int .i64 0, .int .i64 0, .string ⟨#[]⟩, .slice A19 0 c19] 24))
      have nH17 := Aside0.mk (below_alloc (below_step H17.out hb) (.cells #[.int .i64 0, .int .i64 0, .string ⟨#[]⟩, .slice A19 0 c19] 24))
      clear HB H1 H7 HL6 H15 H17
      have HB := nHB
      have H1 := nH1
      have H7 := nH7
      have HL6 := nHL6
      have H15 := nH15
      have H17 := nH17
      clear nHB nH1 nH7 nHL6 nH15 nH17
      clear ho hb
      have x0 := (X1.out.below H1.out X1.out.lt).cell 0 (by simp)
      have x1 := (X1.out.below H1.out X1.out.lt).cell 1 (by simp)
      have x2 := (X1.out.below H1.out X1.out.lt).cell 2 (by simp)
      have x3 := (X1.out.below H1.out X1.out.lt).cell 3 (by simp)
      go_wp2_with fail
      refine (leaf_Find.calls 1 0 ⟨#[]⟩ A1 c1 fx_L ⟨#[97, 99]⟩ false ⟨#[121]⟩ 0 0 true _ (Kd.C_below C1.out H1.out) hc1 fx_f1).mono ?_
      rintro e w13 ⟨rfl, hb⟩
      have nHB := Aside0.mk (below_alloc (below_step HB.out hb) (.cells #[.bool false, .string ⟨#[121]⟩, .int .i64 0, .int .i64 0] 30))
      have nH1 := Aside0.mk (below_alloc (below_step H1.out hb) (.cells #[.bool false, .string ⟨#[121]⟩, .int .i64 0, .int .i64 0] 30))
      have nH7 := Aside0.mk (below_alloc (below_step H7.out hb) (.cells #[.bool false, .string ⟨#[121]⟩, .int .i64 0, .int .i64 0] 30))
      have nHL6 := Aside0.mk (below_alloc (below_step HL6.out hb) (.cells #[.bool false, .string ⟨#[121]⟩, .int .i64 0, .int .i64 0] 30))
      have nH15 := Aside0.mk (below_alloc (below_step H15.out hb) (.cells #[.bool false, .string ⟨#[121]⟩, .int .i64 0, .int .i64 0] 30))
      have nH17 := Aside0.mk (below_alloc (below_step H17.out hb) (.cells #[.bool false, .string ⟨#[121]⟩, .int .i64 0, .int .i64 0] 30))
      clear x0 x1 x2 x3
      clear HB H1 H7 HL6 H15 H17
      have HB := nHB
      have H1 := nH1
      have H7 := nH7
      have HL6 := nHL6
      have H15 := nH15
      have H17 := nH17
      clear nHB nH1 nH7 nHL6 nH15 nH17
      clear hb
      have H21 := Aside0.mk (Below.refl (w13.alloc (.cells #[.bool false, .string ⟨#[121]⟩, .int .i64 0, .int .i64 0] 30)).heap.size (w13.alloc (.cells #[.bool false, .string ⟨#[121]⟩, .int .i64 0, .int .i64 0] 30)))
      have X21 : Aside0 (Block (w13.alloc (.cells #[.bool false, .string ⟨#[121]⟩, .int .i64 0, .int .i64 0] 30)) w13.heap.size 30 #[.bool false, .string ⟨#[121]⟩, .int .i64 0, .int .i64 0]) := ⟨World.alloc_heap_new w13 _⟩
      have x0 := (X1.out.below H1.out X1.out.lt).cell 0 (by simp)
      have x1 := (X1.out.below H1.out X1.out.lt).cell 1 (by simp)
      have x2 := (X1.out.below H1.out X1.out.lt).cell 2 (by simp)
      have x3 := (X1.out.below H1.out X1.out.lt).cell 3 (by simp)
      go_wp2_with fail
      generalize w13.alloc (.cells #[.bool false, .string ⟨#[121]⟩, .int .i64 0, .int .i64 0] 30) = o21 at HB H1 H7 HL6 H15 H17 H21 X21 x0 x1 x2 x3 ⊢
      refine (leaf_Find.calls 1 0 ⟨#[]⟩ A1 c1 fx_L ⟨#[97]⟩ false ⟨#[]⟩ 0 0 false _ (Kd.C_below C1.out H1.out) hc1 fx_f2).mono ?_
      rintro e w14 ⟨rfl, hb⟩
      have nHB := Aside0.mk (below_alloc (below_step HB.out hb) (.cells #[.bool false, .string ⟨#[]⟩, .int .i64 0, .int .i64 0] 30))
      have nH1 := Aside0.mk (below_alloc (below_step H1.out hb) (.cells #[.bool false, .string ⟨#[]⟩, .int .i64 0, .int .i64 0] 30))
      have nH7 := Aside0.mk (below_alloc (below_step H7.out hb) (.cells #[.bool false, .string ⟨#[]⟩, .int .i64 0, .int .i64 0] 30))
      have nHL6 := Aside0.mk (below_alloc (below_step HL6.out hb) (.cells #[.bool false, .string ⟨#[]⟩, .int .i64 0, .int .i64 0] 30))
      have nH15 := Aside0.mk (below_alloc (below_step H15.out hb) (.cells #[.bool false, .string ⟨#[]⟩, .int .i64 0, .int .i64 0] 30))
      have nH17 := Aside0.mk (below_alloc (below_step H17.out hb) (.cells #[.bool false, .string ⟨#[]⟩, .int .i64 0, .int .i64 0] 30))
      have nH21 := Aside0.mk (below_alloc (below_step H21.out hb) (.cells #[.bool false, .string ⟨#[]⟩, .int .i64 0, .int .i64 0] 30))
      clear x0 x1 x2 x3
      clear HB H1 H7 HL6 H15 H17 H21
      have HB := nHB
      have H1 := nH1
      have H7 := nH7
      have HL6 := nHL6
      have H15 := nH15
      have H17 := nH17
      have H21 := nH21
      clear nHB nH1 nH7 nHL6 nH15 nH17 nH21
      clear hb
      go_wp2
      generalize w14.alloc (.cells #[.bool false, .string ⟨#[]⟩, .int .i64 0, .int .i64 0] 30) = o23 at HB H1 H7 HL6 H15 H17 H21 ⊢
      have dHB := Aside0.mk (below_drew HB.out)
      have dH1 := Aside0.mk (below_drew H1.out)
      have dH7 := Aside0.mk (below_drew H7.out)
      have dH15 := Aside0.mk (below_drew H15.out)
      have dH17 := Aside0.mk (below_drew H17.out)
      have dH21 := Aside0.mk (below_drew H21.out)
      clear HB H1 H7 H15 H17 H21
      have HB := dHB
      have H1 := dH1
      have H7 := dH7
      have H15 := dH15
      have H17 := dH17
      have H21 := dH21
      clear dHB dH1 dH7 dH15 dH17 dH21
      have hS : o23.drew.cell? ⟨w1.heap.size, 0, none⟩ = some (.int .i64 1) ∧ o23.drew.cell? ⟨w1.heap.size, 1, none⟩ = some (.int .i64 0) ∧ o23.drew.cell? ⟨w1.heap.size, 2, none⟩ = some (.string ⟨#[]⟩) ∧ o23.drew.cell? ⟨w1.heap.size, 3, none⟩ = some (.slice A1 fx_L.length c1) ∧ o23.drew.cell? ⟨w4.heap.size, 0, none⟩ = some (.int .i64 1) ∧ o23.drew.cell? ⟨w4.heap.size, 1, none⟩ = some (.int .i64 2) ∧ o23.drew.cell? ⟨w4.heap.size, 2, none⟩ = some (.string fx_ad) ∧ o23.drew.cell? ⟨w4.heap.size, 3, none⟩ = some (.slice A6 fx_L.length c6) ∧ o23.drew.cell? ⟨w9.heap.size, 0, none⟩ = some (.int .i64 1) ∧ o23.drew.cell? ⟨w9.heap.size, 1, none⟩ = some (.int .i64 0) ∧ o23.drew.cell? ⟨w9.heap.size, 2, none⟩ = some (.string ⟨#[]⟩) ∧ o23.drew.cell? ⟨w9.heap.size, 3, none⟩ = some (.slice A15 fx_L.length c15) ∧ o23.drew.cell? ⟨w10.heap.size, 0, none⟩ = some (.int .i64 1) ∧ o23.drew.cell? ⟨w10.heap.size, 1, none⟩ = some (.int .i64 2) ∧ o23.drew.cell? ⟨w10.heap.size, 2, none⟩ = some (.string fx_ad) ∧ o23.drew.cell? ⟨w10.heap.size, 3, none⟩ = some (.slice A17 fx_L.length c17) ∧ o23.drew.cell? ⟨w13.heap.size, 1, none⟩ = some (.string ⟨#[121]⟩) := ⟨(X1.out.below H1.out X1.out.lt).cell 0 (by simp), (X1.out.below H1.out X1.out.lt).cell 1 (by simp), (X1.out.below H1.out X1.out.lt).cell 2 (by simp), (X1.out.below H1.out X1.out.lt).cell 3 (by simp), (X7.out.below H7.out X7.out.lt).cell 0 (by simp), (X7.out.below H7.out X7.out.lt).cell 1 (by simp), (X7.out.below H7.out X7.out.lt).cell 2 (by simp), (X7.out.below H7.out X7.out.lt).cell 3 (by simp), (X15.out.below H15.out X15.out.lt).cell 0 (by simp), (X15.out.below H15.out X15.out.lt).cell 1 (by simp), (X15.out.below H15.out X15.out.lt).cell 2 (by simp), (X15.out.below H15.out X15.out.lt).cell 3 (by simp), (X17.out.below H17.out X17.out.lt).cell 0 (by simp), (X17.out.below H17.out X17.out.lt).cell 1 (by simp), (X17.out.below H17.out X17.out.lt).cell 2 (by simp), (X17.out.below H17.out X17.out.lt).cell 3 (by simp), (X21.out.below H21.out X21.out.lt).cell 1 (by simp)⟩
      have hn2 := fx_n2
      have hn3 := fx_n3
      simp only [List.append]
      as_aux_lemma =>
        go_region_held3 (fun W => W.cell? ⟨w1.heap.size, 0, none⟩ = some (.int .i64 1) ∧ W.cell? ⟨w1.heap.size, 1, none⟩ = some (.int .i64 0) ∧ W.cell? ⟨w1.heap.size, 2, none⟩ = some (.string ⟨#[]⟩) ∧ W.cell? ⟨w1.heap.size, 3, none⟩ = some (.slice A1 fx_L.length c1) ∧ W.cell? ⟨w4.heap.size, 0, none⟩ = some (.int .i64 1) ∧ W.cell? ⟨w4.heap.size, 1, none⟩ = some (.int .i64 2) ∧ W.cell? ⟨w4.heap.size, 2, none⟩ = some (.string fx_ad) ∧ W.cell? ⟨w4.heap.size, 3, none⟩ = some (.slice A6 fx_L.length c6) ∧ W.cell? ⟨w9.heap.size, 0, none⟩ = some (.int .i64 1) ∧ W.cell? ⟨w9.heap.size, 1, none⟩ = some (.int .i64 0) ∧ W.cell? ⟨w9.heap.size, 2, none⟩ = some (.string ⟨#[]⟩) ∧ W.cell? ⟨w9.heap.size, 3, none⟩ = some (.slice A15 fx_L.length c15) ∧ W.cell? ⟨w10.heap.size, 0, none⟩ = some (.int .i64 1) ∧ W.cell? ⟨w10.heap.size, 1, none⟩ = some (.int .i64 2) ∧ W.cell? ⟨w10.heap.size, 2, none⟩ = some (.string fx_ad) ∧ W.cell? ⟨w10.heap.size, 3, none⟩ = some (.slice A17 fx_L.length c17) ∧ W.cell? ⟨w13.heap.size, 1, none⟩ = some (.string ⟨#[121]⟩))
          (first | assumption)
          (first
            | (go_at_call 46; ((with_reducible refine (withylaw10_Ref.calls 20 1 0 ⟨#[]⟩ A15 c15 fx_L 1 0 ⟨#[]⟩ (fx_ref fx_L) _ (Kd.C_below C15.out H15.out) hc15 fx_r1).mono ?_); rintro e y1 ⟨va, rfl, ho, hb⟩; obtain ⟨Aa, ca, rfl⟩ := Kd.R_slice ho; obtain ⟨_, hca, hCa⟩ := Kd.R_reads' ho; have Ca := Aside0.mk hCa; clear ho hCa; have nHB := Aside0.mk (below_step HB.out hb); have nH1 := Aside0.mk (below_step H1.out hb); have nH7 := Aside0.mk (below_step H7.out hb); have nH15 := Aside0.mk (below_step H15.out hb); have nH17 := Aside0.mk (below_step H17.out hb); have nH21 := Aside0.mk (below_step H21.out hb); clear HB H1 H7 H15 H17 H21; have HB := nHB; have H1 := nH1; have H7 := nH7; have H15 := nH15; have H17 := nH17; have H21 := nH21; clear nHB nH1 nH7 nH15 nH17 nH21; clear hb; have hSy1 : y1.cell? ⟨w1.heap.size, 0, none⟩ = some (.int .i64 1) ∧ y1.cell? ⟨w1.heap.size, 1, none⟩ = some (.int .i64 0) ∧ y1.cell? ⟨w1.heap.size, 2, none⟩ = some (.string ⟨#[]⟩) ∧ y1.cell? ⟨w1.heap.size, 3, none⟩ = some (.slice A1 fx_L.length c1) ∧ y1.cell? ⟨w4.heap.size, 0, none⟩ = some (.int .i64 1) ∧ y1.cell? ⟨w4.heap.size, 1, none⟩ = some (.int .i64 2) ∧ y1.cell? ⟨w4.heap.size, 2, none⟩ = some (.string fx_ad) ∧ y1.cell? ⟨w4.heap.size, 3, none⟩ = some (.slice A6 fx_L.length c6) ∧ y1.cell? ⟨w9.heap.size, 0, none⟩ = some (.int .i64 1) ∧ y1.cell? ⟨w9.heap.size, 1, none⟩ = some (.int .i64 0) ∧ y1.cell? ⟨w9.heap.size, 2, none⟩ = some (.string ⟨#[]⟩) ∧ y1.cell? ⟨w9.heap.size, 3, none⟩ = some (.slice A15 fx_L.length c15) ∧ y1.cell? ⟨w10.heap.size, 0, none⟩ = some (.int .i64 1) ∧ y1.cell? ⟨w10.heap.size, 1, none⟩ = some (.int .i64 2) ∧ y1.cell? ⟨w10.heap.size, 2, none⟩ = some (.string fx_ad) ∧ y1.cell? ⟨w10.heap.size, 3, none⟩ = some (.slice A17 fx_L.length c17) ∧ y1.cell? ⟨w13.heap.size, 1, none⟩ = some (.string ⟨#[121]⟩) := ⟨(X1.out.below H1.out X1.out.lt).cell 0 (by simp), (X1.out.below H1.out X1.out.lt).cell 1 (by simp), (X1.out.below H1.out X1.out.lt).cell 2 (by simp), (X1.out.below H1.out X1.out.lt).cell 3 (by simp), (X7.out.below H7.out X7.out.lt).cell 0 (by simp), (X7.out.below H7.out X7.out.lt).cell 1 (by simp), (X7.out.below H7.out X7.out.lt).cell 2 (by simp), (X7.out.below H7.out X7.out.lt).cell 3 (by simp), (X15.out.below H15.out X15.out.lt).cell 0 (by simp), (X15.out.below H15.out X15.out.lt).cell 1 (by simp), (X15.out.below H15.out X15.out.lt).cell 2 (by simp), (X15.out.below H15.out X15.out.lt).cell 3 (by simp), (X17.out.below H17.out X17.out.lt).cell 0 (by simp), (X17.out.below H17.out X17.out.lt).cell 1 (by simp), (X17.out.below H17.out X17.out.lt).cell 2 (by simp), (X17.out.below H17.out X17.out.lt).cell 3 (by simp), (X21.out.below H21.out X21.out.lt).cell 1 (by simp)⟩))
            | (go_at_call 46; ((with_reducible refine (withylaw10_Ref.calls 20 1 0 ⟨#[]⟩ A1 c1 fx_L 1 0 ⟨#[]⟩ (fx_ref fx_L) _ (Kd.C_below C1.out H1.out) hc1 fx_r1).mono ?_); rintro e y2 ⟨vb, rfl, ho, hb⟩; obtain ⟨Ab, cb, rfl⟩ := Kd.R_slice ho; obtain ⟨_, hcb, hCb⟩ := Kd.R_reads' ho; have Cb := Aside0.mk hCb; clear ho hCb; have nHB := Aside0.mk (below_step HB.out hb); have nH1 := Aside0.mk (below_step H1.out hb); have nH7 := Aside0.mk (below_step H7.out hb); have nH15 := Aside0.mk (below_step H15.out hb); have nH17 := Aside0.mk (below_step H17.out hb); have nH21 := Aside0.mk (below_step H21.out hb); clear HB H1 H7 H15 H17 H21; have HB := nHB; have H1 := nH1; have H7 := nH7; have H15 := nH15; have H17 := nH17; have H21 := nH21; clear nHB nH1 nH7 nH15 nH17 nH21; have nC := Aside0.mk (Kd.C_below Ca.out hb); clear Ca; have Ca := nC; clear nC; clear hb; have hSy2 : y2.cell? ⟨w1.heap.size, 0, none⟩ = some (.int .i64 1) ∧ y2.cell? ⟨w1.heap.size, 1, none⟩ = some (.int .i64 0) ∧ y2.cell? ⟨w1.heap.size, 2, none⟩ = some (.string ⟨#[]⟩) ∧ y2.cell? ⟨w1.heap.size, 3, none⟩ = some (.slice A1 fx_L.length c1) ∧ y2.cell? ⟨w4.heap.size, 0, none⟩ = some (.int .i64 1) ∧ y2.cell? ⟨w4.heap.size, 1, none⟩ = some (.int .i64 2) ∧ y2.cell? ⟨w4.heap.size, 2, none⟩ = some (.string fx_ad) ∧ y2.cell? ⟨w4.heap.size, 3, none⟩ = some (.slice A6 fx_L.length c6) ∧ y2.cell? ⟨w9.heap.size, 0, none⟩ = some (.int .i64 1) ∧ y2.cell? ⟨w9.heap.size, 1, none⟩ = some (.int .i64 0) ∧ y2.cell? ⟨w9.heap.size, 2, none⟩ = some (.string ⟨#[]⟩) ∧ y2.cell? ⟨w9.heap.size, 3, none⟩ = some (.slice A15 fx_L.length c15) ∧ y2.cell? ⟨w10.heap.size, 0, none⟩ = some (.int .i64 1) ∧ y2.cell? ⟨w10.heap.size, 1, none⟩ = some (.int .i64 2) ∧ y2.cell? ⟨w10.heap.size, 2, none⟩ = some (.string fx_ad) ∧ y2.cell? ⟨w10.heap.size, 3, none⟩ = some (.slice A17 fx_L.length c17) ∧ y2.cell? ⟨w13.heap.size, 1, none⟩ = some (.string ⟨#[121]⟩) := ⟨(X1.out.below H1.out X1.out.lt).cell 0 (by simp), (X1.out.below H1.out X1.out.lt).cell 1 (by simp), (X1.out.below H1.out X1.out.lt).cell 2 (by simp), (X1.out.below H1.out X1.out.lt).cell 3 (by simp), (X7.out.below H7.out X7.out.lt).cell 0 (by simp), (X7.out.below H7.out X7.out.lt).cell 1 (by simp), (X7.out.below H7.out X7.out.lt).cell 2 (by simp), (X7.out.below H7.out X7.out.lt).cell 3 (by simp), (X15.out.below H15.out X15.out.lt).cell 0 (by simp), (X15.out.below H15.out X15.out.lt).cell 1 (by simp), (X15.out.below H15.out X15.out.lt).cell 2 (by simp), (X15.out.below H15.out X15.out.lt).cell 3 (by simp), (X17.out.below H17.out X17.out.lt).cell 0 (by simp), (X17.out.below H17.out X17.out.lt).cell 1 (by simp), (X17.out.below H17.out X17.out.lt).cell 2 (by simp), (X17.out.below H17.out X17.out.lt).cell 3 (by simp), (X21.out.below H21.out X21.out.lt).cell 1 (by simp)⟩))
            | (go_at_call 45; ((with_reducible refine (withyref10_Same.calls 20 1 0 ⟨#[]⟩ Aa ca (fx_ref fx_L) 1 0 ⟨#[]⟩ Ab cb (fx_ref fx_L) true _ Ca.out hca Cb.out hcb fx_s1).mono ?_); rintro e y3 ⟨rfl, hb⟩; have nHB := Aside0.mk (below_step HB.out hb); have nH1 := Aside0.mk (below_step H1.out hb); have nH7 := Aside0.mk (below_step H7.out hb); have nH15 := Aside0.mk (below_step H15.out hb); have nH17 := Aside0.mk (below_step H17.out hb); have nH21 := Aside0.mk (below_step H21.out hb); clear HB H1 H7 H15 H17 H21; have HB := nHB; have H1 := nH1; have H7 := nH7; have H15 := nH15; have H17 := nH17; have H21 := nH21; clear nHB nH1 nH7 nH15 nH17 nH21; clear hb; have hSy3 : y3.cell? ⟨w1.heap.size, 0, none⟩ = some (.int .i64 1) ∧ y3.cell? ⟨w1.heap.size, 1, none⟩ = some (.int .i64 0) ∧ y3.cell? ⟨w1.heap.size, 2, none⟩ = some (.string ⟨#[]⟩) ∧ y3.cell? ⟨w1.heap.size, 3, none⟩ = some (.slice A1 fx_L.length c1) ∧ y3.cell? ⟨w4.heap.size, 0, none⟩ = some (.int .i64 1) ∧ y3.cell? ⟨w4.heap.size, 1, none⟩ = some (.int .i64 2) ∧ y3.cell? ⟨w4.heap.size, 2, none⟩ = some (.string fx_ad) ∧ y3.cell? ⟨w4.heap.size, 3, none⟩ = some (.slice A6 fx_L.length c6) ∧ y3.cell? ⟨w9.heap.size, 0, none⟩ = some (.int .i64 1) ∧ y3.cell? ⟨w9.heap.size, 1, none⟩ = some (.int .i64 0) ∧ y3.cell? ⟨w9.heap.size, 2, none⟩ = some (.string ⟨#[]⟩) ∧ y3.cell? ⟨w9.heap.size, 3, none⟩ = some (.slice A15 fx_L.length c15) ∧ y3.cell? ⟨w10.heap.size, 0, none⟩ = some (.int .i64 1) ∧ y3.cell? ⟨w10.heap.size, 1, none⟩ = some (.int .i64 2) ∧ y3.cell? ⟨w10.heap.size, 2, none⟩ = some (.string fx_ad) ∧ y3.cell? ⟨w10.heap.size, 3, none⟩ = some (.slice A17 fx_L.length c17) ∧ y3.cell? ⟨w13.heap.size, 1, none⟩ = some (.string ⟨#[121]⟩) := ⟨(X1.out.below H1.out X1.out.lt).cell 0 (by simp), (X1.out.below H1.out X1.out.lt).cell 1 (by simp), (X1.out.below H1.out X1.out.lt).cell 2 (by simp), (X1.out.below H1.out X1.out.lt).cell 3 (by simp), (X7.out.below H7.out X7.out.lt).cell 0 (by simp), (X7.out.below H7.out X7.out.lt).cell 1 (by simp), (X7.out.below H7.out X7.out.lt).cell 2 (by simp), (X7.out.below H7.out X7.out.lt).cell 3 (by simp), (X15.out.below H15.out X15.out.lt).cell 0 (by simp), (X15.out.below H15.out X15.out.lt).cell 1 (by simp), (X15.out.below H15.out X15.out.lt).cell 2 (by simp), (X15.out.below H15.out X15.out.lt).cell 3 (by simp), (X17.out.below H17.out X17.out.lt).cell 0 (by simp), (X17.out.below H17.out X17.out.lt).cell 1 (by simp), (X17.out.below H17.out X17.out.lt).cell 2 (by simp), (X17.out.below H17.out X17.out.lt).cell 3 (by simp), (X21.out.below H21.out X21.out.lt).cell 1 (by simp)⟩))
            | (go_at_call 46; ((with_reducible refine (withylaw10_Ref.calls 20 1 2 fx_ad A17 c17 fx_L 1 2 fx_ad (fx_ref fx_L) _ (Kd.C_below C17.out H17.out) hc17 fx_r2).mono ?_); rintro e y4 ⟨vd, rfl, ho, hb⟩; obtain ⟨Ad, cd, rfl⟩ := Kd.R_slice ho; obtain ⟨_, hcd, hCd⟩ := Kd.R_reads' ho; have Cd := Aside0.mk hCd; clear ho hCd; have nHB := Aside0.mk (below_step HB.out hb); have nH1 := Aside0.mk (below_step H1.out hb); have nH7 := Aside0.mk (below_step H7.out hb); have nH15 := Aside0.mk (below_step H15.out hb); have nH17 := Aside0.mk (below_step H17.out hb); have nH21 := Aside0.mk (below_step H21.out hb); clear HB H1 H7 H15 H17 H21; have HB := nHB; have H1 := nH1; have H7 := nH7; have H15 := nH15; have H17 := nH17; have H21 := nH21; clear nHB nH1 nH7 nH15 nH17 nH21; clear hb; have hSy4 : y4.cell? ⟨w1.heap.size, 0, none⟩ = some (.int .i64 1) ∧ y4.cell? ⟨w1.heap.size, 1, none⟩ = some (.int .i64 0) ∧ y4.cell? ⟨w1.heap.size, 2, none⟩ = some (.string ⟨#[]⟩) ∧ y4.cell? ⟨w1.heap.size, 3, none⟩ = some (.slice A1 fx_L.length c1) ∧ y4.cell? ⟨w4.heap.size, 0, none⟩ = some (.int .i64 1) ∧ y4.cell? ⟨w4.heap.size, 1, none⟩ = some (.int .i64 2) ∧ y4.cell? ⟨w4.heap.size, 2, none⟩ = some (.string fx_ad) ∧ y4.cell? ⟨w4.heap.size, 3, none⟩ = some (.slice A6 fx_L.length c6) ∧ y4.cell? ⟨w9.heap.size, 0, none⟩ = some (.int .i64 1) ∧ y4.cell? ⟨w9.heap.size, 1, none⟩ = some (.int .i64 0) ∧ y4.cell? ⟨w9.heap.size, 2, none⟩ = some (.string ⟨#[]⟩) ∧ y4.cell? ⟨w9.heap.size, 3, none⟩ = some (.slice A15 fx_L.length c15) ∧ y4.cell? ⟨w10.heap.size, 0, none⟩ = some (.int .i64 1) ∧ y4.cell? ⟨w10.heap.size, 1, none⟩ = some (.int .i64 2) ∧ y4.cell? ⟨w10.heap.size, 2, none⟩ = some (.string fx_ad) ∧ y4.cell? ⟨w10.heap.size, 3, none⟩ = some (.slice A17 fx_L.length c17) ∧ y4.cell? ⟨w13.heap.size, 1, none⟩ = some (.string ⟨#[121]⟩) := ⟨(X1.out.below H1.out X1.out.lt).cell 0 (by simp), (X1.out.below H1.out X1.out.lt).cell 1 (by simp), (X1.out.below H1.out X1.out.lt).cell 2 (by simp), (X1.out.below H1.out X1.out.lt).cell 3 (by simp), (X7.out.below H7.out X7.out.lt).cell 0 (by simp), (X7.out.below H7.out X7.out.lt).cell 1 (by simp), (X7.out.below H7.out X7.out.lt).cell 2 (by simp), (X7.out.below H7.out X7.out.lt).cell 3 (by simp), (X15.out.below H15.out X15.out.lt).cell 0 (by simp), (X15.out.below H15.out X15.out.lt).cell 1 (by simp), (X15.out.below H15.out X15.out.lt).cell 2 (by simp), (X15.out.below H15.out X15.out.lt).cell 3 (by simp), (X17.out.below H17.out X17.out.lt).cell 0 (by simp), (X17.out.below H17.out X17.out.lt).cell 1 (by simp), (X17.out.below H17.out X17.out.lt).cell 2 (by simp), (X17.out.below H17.out X17.out.lt).cell 3 (by simp), (X21.out.below H21.out X21.out.lt).cell 1 (by simp)⟩))
            | (go_at_call 46; ((with_reducible refine (withylaw10_Ref.calls 20 1 2 fx_ad A6 c6 fx_L 1 2 fx_ad (fx_ref fx_L) _ (Kd.C_below HC6.out (below_step H67.out H7.out)) hc6 fx_r2).mono ?_); rintro e y5 ⟨vf, rfl, ho, hb⟩; obtain ⟨Af, cf, rfl⟩ := Kd.R_slice ho; obtain ⟨_, hcf, hCf⟩ := Kd.R_reads' ho; have Cf := Aside0.mk hCf; clear ho hCf; have nHB := Aside0.mk (below_step HB.out hb); have nH1 := Aside0.mk (below_step H1.out hb); have nH7 := Aside0.mk (below_step H7.out hb); have nH15 := Aside0.mk (below_step H15.out hb); have nH17 := Aside0.mk (below_step H17.out hb); have nH21 := Aside0.mk (below_step H21.out hb); clear HB H1 H7 H15 H17 H21; have HB := nHB; have H1 := nH1; have H7 := nH7; have H15 := nH15; have H17 := nH17; have H21 := nH21; clear nHB nH1 nH7 nH15 nH17 nH21; have nC := Aside0.mk (Kd.C_below Cd.out hb); clear Cd; have Cd := nC; clear nC; clear hb; have hSy5 : y5.cell? ⟨w1.heap.size, 0, none⟩ = some (.int .i64 1) ∧ y5.cell? ⟨w1.heap.size, 1, none⟩ = some (.int .i64 0) ∧ y5.cell? ⟨w1.heap.size, 2, none⟩ = some (.string ⟨#[]⟩) ∧ y5.cell? ⟨w1.heap.size, 3, none⟩ = some (.slice A1 fx_L.length c1) ∧ y5.cell? ⟨w4.heap.size, 0, none⟩ = some (.int .i64 1) ∧ y5.cell? ⟨w4.heap.size, 1, none⟩ = some (.int .i64 2) ∧ y5.cell? ⟨w4.heap.size, 2, none⟩ = some (.string fx_ad) ∧ y5.cell? ⟨w4.heap.size, 3, none⟩ = some (.slice A6 fx_L.length c6) ∧ y5.cell? ⟨w9.heap.size, 0, none⟩ = some (.int .i64 1) ∧ y5.cell? ⟨w9.heap.size, 1, none⟩ = some (.int .i64 0) ∧ y5.cell? ⟨w9.heap.size, 2, none⟩ = some (.string ⟨#[]⟩) ∧ y5.cell? ⟨w9.heap.size, 3, none⟩ = some (.slice A15 fx_L.length c15) ∧ y5.cell? ⟨w10.heap.size, 0, none⟩ = some (.int .i64 1) ∧ y5.cell? ⟨w10.heap.size, 1, none⟩ = some (.int .i64 2) ∧ y5.cell? ⟨w10.heap.size, 2, none⟩ = some (.string fx_ad) ∧ y5.cell? ⟨w10.heap.size, 3, none⟩ = some (.slice A17 fx_L.length c17) ∧ y5.cell? ⟨w13.heap.size, 1, none⟩ = some (.string ⟨#[121]⟩) := ⟨(X1.out.below H1.out X1.out.lt).cell 0 (by simp), (X1.out.below H1.out X1.out.lt).cell 1 (by simp), (X1.out.below H1.out X1.out.lt).cell 2 (by simp), (X1.out.below H1.out X1.out.lt).cell 3 (by simp), (X7.out.below H7.out X7.out.lt).cell 0 (by simp), (X7.out.below H7.out X7.out.lt).cell 1 (by simp), (X7.out.below H7.out X7.out.lt).cell 2 (by simp), (X7.out.below H7.out X7.out.lt).cell 3 (by simp), (X15.out.below H15.out X15.out.lt).cell 0 (by simp), (X15.out.below H15.out X15.out.lt).cell 1 (by simp), (X15.out.below H15.out X15.out.lt).cell 2 (by simp), (X15.out.below H15.out X15.out.lt).cell 3 (by simp), (X17.out.below H17.out X17.out.lt).cell 0 (by simp), (X17.out.below H17.out X17.out.lt).cell 1 (by simp), (X17.out.below H17.out X17.out.lt).cell 2 (by simp), (X17.out.below H17.out X17.out.lt).cell 3 (by simp), (X21.out.below H21.out X21.out.lt).cell 1 (by simp)⟩))
            | (go_at_call 45; ((with_reducible refine (withyref10_Same.calls 20 1 2 fx_ad Ad cd (fx_ref fx_L) 1 2 fx_ad Af cf (fx_ref fx_L) true _ Cd.out hcd Cf.out hcf fx_s2).mono ?_); rintro e y6 ⟨rfl, hb⟩; have nHB := Aside0.mk (below_step HB.out hb); have nH1 := Aside0.mk (below_step H1.out hb); have nH7 := Aside0.mk (below_step H7.out hb); have nH15 := Aside0.mk (below_step H15.out hb); have nH17 := Aside0.mk (below_step H17.out hb); have nH21 := Aside0.mk (below_step H21.out hb); clear HB H1 H7 H15 H17 H21; have HB := nHB; have H1 := nH1; have H7 := nH7; have H15 := nH15; have H17 := nH17; have H21 := nH21; clear nHB nH1 nH7 nH15 nH17 nH21; clear hb; have hSy6 : y6.cell? ⟨w1.heap.size, 0, none⟩ = some (.int .i64 1) ∧ y6.cell? ⟨w1.heap.size, 1, none⟩ = some (.int .i64 0) ∧ y6.cell? ⟨w1.heap.size, 2, none⟩ = some (.string ⟨#[]⟩) ∧ y6.cell? ⟨w1.heap.size, 3, none⟩ = some (.slice A1 fx_L.length c1) ∧ y6.cell? ⟨w4.heap.size, 0, none⟩ = some (.int .i64 1) ∧ y6.cell? ⟨w4.heap.size, 1, none⟩ = some (.int .i64 2) ∧ y6.cell? ⟨w4.heap.size, 2, none⟩ = some (.string fx_ad) ∧ y6.cell? ⟨w4.heap.size, 3, none⟩ = some (.slice A6 fx_L.length c6) ∧ y6.cell? ⟨w9.heap.size, 0, none⟩ = some (.int .i64 1) ∧ y6.cell? ⟨w9.heap.size, 1, none⟩ = some (.int .i64 0) ∧ y6.cell? ⟨w9.heap.size, 2, none⟩ = some (.string ⟨#[]⟩) ∧ y6.cell? ⟨w9.heap.size, 3, none⟩ = some (.slice A15 fx_L.length c15) ∧ y6.cell? ⟨w10.heap.size, 0, none⟩ = some (.int .i64 1) ∧ y6.cell? ⟨w10.heap.size, 1, none⟩ = some (.int .i64 2) ∧ y6.cell? ⟨w10.heap.size, 2, none⟩ = some (.string fx_ad) ∧ y6.cell? ⟨w10.heap.size, 3, none⟩ = some (.slice A17 fx_L.length c17) ∧ y6.cell? ⟨w13.heap.size, 1, none⟩ = some (.string ⟨#[121]⟩) := ⟨(X1.out.below H1.out X1.out.lt).cell 0 (by simp), (X1.out.below H1.out X1.out.lt).cell 1 (by simp), (X1.out.below H1.out X1.out.lt).cell 2 (by simp), (X1.out.below H1.out X1.out.lt).cell 3 (by simp), (X7.out.below H7.out X7.out.lt).cell 0 (by simp), (X7.out.below H7.out X7.out.lt).cell 1 (by simp), (X7.out.below H7.out X7.out.lt).cell 2 (by simp), (X7.out.below H7.out X7.out.lt).cell 3 (by simp), (X15.out.below H15.out X15.out.lt).cell 0 (by simp), (X15.out.below H15.out X15.out.lt).cell 1 (by simp), (X15.out.below H15.out X15.out.lt).cell 2 (by simp), (X15.out.below H15.out X15.out.lt).cell 3 (by simp), (X17.out.below H17.out X17.out.lt).cell 0 (by simp), (X17.out.below H17.out X17.out.lt).cell 1 (by simp), (X17.out.below H17.out X17.out.lt).cell 2 (by simp), (X17.out.below H17.out X17.out.lt).cell 3 (by simp), (X21.out.below H21.out X21.out.lt).cell 1 (by simp)⟩))
            | (go_at_call 47; ((with_reducible refine (leaf_May.calls 1 0 ⟨#[]⟩ A1 c1 fx_L 128 true _ (Kd.C_below C1.out H1.out) hc1 fx_m1).mono ?_); rintro e y7 ⟨rfl, hb⟩; have nHB := Aside0.mk (below_step HB.out hb); have nH1 := Aside0.mk (below_step H1.out hb); have nH7 := Aside0.mk (below_step H7.out hb); have nH15 := Aside0.mk (below_step H15.out hb); have nH17 := Aside0.mk (below_step H17.out hb); have nH21 := Aside0.mk (below_step H21.out hb); clear HB H1 H7 H15 H17 H21; have HB := nHB; have H1 := nH1; have H7 := nH7; have H15 := nH15; have H17 := nH17; have H21 := nH21; clear nHB nH1 nH7 nH15 nH17 nH21; clear hb; have hSy7 : y7.cell? ⟨w1.heap.size, 0, none⟩ = some (.int .i64 1) ∧ y7.cell? ⟨w1.heap.size, 1, none⟩ = some (.int .i64 0) ∧ y7.cell? ⟨w1.heap.size, 2, none⟩ = some (.string ⟨#[]⟩) ∧ y7.cell? ⟨w1.heap.size, 3, none⟩ = some (.slice A1 fx_L.length c1) ∧ y7.cell? ⟨w4.heap.size, 0, none⟩ = some (.int .i64 1) ∧ y7.cell? ⟨w4.heap.size, 1, none⟩ = some (.int .i64 2) ∧ y7.cell? ⟨w4.heap.size, 2, none⟩ = some (.string fx_ad) ∧ y7.cell? ⟨w4.heap.size, 3, none⟩ = some (.slice A6 fx_L.length c6) ∧ y7.cell? ⟨w9.heap.size, 0, none⟩ = some (.int .i64 1) ∧ y7.cell? ⟨w9.heap.size, 1, none⟩ = some (.int .i64 0) ∧ y7.cell? ⟨w9.heap.size, 2, none⟩ = some (.string ⟨#[]⟩) ∧ y7.cell? ⟨w9.heap.size, 3, none⟩ = some (.slice A15 fx_L.length c15) ∧ y7.cell? ⟨w10.heap.size, 0, none⟩ = some (.int .i64 1) ∧ y7.cell? ⟨w10.heap.size, 1, none⟩ = some (.int .i64 2) ∧ y7.cell? ⟨w10.heap.size, 2, none⟩ = some (.string fx_ad) ∧ y7.cell? ⟨w10.heap.size, 3, none⟩ = some (.slice A17 fx_L.length c17) ∧ y7.cell? ⟨w13.heap.size, 1, none⟩ = some (.string ⟨#[121]⟩) := ⟨(X1.out.below H1.out X1.out.lt).cell 0 (by simp), (X1.out.below H1.out X1.out.lt).cell 1 (by simp), (X1.out.below H1.out X1.out.lt).cell 2 (by simp), (X1.out.below H1.out X1.out.lt).cell 3 (by simp), (X7.out.below H7.out X7.out.lt).cell 0 (by simp), (X7.out.below H7.out X7.out.lt).cell 1 (by simp), (X7.out.below H7.out X7.out.lt).cell 2 (by simp), (X7.out.below H7.out X7.out.lt).cell 3 (by simp), (X15.out.below H15.out X15.out.lt).cell 0 (by simp), (X15.out.below H15.out X15.out.lt).cell 1 (by simp), (X15.out.below H15.out X15.out.lt).cell 2 (by simp), (X15.out.below H15.out X15.out.lt).cell 3 (by simp), (X17.out.below H17.out X17.out.lt).cell 0 (by simp), (X17.out.below H17.out X17.out.lt).cell 1 (by simp), (X17.out.below H17.out X17.out.lt).cell 2 (by simp), (X17.out.below H17.out X17.out.lt).cell 3 (by simp), (X21.out.below H21.out X21.out.lt).cell 1 (by simp)⟩))
            | (go_at_call 47; ((with_reducible refine (leaf_May.calls 1 0 ⟨#[]⟩ A1 c1 fx_L 64 false _ (Kd.C_below C1.out H1.out) hc1 fx_m2).mono ?_); rintro e y8 ⟨rfl, hb⟩; have nHB := Aside0.mk (below_step HB.out hb); have nH1 := Aside0.mk (below_step H1.out hb); have nH7 := Aside0.mk (below_step H7.out hb); have nH15 := Aside0.mk (below_step H15.out hb); have nH17 := Aside0.mk (below_step H17.out hb); have nH21 := Aside0.mk (below_step H21.out hb); clear HB H1 H7 H15 H17 H21; have HB := nHB; have H1 := nH1; have H7 := nH7; have H15 := nH15; have H17 := nH17; have H21 := nH21; clear nHB nH1 nH7 nH15 nH17 nH21; clear hb; have hSy8 : y8.cell? ⟨w1.heap.size, 0, none⟩ = some (.int .i64 1) ∧ y8.cell? ⟨w1.heap.size, 1, none⟩ = some (.int .i64 0) ∧ y8.cell? ⟨w1.heap.size, 2, none⟩ = some (.string ⟨#[]⟩) ∧ y8.cell? ⟨w1.heap.size, 3, none⟩ = some (.slice A1 fx_L.length c1) ∧ y8.cell? ⟨w4.heap.size, 0, none⟩ = some (.int .i64 1) ∧ y8.cell? ⟨w4.heap.size, 1, none⟩ = some (.int .i64 2) ∧ y8.cell? ⟨w4.heap.size, 2, none⟩ = some (.string fx_ad) ∧ y8.cell? ⟨w4.heap.size, 3, none⟩ = some (.slice A6 fx_L.length c6) ∧ y8.cell? ⟨w9.heap.size, 0, none⟩ = some (.int .i64 1) ∧ y8.cell? ⟨w9.heap.size, 1, none⟩ = some (.int .i64 0) ∧ y8.cell? ⟨w9.heap.size, 2, none⟩ = some (.string ⟨#[]⟩) ∧ y8.cell? ⟨w9.heap.size, 3, none⟩ = some (.slice A15 fx_L.length c15) ∧ y8.cell? ⟨w10.heap.size, 0, none⟩ = some (.int .i64 1) ∧ y8.cell? ⟨w10.heap.size, 1, none⟩ = some (.int .i64 2) ∧ y8.cell? ⟨w10.heap.size, 2, none⟩ = some (.string fx_ad) ∧ y8.cell? ⟨w10.heap.size, 3, none⟩ = some (.slice A17 fx_L.length c17) ∧ y8.cell? ⟨w13.heap.size, 1, none⟩ = some (.string ⟨#[121]⟩) := ⟨(X1.out.below H1.out X1.out.lt).cell 0 (by simp), (X1.out.below H1.out X1.out.lt).cell 1 (by simp), (X1.out.below H1.out X1.out.lt).cell 2 (by simp), (X1.out.below H1.out X1.out.lt).cell 3 (by simp), (X7.out.below H7.out X7.out.lt).cell 0 (by simp), (X7.out.below H7.out X7.out.lt).cell 1 (by simp), (X7.out.below H7.out X7.out.lt).cell 2 (by simp), (X7.out.below H7.out X7.out.lt).cell 3 (by simp), (X15.out.below H15.out X15.out.lt).cell 0 (by simp), (X15.out.below H15.out X15.out.lt).cell 1 (by simp), (X15.out.below H15.out X15.out.lt).cell 2 (by simp), (X15.out.below H15.out X15.out.lt).cell 3 (by simp), (X17.out.below H17.out X17.out.lt).cell 0 (by simp), (X17.out.below H17.out X17.out.lt).cell 1 (by simp), (X17.out.below H17.out X17.out.lt).cell 2 (by simp), (X17.out.below H17.out X17.out.lt).cell 3 (by simp), (X21.out.below H21.out X21.out.lt).cell 1 (by simp)⟩))
            | (go_at_call 47; ((with_reducible refine (fx_may0 _).mono ?_); rintro e y9 ⟨rfl, hb⟩; have nHB := Aside0.mk (below_step HB.out hb); have nH1 := Aside0.mk (below_step H1.out hb); have nH7 := Aside0.mk (below_step H7.out hb); have nH15 := Aside0.mk (below_step H15.out hb); have nH17 := Aside0.mk (below_step H17.out hb); have nH21 := Aside0.mk (below_step H21.out hb); clear HB H1 H7 H15 H17 H21; have HB := nHB; have H1 := nH1; have H7 := nH7; have H15 := nH15; have H17 := nH17; have H21 := nH21; clear nHB nH1 nH7 nH15 nH17 nH21; clear hb; have hSy9 : y9.cell? ⟨w1.heap.size, 0, none⟩ = some (.int .i64 1) ∧ y9.cell? ⟨w1.heap.size, 1, none⟩ = some (.int .i64 0) ∧ y9.cell? ⟨w1.heap.size, 2, none⟩ = some (.string ⟨#[]⟩) ∧ y9.cell? ⟨w1.heap.size, 3, none⟩ = some (.slice A1 fx_L.length c1) ∧ y9.cell? ⟨w4.heap.size, 0, none⟩ = some (.int .i64 1) ∧ y9.cell? ⟨w4.heap.size, 1, none⟩ = some (.int .i64 2) ∧ y9.cell? ⟨w4.heap.size, 2, none⟩ = some (.string fx_ad) ∧ y9.cell? ⟨w4.heap.size, 3, none⟩ = some (.slice A6 fx_L.length c6) ∧ y9.cell? ⟨w9.heap.size, 0, none⟩ = some (.int .i64 1) ∧ y9.cell? ⟨w9.heap.size, 1, none⟩ = some (.int .i64 0) ∧ y9.cell? ⟨w9.heap.size, 2, none⟩ = some (.string ⟨#[]⟩) ∧ y9.cell? ⟨w9.heap.size, 3, none⟩ = some (.slice A15 fx_L.length c15) ∧ y9.cell? ⟨w10.heap.size, 0, none⟩ = some (.int .i64 1) ∧ y9.cell? ⟨w10.heap.size, 1, none⟩ = some (.int .i64 2) ∧ y9.cell? ⟨w10.heap.size, 2, none⟩ = some (.string fx_ad) ∧ y9.cell? ⟨w10.heap.size, 3, none⟩ = some (.slice A17 fx_L.length c17) ∧ y9.cell? ⟨w13.heap.size, 1, none⟩ = some (.string ⟨#[121]⟩) := ⟨(X1.out.below H1.out X1.out.lt).cell 0 (by simp), (X1.out.below H1.out X1.out.lt).cell 1 (by simp), (X1.out.below H1.out X1.out.lt).cell 2 (by simp), (X1.out.below H1.out X1.out.lt).cell 3 (by simp), (X7.out.below H7.out X7.out.lt).cell 0 (by simp), (X7.out.below H7.out X7.out.lt).cell 1 (by simp), (X7.out.below H7.out X7.out.lt).cell 2 (by simp), (X7.out.below H7.out X7.out.lt).cell 3 (by simp), (X15.out.below H15.out X15.out.lt).cell 0 (by simp), (X15.out.below H15.out X15.out.lt).cell 1 (by simp), (X15.out.below H15.out X15.out.lt).cell 2 (by simp), (X15.out.below H15.out X15.out.lt).cell 3 (by simp), (X17.out.below H17.out X17.out.lt).cell 0 (by simp), (X17.out.below H17.out X17.out.lt).cell 1 (by simp), (X17.out.below H17.out X17.out.lt).cell 2 (by simp), (X17.out.below H17.out X17.out.lt).cell 3 (by simp), (X21.out.below H21.out X21.out.lt).cell 1 (by simp)⟩))
            | (go_at_call 48; ((with_reducible refine (leaf_Same.calls 20 1 0 ⟨#[]⟩ A1 c1 fx_L 1 0 ⟨#[]⟩ A1 c1 fx_L true _ (Kd.C_below C1.out H1.out) hc1 (Kd.C_below C1.out H1.out) hc1 fx_q1).mono ?_); rintro e y10 ⟨rfl, hb⟩; have nHB := Aside0.mk (below_step HB.out hb); have nH1 := Aside0.mk (below_step H1.out hb); have nH7 := Aside0.mk (below_step H7.out hb); have nH15 := Aside0.mk (below_step H15.out hb); have nH17 := Aside0.mk (below_step H17.out hb); have nH21 := Aside0.mk (below_step H21.out hb); clear HB H1 H7 H15 H17 H21; have HB := nHB; have H1 := nH1; have H7 := nH7; have H15 := nH15; have H17 := nH17; have H21 := nH21; clear nHB nH1 nH7 nH15 nH17 nH21; clear hb; have hSy10 : y10.cell? ⟨w1.heap.size, 0, none⟩ = some (.int .i64 1) ∧ y10.cell? ⟨w1.heap.size, 1, none⟩ = some (.int .i64 0) ∧ y10.cell? ⟨w1.heap.size, 2, none⟩ = some (.string ⟨#[]⟩) ∧ y10.cell? ⟨w1.heap.size, 3, none⟩ = some (.slice A1 fx_L.length c1) ∧ y10.cell? ⟨w4.heap.size, 0, none⟩ = some (.int .i64 1) ∧ y10.cell? ⟨w4.heap.size, 1, none⟩ = some (.int .i64 2) ∧ y10.cell? ⟨w4.heap.size, 2, none⟩ = some (.string fx_ad) ∧ y10.cell? ⟨w4.heap.size, 3, none⟩ = some (.slice A6 fx_L.length c6) ∧ y10.cell? ⟨w9.heap.size, 0, none⟩ = some (.int .i64 1) ∧ y10.cell? ⟨w9.heap.size, 1, none⟩ = some (.int .i64 0) ∧ y10.cell? ⟨w9.heap.size, 2, none⟩ = some (.string ⟨#[]⟩) ∧ y10.cell? ⟨w9.heap.size, 3, none⟩ = some (.slice A15 fx_L.length c15) ∧ y10.cell? ⟨w10.heap.size, 0, none⟩ = some (.int .i64 1) ∧ y10.cell? ⟨w10.heap.size, 1, none⟩ = some (.int .i64 2) ∧ y10.cell? ⟨w10.heap.size, 2, none⟩ = some (.string fx_ad) ∧ y10.cell? ⟨w10.heap.size, 3, none⟩ = some (.slice A17 fx_L.length c17) ∧ y10.cell? ⟨w13.heap.size, 1, none⟩ = some (.string ⟨#[121]⟩) := ⟨(X1.out.below H1.out X1.out.lt).cell 0 (by simp), (X1.out.below H1.out X1.out.lt).cell 1 (by simp), (X1.out.below H1.out X1.out.lt).cell 2 (by simp), (X1.out.below H1.out X1.out.lt).cell 3 (by simp), (X7.out.below H7.out X7.out.lt).cell 0 (by simp), (X7.out.below H7.out X7.out.lt).cell 1 (by simp), (X7.out.below H7.out X7.out.lt).cell 2 (by simp), (X7.out.below H7.out X7.out.lt).cell 3 (by simp), (X15.out.below H15.out X15.out.lt).cell 0 (by simp), (X15.out.below H15.out X15.out.lt).cell 1 (by simp), (X15.out.below H15.out X15.out.lt).cell 2 (by simp), (X15.out.below H15.out X15.out.lt).cell 3 (by simp), (X17.out.below H17.out X17.out.lt).cell 0 (by simp), (X17.out.below H17.out X17.out.lt).cell 1 (by simp), (X17.out.below H17.out X17.out.lt).cell 2 (by simp), (X17.out.below H17.out X17.out.lt).cell 3 (by simp), (X21.out.below H21.out X21.out.lt).cell 1 (by simp)⟩))
            | (go_at_call 48; ((with_reducible refine (leaf_Same.calls 20 1 0 ⟨#[]⟩ A1 c1 fx_L 1 2 fx_ad A6 c6 fx_L false _ (Kd.C_below C1.out H1.out) hc1 (Kd.C_below HC6.out (below_step H67.out H7.out)) hc6 fx_q2).mono ?_); rintro e y11 ⟨rfl, hb⟩; have nHB := Aside0.mk (below_step HB.out hb); have nH1 := Aside0.mk (below_step H1.out hb); have nH7 := Aside0.mk (below_step H7.out hb); have nH15 := Aside0.mk (below_step H15.out hb); have nH17 := Aside0.mk (below_step H17.out hb); have nH21 := Aside0.mk (below_step H21.out hb); clear HB H1 H7 H15 H17 H21; have HB := nHB; have H1 := nH1; have H7 := nH7; have H15 := nH15; have H17 := nH17; have H21 := nH21; clear nHB nH1 nH7 nH15 nH17 nH21; clear hb; have hSy11 : y11.cell? ⟨w1.heap.size, 0, none⟩ = some (.int .i64 1) ∧ y11.cell? ⟨w1.heap.size, 1, none⟩ = some (.int .i64 0) ∧ y11.cell? ⟨w1.heap.size, 2, none⟩ = some (.string ⟨#[]⟩) ∧ y11.cell? ⟨w1.heap.size, 3, none⟩ = some (.slice A1 fx_L.length c1) ∧ y11.cell? ⟨w4.heap.size, 0, none⟩ = some (.int .i64 1) ∧ y11.cell? ⟨w4.heap.size, 1, none⟩ = some (.int .i64 2) ∧ y11.cell? ⟨w4.heap.size, 2, none⟩ = some (.string fx_ad) ∧ y11.cell? ⟨w4.heap.size, 3, none⟩ = some (.slice A6 fx_L.length c6) ∧ y11.cell? ⟨w9.heap.size, 0, none⟩ = some (.int .i64 1) ∧ y11.cell? ⟨w9.heap.size, 1, none⟩ = some (.int .i64 0) ∧ y11.cell? ⟨w9.heap.size, 2, none⟩ = some (.string ⟨#[]⟩) ∧ y11.cell? ⟨w9.heap.size, 3, none⟩ = some (.slice A15 fx_L.length c15) ∧ y11.cell? ⟨w10.heap.size, 0, none⟩ = some (.int .i64 1) ∧ y11.cell? ⟨w10.heap.size, 1, none⟩ = some (.int .i64 2) ∧ y11.cell? ⟨w10.heap.size, 2, none⟩ = some (.string fx_ad) ∧ y11.cell? ⟨w10.heap.size, 3, none⟩ = some (.slice A17 fx_L.length c17) ∧ y11.cell? ⟨w13.heap.size, 1, none⟩ = some (.string ⟨#[121]⟩) := ⟨(X1.out.below H1.out X1.out.lt).cell 0 (by simp), (X1.out.below H1.out X1.out.lt).cell 1 (by simp), (X1.out.below H1.out X1.out.lt).cell 2 (by simp), (X1.out.below H1.out X1.out.lt).cell 3 (by simp), (X7.out.below H7.out X7.out.lt).cell 0 (by simp), (X7.out.below H7.out X7.out.lt).cell 1 (by simp), (X7.out.below H7.out X7.out.lt).cell 2 (by simp), (X7.out.below H7.out X7.out.lt).cell 3 (by simp), (X15.out.below H15.out X15.out.lt).cell 0 (by simp), (X15.out.below H15.out X15.out.lt).cell 1 (by simp), (X15.out.below H15.out X15.out.lt).cell 2 (by simp), (X15.out.below H15.out X15.out.lt).cell 3 (by simp), (X17.out.below H17.out X17.out.lt).cell 0 (by simp), (X17.out.below H17.out X17.out.lt).cell 1 (by simp), (X17.out.below H17.out X17.out.lt).cell 2 (by simp), (X17.out.below H17.out X17.out.lt).cell 3 (by simp), (X21.out.below H21.out X21.out.lt).cell 1 (by simp)⟩))
            | (go_at_call 49; ((with_reducible refine (leaf_Size.calls 1 0 ⟨#[]⟩ A1 c1 fx_L 19 _ (Kd.C_below C1.out H1.out) hc1 fx_z1).mono ?_); rintro e y12 ⟨rfl, hb⟩; have nHB := Aside0.mk (below_step HB.out hb); have nH1 := Aside0.mk (below_step H1.out hb); have nH7 := Aside0.mk (below_step H7.out hb); have nH15 := Aside0.mk (below_step H15.out hb); have nH17 := Aside0.mk (below_step H17.out hb); have nH21 := Aside0.mk (below_step H21.out hb); clear HB H1 H7 H15 H17 H21; have HB := nHB; have H1 := nH1; have H7 := nH7; have H15 := nH15; have H17 := nH17; have H21 := nH21; clear nHB nH1 nH7 nH15 nH17 nH21; clear hb; have hSy12 : y12.cell? ⟨w1.heap.size, 0, none⟩ = some (.int .i64 1) ∧ y12.cell? ⟨w1.heap.size, 1, none⟩ = some (.int .i64 0) ∧ y12.cell? ⟨w1.heap.size, 2, none⟩ = some (.string ⟨#[]⟩) ∧ y12.cell? ⟨w1.heap.size, 3, none⟩ = some (.slice A1 fx_L.length c1) ∧ y12.cell? ⟨w4.heap.size, 0, none⟩ = some (.int .i64 1) ∧ y12.cell? ⟨w4.heap.size, 1, none⟩ = some (.int .i64 2) ∧ y12.cell? ⟨w4.heap.size, 2, none⟩ = some (.string fx_ad) ∧ y12.cell? ⟨w4.heap.size, 3, none⟩ = some (.slice A6 fx_L.length c6) ∧ y12.cell? ⟨w9.heap.size, 0, none⟩ = some (.int .i64 1) ∧ y12.cell? ⟨w9.heap.size, 1, none⟩ = some (.int .i64 0) ∧ y12.cell? ⟨w9.heap.size, 2, none⟩ = some (.string ⟨#[]⟩) ∧ y12.cell? ⟨w9.heap.size, 3, none⟩ = some (.slice A15 fx_L.length c15) ∧ y12.cell? ⟨w10.heap.size, 0, none⟩ = some (.int .i64 1) ∧ y12.cell? ⟨w10.heap.size, 1, none⟩ = some (.int .i64 2) ∧ y12.cell? ⟨w10.heap.size, 2, none⟩ = some (.string fx_ad) ∧ y12.cell? ⟨w10.heap.size, 3, none⟩ = some (.slice A17 fx_L.length c17) ∧ y12.cell? ⟨w13.heap.size, 1, none⟩ = some (.string ⟨#[121]⟩) := ⟨(X1.out.below H1.out X1.out.lt).cell 0 (by simp), (X1.out.below H1.out X1.out.lt).cell 1 (by simp), (X1.out.below H1.out X1.out.lt).cell 2 (by simp), (X1.out.below H1.out X1.out.lt).cell 3 (by simp), (X7.out.below H7.out X7.out.lt).cell 0 (by simp), (X7.out.below H7.out X7.out.lt).cell 1 (by simp), (X7.out.below H7.out X7.out.lt).cell 2 (by simp), (X7.out.below H7.out X7.out.lt).cell 3 (by simp), (X15.out.below H15.out X15.out.lt).cell 0 (by simp), (X15.out.below H15.out X15.out.lt).cell 1 (by simp), (X15.out.below H15.out X15.out.lt).cell 2 (by simp), (X15.out.below H15.out X15.out.lt).cell 3 (by simp), (X17.out.below H17.out X17.out.lt).cell 0 (by simp), (X17.out.below H17.out X17.out.lt).cell 1 (by simp), (X17.out.below H17.out X17.out.lt).cell 2 (by simp), (X17.out.below H17.out X17.out.lt).cell 3 (by simp), (X21.out.below H21.out X21.out.lt).cell 1 (by simp)⟩)))
        go_wp2
        go_ret
        exact ⟨rfl, HB.out⟩
    · obtain ⟨A, c, rfl⟩ := Kd.R_slice HO.out
      have q3 : wr.cell? ⟨w6.heap.size, 3, none⟩ = some (.slice A (fx_big k).length c) := HX.out.cell 3 (by simp)
      have hlt := HX.out.lt
      have hcv : ∀ (W : World) (b : Nat), W.cell? ⟨b, 0, none⟩ = some (.int .u8 ((k : Int) % 256)) → (convert 96 9 (.slice (some ⟨b, 0, none⟩) 1 1)).run Tryz.prog W = .ok (.string (strOfNums [(k : Int) % 256])) W := fun W b hb => string_of_reads Tryz.underlying96 Tryz.underlying5 Tryz.underlying9 ⟨rfl, by decide, fun _ => ⟨_, rfl, fun j hj => by cases (show j = 0 from Nat.lt_one_iff.1 hj); simpa [Addr.add] using hb⟩⟩
      have hwr : IntKind.u8.wrap (k : Int) = (k : Int) % 256 := rfl
      have hln := fx_big_len k
      have HLN := Aside0.mk hln
      clear hln
      go_wp2
      go_region_law (first
        | (refine Kd.R_append_step k32 (w0 := wr) (w6.heap.size + 1) (by rfl) (.tmp 62) (.tmp 70) 22 32 (.agg #[(.string ⟨#[]⟩), (.bool false), (.string ⟨#[]⟩), (.int .i64 0), (.int .i64 0)]) 56 rfl Tryz.underlying22 info32 rfl (by decide) (by omega) (.slice A (fx_big k).length c) (fx_big k) (fx_item k) [.string (strOfNums [(k : Int) % 256]), .bool false, .string fx_rep, .int .i64 0, .int .i64 0] (fun _ => True) (fun _ => False) rfl (by first | rfl | (simp [Act.eval, Act.put]; done)) ?aP (fun _ hk => hk.elim) ?aF ?aO ?aB ?aS ?aL ?_; (case aP => exact k32_mkM _ _ _ (fx_item k)); (case aB => exact Below.mono (B := wr.heap.size) (by repeat (first | (with_reducible first | exact HW8.out | exact Below.refl _ _ | apply below_alloc | apply pw_below_drewN | apply below_drew1))) (by omega)); (case aF => exact (fun _ _ => trivial)); (case aO => exact Kd.R_below HO.out (by repeat (first | (with_reducible first | exact HW8.out | exact Below.refl _ _ | apply below_alloc | apply pw_below_drewN | apply below_drew1)))); (case aS => exact Nat.le_trans hlt (Below.size (B := wr.heap.size) (w := wr) (by repeat (first | (with_reducible first | exact HW8.out | exact Below.refl _ _ | apply below_alloc | apply pw_below_drewN | apply below_drew1))))); (case aL => rw [HLN.out]; omega); intro v9 w9 ho hb hg hat; obtain ⟨A9, c9, rfl⟩ := Kd.R_slice ho; have HO9 := Aside0.mk ho; have HW9 := Aside0.mk hb; have q9 := (HW9.out.cell (p := ⟨w6.heap.size, 3, none⟩) (Nat.lt_succ_self _)).trans q3; have q9f := (HW9.out.frozen (p := ⟨w6.heap.size, 3, none⟩) (Nat.lt_succ_self _)).trans (HX.out.frozen 3); clear ho hb hg hat)
        | (go_simp; ((with_reducible refine (withyref01_Repeat.calls 40 7 30 fx_rep _ fx_rp).mono ?_); rintro e w8 ⟨rfl, hb8⟩; dsimp only; have HW8 := Aside0.mk (below_step (show Below wr.heap.size wr _ from (by repeat (first | (with_reducible first | exact Below.refl _ _ | apply below_alloc | apply pw_below_drewN | apply below_drew1)))) hb8); have q8 := (HW8.out.cell (p := ⟨w6.heap.size, 3, none⟩) hlt).trans q3; have hlt8 := Nat.lt_of_lt_of_le hlt HW8.out.size; have qb8 := cellIf hb8 wr.heap.size; clear hb8)))
      all_goals
        go_wp2
        go_roundw
        case rel =>
          refine ⟨k + 1, .slice A9 (fx_big k ++ [fx_item k]).length c9, by omega, by go_num, ⟨?_⟩, ⟨?_⟩, ⟨?_⟩⟩
          · have := (show Block w9 w6.heap.size 24 #[.int .i64 1, .int .i64 0, .string ⟨#[]⟩, .slice A (fx_big k).length c] from (HW9.out.block w6.heap.size (Nat.lt_succ_self _)).trans HX.out).set 3 (.slice A9 (fx_big k ++ [fx_item k]).length c9)
            simpa using this
          · rw [fx_big_succ]
            exact R_high HO9.out (fun j hj1 hj2 => Below.heap_setCell _ _ _ j (by intro e; subst e; exact absurd hj1 (Nat.not_succ_le_self _)))
          · exact ((HW.out).trans (HW9.out.mono (Nat.le_succ _))).setCell (p := ⟨w6.heap.size, 3, none⟩) (Nat.le_refl _) _
        case measure => simp [intOf]; omega


end Go.Proofs.YtmheajenlhlbhaaGreatDoor.X

