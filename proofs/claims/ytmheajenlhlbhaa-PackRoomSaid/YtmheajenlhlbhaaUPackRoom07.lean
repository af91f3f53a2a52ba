/- What functions of the given program compute, step by step: the walks that the law PackRoom leans on, part 7. No conditions. -/
import Derived.Test.YtmheajenlhlbhaaUPackRoom01
import Derived.Test.YtmheajenlhlbhaaUPackRoom06
import Derived.Test.YtmheajenlhlbhaaUPackRoom03
import Derived.Test.YtmheajenlhlbhaaUPackRoom04
import Derived.Test.YtmheajenlhlbhaaUPackRoom02
import Derived.RangeFuncNested
import Derived.RangeFuncBound
import Derived.RangeFuncCalls
import Derived.RangeFuncLeaves
import Derived.RangeFuncBox
import Derived.Shelf.Abstract
import Derived.Shelf.RegionOpen
import Derived.OwnWalkIn
import Derived.TacticsInMore
import Derived.LoopNIn
import Derived.LoopIn
import Derived.LaidEql
import Derived.Stop.Asserts
import Derived.RowKitTokens
import Derived.Lib.IfaceEq
namespace Go.Proofs.Ytmheajenlhlbhaa.X
open Go.RowKit Go.Proofs.YtmheajenlhlbhaaW.PrintWords Go.Proofs.YtmheajenlhlbhaaW.PrintLast Go.Proofs.YtmheajenlhlbhaaW.PrintMore
attribute [local go_sem] max2_int min2_int max_two min_two max_three min_three max_four min_four   -- for this text's walks alone
set_option linter.unusedVariables false
set_option linter.unusedSimpArgs false

/-! ### leaf_Size_raw: function 34 -/
def leaf_Size_raw.f (a0_0 : Int) (a0_1 : Int) (a0_2 : ByteArray) (l0_3 : List (S35)) : Option (Int) := (leaf_parts.f a0_0 a0_1 a0_2 l0_3).bind fun bt200 => ((slot_Size.f bt200.1 bt200.2).bind fun t204 => (some t204))
set_option maxHeartbeats 8000000 in
set_option maxRecDepth 100000 in
theorem leaf_Size_raw.calls (a0_0 : Int) (a0_1 : Int) (a0_2 : ByteArray) (A0_3 : Option Addr) (c0_3 : Nat) (l0_3 : List (S35)) (r : Int) (w : World) (hr0_3 : Kd.C k35 w A0_3 l0_3.length l0_3) (hc0_3 : l0_3.length ≤ c0_3) (h : leaf_Size_raw.f a0_0 a0_1 a0_2 l0_3 = some r) :
    Calls Try.prog 34 #[.agg #[.int .i64 a0_0, .int .i64 a0_1, .string a0_2, .slice A0_3 l0_3.length c0_3]] w fun e w' => e = .returned (.int .i64 r) ∧ Below w.heap.size w w' := by
  have hu46 := Try.underlying46
  have HR0_3 := Aside0.mk hr0_3
  have HC0_3 := Aside0.mk hc0_3
  clear hr0_3 hc0_3
  have HB := Aside0.mk (Below.refl w.heap.size w)
  have H : ((leaf_parts.f a0_0 a0_1 a0_2 l0_3).bind fun bt200 => ((slot_Size.f bt200.1 bt200.2).bind fun t204 => (some t204))) = some r := h
  clear h
  replace H := Option.bind_eq_some_iff.mp H
  obtain ⟨⟨t200, t201⟩, A20, H⟩ := H
  replace H : ((slot_Size.f t200 t201).bind fun t204 => (some t204)) = some r := H
  have A2 := Aside0.mk A20
  clear A20
  replace H := Option.bind_eq_some_iff.mp H
  obtain ⟨t204, A30, H⟩ := H
  replace H : (some t204) = some r := H
  have A3 := Aside0.mk A30
  clear A30
  obtain rfl := Option.some.inj H
  go_enter Try.func34, Try.ntmps34
  go_wp2_with (first | ((with_reducible refine gate_dst (N := 1) rfl ?_); refine box_event ?hg (N := 1) ?hd (cs := #[.int .i64 a0_0, .int .i64 a0_1, .string a0_2, .slice A0_3 l0_3.length c0_3]) (t := 46) ?hr ?_; (case hd => rfl); (case hg => rfl); (case hr => first | (go_simp; done) | (go_simp; rfl)); intro gb199 hg w4 hbox hb; have n0_ := Aside0.mk (below_step (by repeat (first | (with_reducible first | exact HB.out | apply below_alloc | apply pw_below_drewN | apply below_drew1) | exact HB.out)) hb); have n1_ := Aside0.mk (hbox); have n2_ := Aside0.mk ((by rw [hg]; exact (below_size (by repeat (first | (with_reducible first | exact HB.out | apply below_alloc | apply pw_below_drewN | apply below_drew1) | exact HB.out))) : w.heap.size ≤ gb199)); have n3_ := Aside0.mk ((by rw [hg]; exact (below_size (by repeat (first | (with_reducible first | exact HB.out | apply below_alloc | apply pw_below_drewN | apply below_drew1) | exact HB.out))) : w.heap.size ≤ gb199)); clear HB; have HB := n0_; have BK199 := n1_; have GW199 := n2_; have GE199 := n3_; clear n0_ n1_ n2_ n3_; clear hb hbox hg; have hcz5_0 : w4.cell? ⟨gb199, 0, none⟩ = some (.int .i64 a0_0) := (blk_cell BK199.out 0).trans rfl; have hcz5_1 : w4.cell? ⟨gb199, 1, none⟩ = some (.int .i64 a0_1) := (blk_cell BK199.out 1).trans rfl; have hcz5_2 : w4.cell? ⟨gb199, 2, none⟩ = some (.string a0_2) := (blk_cell BK199.out 2).trans rfl; have hcz5_3 : w4.cell? ⟨gb199, 3, none⟩ = some (.slice A0_3 l0_3.length c0_3) := (blk_cell BK199.out 3).trans rfl; have hfz5_0 := blk_frozen BK199.out 0; have hfz5_1 := blk_frozen BK199.out 1; have hfz5_2 := blk_frozen BK199.out 2; have hfz5_3 := blk_frozen BK199.out 3) | ((with_reducible refine gate_callee (f := 28) rfl ?_); refine goesL_ (some 7) rfl rfl Try.func28 (by kernel_rfl) rfl #[.agg #[.int .i64 a0_0, .int .i64 a0_1, .string a0_2, .slice A0_3 l0_3.length c0_3]] rfl (by (try simp only [List.map_toArray, List.map_cons, List.map_nil]); first | done | rfl | (simp only [List.length_drop, List.length_take]; rfl)) ?_; (with_reducible refine (leaf_parts.calls a0_0 a0_1 a0_2 _ _ l0_3 t200 t201 _ ?side1 ?side2 A2.out).mono ?_); (case side1 => repeat (first | exact (Kd.C_below HR0_3.out HB.out) | (with_reducible refine Kd.C_alloc ?_ _) | (with_reducible refine Kd.C_drewN ?_ _) | (with_reducible refine Kd.C_drew ?_))); (case side2 => exact HC0_3.out); rintro e w6 ⟨v202, rfl, ho0, hb⟩; refine ⟨_, rfl, ?_⟩; have n0_ := Aside0.mk (Kd.R_lower ho0 (below_size (by repeat (first | (with_reducible first | exact HB.out | apply below_alloc | apply pw_below_drewN | apply below_drew1 | refine below_set ?_ GE199.out) | exact HB.out)))); have n1_ := Aside0.mk (blk_below (g := gb199) (o := .cells #[.int .i64 a0_0, .int .i64 a0_1, .string a0_2, .slice A0_3 l0_3.length c0_3] 46 (0, 0)) (by (with_reducible repeat (first | refine blk_drewN ?_ _ | refine blk_drew ?_ | refine blk_alloc ?_ _)); exact BK199.out) hb); have n2_ := Aside0.mk (below_step (by repeat (first | (with_reducible first | exact HB.out | apply below_alloc | apply pw_below_drewN | apply below_drew1 | refine below_set ?_ GE199.out) | exact HB.out)) hb); clear BK199; clear HB; have HO203 := n0_; have BK199 := n1_; have HB := n2_; clear n0_ n1_ n2_; (try clear hb); (try clear hb2); (try clear hk); (try clear hi); (try clear ho0); obtain ⟨Ao7, co7, eo7⟩ := Kd.R_slice HO203.out; subst eo7) | ((with_reducible refine gate_callee (f := 43) rfl ?_); refine goesL_ (some 12) rfl rfl Try.func43 (by kernel_rfl) rfl #[.string t200, .slice Ao7 t201.length co7] rfl (by (try simp only [List.map_toArray, List.map_cons, List.map_nil]); first | done | rfl | (simp only [List.length_drop, List.length_take]; rfl)) ?_; (with_reducible refine (slot_Size.calls t200 _ _ t201 t204 _ ?side1 ?side2 A3.out).mono ?_); (case side1 => repeat (first | exact (Kd.R_reads' HO203.out).2.2 | (with_reducible refine Kd.C_alloc ?_ _) | (with_reducible refine Kd.C_drewN ?_ _) | (with_reducible refine Kd.C_drew ?_))); (case side2 => exact (Kd.R_reads' HO203.out).2.1); rintro e w8 ⟨rfl, hb⟩; refine ⟨_, rfl, ?_⟩; have n0_ := Aside0.mk (Kd.R_below (by (with_reducible repeat (first | apply Kd.R_alloc | apply Kd.R_drewN | apply Kd.R_drew)); exact HO203.out) hb); have n1_ := Aside0.mk (blk_below (g := gb199) (o := .cells #[.int .i64 a0_0, .int .i64 a0_1, .string a0_2, .slice A0_3 l0_3.length c0_3] 46 (0, 0)) (by (with_reducible repeat (first | refine blk_drewN ?_ _ | refine blk_drew ?_ | refine blk_alloc ?_ _)); exact BK199.out) hb); have n2_ := Aside0.mk (below_step (by repeat (first | (with_reducible first | exact HB.out | apply below_alloc | apply pw_below_drewN | apply below_drew1 | refine below_set ?_ GE199.out) | exact HB.out)) hb); clear HO203; clear BK199; clear HB; have HO203 := n0_; have BK199 := n1_; have HB := n2_; clear n0_ n1_ n2_; (try clear hb); (try clear hb2); (try clear hk); (try clear hi)))
  go_ret
  exact ⟨by first | rfl | (simp [errW_none, errW_some] <;> rfl) | (simp [*, errW_none, errW_some] <;> rfl), by repeat (first | (with_reducible first | exact HB.out | apply below_alloc | apply pw_below_drewN | apply below_drew1 | refine below_set ?_ GE199.out) | exact HB.out)⟩

end Go.Proofs.Ytmheajenlhlbhaa.X


namespace Go.Proofs.Ytmheajenlhlbhaa.X
open Go.RowKit Go.Proofs.YtmheajenlhlbhaaW.PrintWords Go.Proofs.YtmheajenlhlbhaaW.PrintLast Go.Proofs.YtmheajenlhlbhaaW.PrintMore
attribute [local go_sem] max2_int min2_int max_two min_two max_three min_three max_four min_four   -- for this text's walks alone
set_option linter.unusedVariables false
set_option linter.unusedSimpArgs false

--GIVEN-- withy/leaf.Size
/-! ### leaf_Size: function 34 -/
theorem cellB_size (s : ByteArray) (v : S32) (h : valOk v = true) : (cellB s v).size ≤ s.size + 300 := by
  unfold cellB valB
  have h1 := textB_size s
  rw [ByteArray.size_append]
  by_cases hb : v.f0 = true
  · rw [if_pos hb, ByteArray.size_append, ByteArray.size_append, strOfNums_size, strOfNums_size, strOfNums_size]
    have := putL_length_le v.f2.toNat
    simp
    omega
  · rw [if_neg hb, ByteArray.size_append, strOfNums_size]
    have h2 := textB_size v.f1
    have hv : v.f1.size ≤ 256 := by
      unfold valOk at h
      rw [if_neg hb] at h
      simp at h
      exact h.2
    simp
    omega
theorem itemCell_size (s : ByteArray) (v : S32) : (itemCell s v).size ≤ 428 := by
  unfold itemCell
  by_cases h : s.size ≤ 128 ∧ valOk v = true
  · rw [if_pos h]
    have := cellB_size s v h.2
    omega
  · rw [if_neg h]
    show 0 ≤ 428
    omega
theorem sizeSum_le (l : List ByteArray) (m : Nat) (h : ∀ s ∈ l, s.size ≤ m) : sizeSum l ≤ l.length * m := by
  induction l with
  | nil => exact Nat.zero_le _
  | cons a r ih =>
    have h1 := h a (by simp)
    have h2 := ih (fun s hs => h s (by simp [hs]))
    simp only [sizeSum, List.map_cons, List.sum_cons, List.length_cons, Nat.add_mul] at h2 ⊢
    omega
theorem leafCells_mem (l : List S35) : ∀ s ∈ leafCells l, s.size ≤ 428 := by
  intro s hs
  obtain ⟨i, hi, rfl⟩ := List.getElem_of_mem hs
  simp only [leafCells, List.getElem_zipWith]
  exact itemCell_size _ _
/-- How many bytes a leaf needs. -/
def leafNeed (high : ByteArray) (l : List S35) : Nat := (leafFixed high l).size + sizeSum (leafCells l) + 2 * (l.length + 1)
def leaf_Size.f (a b : Int) (high : ByteArray) (l : List S35) : Option Int := if l.length ≤ 1000000 ∧ high.size ≤ 1000000000 ∧ ∀ x ∈ l, x.f0.size ≤ 1000000000 then some (leafNeed high l : Nat) else none
theorem leaf_Size.calls (a0_0 : Int) (a0_1 : Int) (a0_2 : ByteArray) (A0_3 : Option Addr) (c0_3 : Nat) (l0_3 : List S35) (r : Int) (w : World) (hr0_3 : Kd.C k35 w A0_3 l0_3.length l0_3) (hc0_3 : l0_3.length ≤ c0_3) (h : leaf_Size.f a0_0 a0_1 a0_2 l0_3 = some r) :
    Calls Try.prog 34 #[.agg #[.int .i64 a0_0, .int .i64 a0_1, .string a0_2, .slice A0_3 l0_3.length c0_3]] w fun e w' => e = .returned (.int .i64 r) ∧ Below w.heap.size w w' := by
  unfold leaf_Size.f at h
  by_cases hs : l0_3.length ≤ 1000000 ∧ a0_2.size ≤ 1000000000 ∧ ∀ x ∈ l0_3, x.f0.size ≤ 1000000000
  · rw [if_pos hs] at h
    refine leaf_Size_raw.calls a0_0 a0_1 a0_2 A0_3 c0_3 l0_3 r w hr0_3 hc0_3 ?_
    have h1 : leaf_parts.f a0_0 a0_1 a0_2 l0_3 = some (leafFixed a0_2 l0_3, leafCells l0_3) := by unfold leaf_parts.f; rw [if_pos ⟨by omega, hs.2⟩]
    have hall : (stripAll (leafKeys l0_3)).size ≤ 1000000000 := stripAll_size_le _ _ (fun s hs' => by obtain ⟨x, hx, rfl⟩ := List.mem_map.1 hs'; exact hs.2.2 x hx)
    have hf : (leafFixed a0_2 l0_3).size ≤ 3000000000 := by
      unfold leafFixed
      have p1 := putL_length_le (stripAll (leafKeys l0_3)).size
      have p2 := putL_length_le a0_2.size
      rw [ByteArray.size_append, ByteArray.size_append, ByteArray.size_append, strOfNums_size, strOfNums_size]
      omega
    have hc := sizeSum_le (leafCells l0_3) 428 (leafCells_mem l0_3)
    have h2 : slot_Size.f (leafFixed a0_2 l0_3) (leafCells l0_3) = some ((leafNeed a0_2 l0_3 : Nat) : Int) := by
      unfold slot_Size.f leafNeed
      rw [leafCells_length] at hc ⊢
      rw [if_pos ⟨by omega, by omega, by omega⟩]
    unfold leaf_Size_raw.f
    rw [h1]
    simp only [Option.bind_some, h2]
    exact h
  · rw [if_neg hs] at h
    exact absurd h (by simp)


end Go.Proofs.Ytmheajenlhlbhaa.X


namespace Go.Proofs.Ytmheajenlhlbhaa.X
open Go.RowKit Go.Proofs.YtmheajenlhlbhaaW.PrintWords Go.Proofs.YtmheajenlhlbhaaW.PrintLast Go.Proofs.YtmheajenlhlbhaaW.PrintMore
attribute [local go_sem] max2_int min2_int max_two min_two max_three min_three max_four min_four   -- for this text's walks alone
set_option linter.unusedVariables false
set_option linter.unusedSimpArgs false

--GIVEN-- withy/pack.Group
/-! ### pack_Group: function 13 -/
attribute [local go_sem] Oper.semAt_some
/-- Do the first m items have room? -/
def fitsN (l : List S35) (p : Int) (m : Nat) : Bool := decide (((leafNeed (highB l m) (l.take m) : Nat) : Int) ≤ p - 16)
theorem highB_size (l : List S35) (m : Nat) (hk : ∀ x ∈ l, x.f0.size ≤ 1000000000) (hm : m ≤ l.length) : (highB l m).size ≤ 1000000000 := by
  unfold highB
  by_cases h : m = 0 ∨ m = l.length
  · rw [if_pos h]; exact Nat.zero_le _
  · rw [if_neg h]
    unfold leastB
    split
    · rw [ByteArray.size_extract]
      have := hk _ (rd_mem (l := l) (i := m) (by omega))
      omega
    · exact Nat.zero_le _

/-- What a call inside the closure must keep. -/
def FitS (gl gp : Nat) (v : Value) (p : Int) (w W : World) : Prop := W.cell? ⟨gl, 0, none⟩ = some v ∧ W.cell? ⟨gp, 0, none⟩ = some (.int .i64 p) ∧ Below w.heap.size w W
theorem FitS.step {gl gp : Nat} {v : Value} {p : Int} {w W w2 : World} (h : FitS gl gp v p w W) (hb : Below W.heap.size W w2) : FitS gl gp v p w w2 :=
  ⟨(hb.cell (World.block_lt_of_cell? W _ h.1)).trans h.1, (hb.cell (World.block_lt_of_cell? W _ h.2.1)).trans h.2.1, below_step h.2.2 hb⟩
theorem FitS.below {gl gp : Nat} {v : Value} {p : Int} {w W : World} (h : FitS gl gp v p w W) : Below w.heap.size w W := h.2.2

theorem leaf_Size_at (hi : ByteArray) (A : Option Addr) (c n : Nat) (l : List S35) (r : Int) (w : World) (hn : l.length = n) (hr : Kd.C k35 w A n l) (hc : n ≤ c) (h : leaf_Size.f 0 0 hi l = some r) :
    Calls Try.prog 34 #[.agg #[.int .i64 0, .int .i64 0, .string hi, .slice A n c]] w fun e w' => e = .returned (.int .i64 r) ∧ Below w.heap.size w w' := by
  subst hn
  exact leaf_Size.calls 0 0 hi A c l r w hr hc h

set_option maxRecDepth 100000 in
set_option maxHeartbeats 2000000 in
theorem fits_calls (m : Nat) (p : Int) (gl gp : Nat) (A : Option Addr) (c : Nat) (l : List S35) (w : World) (hcl : w.cell? ⟨gl, 0, none⟩ = some (.slice A l.length c)) (hcp : w.cell? ⟨gp, 0, none⟩ = some (.int .i64 p)) (hr : Kd.C k35 w A l.length l) (hc : l.length ≤ c) (hm : m ≤ l.length) (hl : l.length ≤ 1000000) (hk : ∀ x ∈ l, x.f0.size ≤ 1000000000) (hp0 : 0 ≤ p) (hp1 : p ≤ 1000000) :
    Calls Try.prog 33 #[.int .i64 m, .pointer (some ⟨gl, 0, none⟩), .pointer (some ⟨gp, 0, none⟩)] w fun e w' => e = .returned (.bool (fitsN l p m)) ∧ Below w.heap.size w w' := by
  have HH := Aside0.mk (show pack_high.f l (m : Int) = some (highB l m) by unfold pack_high.f; rw [if_pos ⟨by omega, by omega, hl, hk⟩, Int.toNat_natCast])
  have htl : (l.take m).length = m := by rw [List.length_take]; omega
  have HS := Aside0.mk (show leaf_Size.f 0 0 (highB l m) (l.take m) = some ((leafNeed (highB l m) (l.take m) : Nat) : Int) by
    unfold leaf_Size.f
    rw [if_pos ⟨by omega, highB_size l m hk hm, fun x hx => hk x (List.mem_of_mem_take hx)⟩])
  have HF := Aside0.mk (show decide (((leafNeed (highB l m) (l.take m) : Nat) : Int) ≤ p - 16) = fitsN l p m from rfl)
  have HT := Aside0.mk (Kd.C_take hr hm)
  rw [htl] at HT
  have HTL := Aside0.mk htl
  have HR := Aside0.mk hr
  clear hk htl hr
  generalize highB l m = hi at HH HS HF
  generalize leafNeed hi (l.take m) = nd at HS HF
  have hm0 : (0 : Int) ≤ (m : Int) := by omega
  have hm1 : (m : Int) ≤ (l.length : Int) := by omega
  have hm2 : (m : Int) ≤ (c : Int) := by omega
  have hmc : m ≤ c := by omega
  have hw : IntKind.i64.wrap (p - 16) = p - 16 := IntWalk.i64_in _ (by omega)
  go_enter Try.func33, Try.ntmps33
  go_wp2_with fail
  have hS0 : FitS gl gp (.slice A l.length c) p w w.drew := ⟨hcl, hcp, below_drew (Below.refl _ _)⟩
  go_region_held3 (fun W => W.cell? ⟨gl, 0, none⟩ = some (.slice A l.length c) ∧ W.cell? ⟨gp, 0, none⟩ = some (.int .i64 p) ∧ Below w.heap.size w W)
    (first | assumption | exact ⟨hcl, hcp, below_drew (Below.refl _ _)⟩)
    (first | (go_at_call 31; refine (pack_high.calls A c l (m : Int) hi _ (Kd.C_below HR.out (FitS.below hS0)) hc HH.out).mono ?_; rintro e w2 ⟨rfl, hb⟩; have hS1 := hS0.step hb; clear hb; have hS1' := id hS1; unfold FitS at hS1') | (go_at_call 34; refine (leaf_Size_at hi A m m (l.take m) nd _ HTL.out (Kd.C_below HT.out (FitS.below hS1)) (Nat.le_refl _) HS.out).mono ?_; rintro e w3 ⟨rfl, hb⟩; have hS2 := hS1.step hb; have hS2' := id hS2; unfold FitS at hS2'; clear hb))
  go_wp2
  go_ret
  exact ⟨by rw [← HF.out]; rfl, hS2.below⟩

theorem fits_at (k : Nat) (r : Bool) (p : Int) (gl gp : Nat) (A : Option Addr) (c : Nat) (l : List S35) (w : World) (hr_ : fitsN l p (k + 1) = r) (hcl : w.cell? ⟨gl, 0, none⟩ = some (.slice A l.length c)) (hcp : w.cell? ⟨gp, 0, none⟩ = some (.int .i64 p)) (hr : Kd.C k35 w A l.length l) (hc : l.length ≤ c) (hm : k + 1 ≤ l.length) (hl : l.length ≤ 1000000) (hk : ∀ x ∈ l, x.f0.size ≤ 1000000000) (hp0 : 0 ≤ p) (hp1 : p ≤ 1000000) :
    Calls Try.prog 33 #[.int .i64 ((k : Int) + 1), .pointer (some ⟨gl, 0, none⟩), .pointer (some ⟨gp, 0, none⟩)] w fun e w' => e = .returned (.bool r) ∧ Below w.heap.size w w' := by
  subst hr_
  exact fits_calls (k + 1) p gl gp A c l w hcl hcp hr hc hm hl hk hp0 hp1
/-- How many items stand on a leaf: as many as fit, one by one. -/
def growN (l : List S35) (p : Int) : Nat → Nat → Nat
  | 0, n => n
  | d + 1, n => if n < l.length then (if fitsN l p (n + 1) = true then growN l p d (n + 1) else n) else n
def firstN (l : List S35) (p : Int) : Nat := growN l p l.length (min l.length 1)
def groupF (p : Int) : Nat → List S35 → List Int
  | 0, _ => []
  | d + 1, l => if firstN l p = l.length then [(firstN l p : Int)] else (firstN l p : Int) :: groupF p d (l.drop (firstN l p))
/-- How many stand on each leaf. -/
def groupN (p : Int) (l : List S35) : List Int := groupF p (l.length + 1) l
theorem growN_bounds (l : List S35) (p : Int) : ∀ d n, n ≤ l.length → n ≤ growN l p d n ∧ growN l p d n ≤ l.length
  | 0, n, h => ⟨Nat.le_refl _, h⟩
  | d + 1, n, h => by
    unfold growN
    by_cases h1 : n < l.length
    · rw [if_pos h1]
      by_cases h2 : fitsN l p (n + 1) = true
      · rw [if_pos h2]
        have := growN_bounds l p d (n + 1) h1
        omega
      · rw [if_neg h2]
        omega
    · rw [if_neg h1]
      omega
theorem firstN_bounds (l : List S35) (p : Int) : min l.length 1 ≤ firstN l p ∧ firstN l p ≤ l.length := growN_bounds l p _ _ (Nat.min_le_left _ _)
theorem groupF_enough (p : Int) : ∀ (d e : Nat) (l : List S35), l.length < d → l.length < e → groupF p d l = groupF p e l
  | 0, _, _, h, _ => by omega
  | _, 0, _, _, h => by omega
  | d + 1, e + 1, l, h1, h2 => by
    unfold groupF
    have hb := firstN_bounds l p
    by_cases hf : firstN l p = l.length
    · rw [if_pos hf, if_pos hf]
    · rw [if_neg hf, if_neg hf, groupF_enough p d e (l.drop (firstN l p)) (by rw [List.length_drop]; omega) (by rw [List.length_drop]; omega)]
theorem groupN_eq (p : Int) (l : List S35) : groupN p l = if firstN l p = l.length then [(firstN l p : Int)] else (firstN l p : Int) :: groupN p (l.drop (firstN l p)) := by
  have hb := firstN_bounds l p
  by_cases hf : firstN l p = l.length
  · rw [if_pos hf]
    unfold groupN groupF
    rw [if_pos hf]
  · rw [if_neg hf]
    show groupF p (l.length + 1) l = _
    unfold groupF
    rw [if_neg hf]
    unfold groupN
    rw [groupF_enough p _ ((l.drop (firstN l p)).length + 1) _ (by rw [List.length_drop]; omega) (by omega)]
/-- How far the grouping is. -/
def GrpP (l0 : List S35) (p : Int) (pre : List Int) (b : Nat) : Prop := b ≤ l0.length ∧ pre.length ≤ b ∧ groupN p l0 = pre ++ groupN p (l0.drop b)
def GrpI (w : World) (l0 : List S35) (p : Int) (pre : List Int) (b : Nat) (W : World) : Prop :=
  ∃ v A c, Boxed W w.heap.size 39 v ∧ W.ownsRow (w.heap.size + 3) 3 1 v pre.length (pre.map (Value.int .i64)) ∧ Boxed W (w.heap.size + 1) 26 (.slice A (l0.drop b).length c) ∧ (l0.drop b).length ≤ c ∧ Kd.C k35 w A (l0.drop b).length (l0.drop b) ∧ Boxed W (w.heap.size + 2) 3 (.int .i64 p) ∧ Below w.heap.size w W
theorem boxed_ne {W : World} {B L : Nat} {t : TypeId} {v : Value} {o : Obj} (h : Boxed W B t v) (hL : W.heap[L]? = some o) (ho : o.isCells = false) : B ≠ L := by
  intro e
  subst e
  have h' : W.heap[B]? = some (.cells #[v] t (0, 0)) := h
  rw [h'] at hL
  cases hL
  cases ho
theorem boxed_putObj {W : World} {B L : Nat} {t : TypeId} {v : Value} {o : Obj} (h : Boxed W B t v) (hL : W.heap[L]? = some o) (ho : o.isCells = false) (o' : Obj) : Boxed (W.putObj L o') B t v :=
  h.kept (grownBy_putObj' W L o') (by intro e; exact boxed_ne h hL ho (Option.some.inj e))
theorem below_putObj {w W : World} (h : Below w.heap.size w W) {L : Nat} (hL : w.heap.size ≤ L) (o' : Obj) : Below w.heap.size w (W.putObj L o') :=
  h.grown (grownBy_putObj' W L o') h.size (fun k e => by cases e; exact hL)
theorem GrpI.putObj {w : World} {l0 : List S35} {p : Int} {pre : List Int} {b : Nat} {W : World} (h : GrpI w l0 p pre b W) {L : Nat} {o : Obj} (hb : w.heap.size ≤ L) (hL : W.heap[L]? = some o) (ho : o.isCells = false) (o' : Obj) : GrpI w l0 p pre b (W.putObj L o') := by
  obtain ⟨v, A, c, h1, h2, h3, h4, h5, h6, h7⟩ := h
  exact ⟨v, A, c, boxed_putObj h1 hL ho o', ownsRow_putObj h2 _ hL ho, boxed_putObj h3 hL ho o', h4, h5, boxed_putObj h6 hL ho o', below_putObj h7 hb o'⟩
theorem GrpI.alloc {w : World} {l0 : List S35} {p : Int} {pre : List Int} {b : Nat} {W : World} (h : GrpI w l0 p pre b W) (o : Obj) : GrpI w l0 p pre b (W.alloc o) := by
  obtain ⟨v, A, c, h1, h2, h3, h4, h5, h6, h7⟩ := h
  exact ⟨v, A, c, h1.alloc o, h2.alloc o, h3.alloc o, h4, h5, h6.alloc o, below_alloc h7 o⟩
theorem GrpI.later {w : World} {l0 : List S35} {p : Int} {pre : List Int} {b : Nat} {W W' : World} (h : GrpI w l0 p pre b W) (hb : Below W.heap.size W W') : GrpI w l0 p pre b W' := by
  obtain ⟨v, A, c, h1, h2, h3, h4, h5, h6, h7⟩ := h
  have hg : W.grownBy W' none := grown_of_below hb none
  exact ⟨v, A, c, h1.kept hg (by simp), h2.kept hg (by cases hv : v.ownBlock with | none => exact .inl rfl | some k => exact .inr (by simp)), h3.kept hg (by simp), h4, h5, h6.kept hg (by simp), below_step h7 hb⟩
theorem keepsOthers_of_below {W W' : World} (hb : Below W.heap.size W W') : KeepsOthers W W' :=
  ⟨hb.size, fun k o hk _ => (hb.block k (Array.getElem?_eq_some_iff.1 hk).1).trans hk⟩
theorem growN_enough (l : List S35) (p : Int) : ∀ d e n, l.length - n ≤ d → l.length - n ≤ e → growN l p d n = growN l p e n
  | 0, 0, _, _, _ => rfl
  | 0, e + 1, n, h, _ => by
    unfold growN
    rw [if_neg (by omega)]
  | d + 1, 0, n, _, h => by
    unfold growN
    rw [if_neg (by omega)]
  | d + 1, e + 1, n, h1, h2 => by
    unfold growN
    rw [growN_enough l p d e (n + 1) (by omega) (by omega)]
def growE (l : List S35) (p : Int) (n : Nat) : Nat := growN l p (l.length - n) n
theorem growE_yes (l : List S35) (p : Int) (n : Nat) (h : n < l.length) (hf : fitsN l p (n + 1) = true) : growE l p n = growE l p (n + 1) := by
  unfold growE
  obtain ⟨d, hd⟩ : ∃ d, l.length - n = d + 1 := ⟨l.length - n - 1, by omega⟩
  rw [hd]
  conv => lhs; unfold growN
  rw [if_pos h, if_pos hf, growN_enough l p d (l.length - (n + 1)) (n + 1) (by omega) (by omega)]
theorem growE_no (l : List S35) (p : Int) (n : Nat) (h : l.length ≤ n ∨ fitsN l p (n + 1) = false) : growE l p n = n := by
  unfold growE
  rcases h with h | h
  · rw [show l.length - n = 0 by omega]
    rfl
  · cases hd : l.length - n with
    | zero => rfl
    | succ d =>
      unfold growN
      rw [h]
      simp
theorem firstN_growE (l : List S35) (p : Int) : firstN l p = growE l p (min l.length 1) := growN_enough l p _ _ _ (by omega) (by omega)
theorem leaves_back {w : World} {l0 l1 : List S35} {p : Int} {pre : List Int} {b : Nat} {W : World} (h : GrpI w l0 p pre b W) (hl : l0.drop b = l1) :
    ∃ A c, Boxed W (w.heap.size + 1) 26 (.slice A l1.length c) ∧ l1.length ≤ c ∧ Kd.C k35 w A l1.length l1 := by
  obtain ⟨v, A, c, h1, h2, h3, h4, h5, h6, h7⟩ := h
  rw [hl] at h3 h4 h5
  exact ⟨A, c, h3, h4, h5⟩
def grpLen (g : Nat) (W : World) : Nat := match W.cell? ⟨g, 0, none⟩ with
  | some (.slice _ n _) => n
  | _ => 0
theorem groupN_end {l0 : List S35} {p : Int} {pre : List Int} {b n : Nat} (h : GrpP l0 p pre b) (hf : firstN (l0.drop b) p = n) (hn : n = (l0.drop b).length) : groupN p l0 = pre ++ [(n : Int)] := by
  rw [h.2.2, groupN_eq, if_pos (by omega), hf]
theorem groupN_next {l0 : List S35} {p : Int} {pre : List Int} {b n : Nat} (h : GrpP l0 p pre b) (hf : firstN (l0.drop b) p = n) (hn : ¬ n = (l0.drop b).length) : GrpP l0 p (pre ++ [(n : Int)]) (b + n) := by
  have hb := firstN_bounds (l0.drop b) p
  have h1 := h.1
  have h2 := h.2.1
  have hl : (l0.drop b).length = l0.length - b := List.length_drop
  refine ⟨by omega, by rw [List.length_append]; simp; omega, ?_⟩
  rw [h.2.2, groupN_eq, if_neg (by omega), hf, List.drop_drop, List.append_assoc]
  rfl
theorem grpI_store {w : World} {l0 : List S35} {p : Int} {pre : List Int} {b k : Nat} {W : World} {A : Option Addr} {c : Nat} (h : GrpI w l0 p pre b W) (hr : Kd.C k35 w A (l0.drop (b + k)).length (l0.drop (b + k))) (hc : (l0.drop (b + k)).length ≤ c) :
    GrpI w l0 p pre (b + k) (W.setCell ⟨w.heap.size + 1, 0, none⟩ (.slice A (l0.drop (b + k)).length c)) := by
  obtain ⟨v, A1, c1, h1, h2, h3, h4, h5, h6, h7⟩ := h
  refine ⟨v, A, c, h1.other (by omega) _, h2.kept (grownBy_setCell' W _ _) ?_, h3.set _, hc, hr, h6.other (by omega) _, h7.setCell (p := ⟨w.heap.size + 1, 0, none⟩) (by simp) _⟩
  cases hv : v.ownBlock with
  | none => exact .inl rfl
  | some g =>
    have := own_base h2 g hv
    exact .inr (by intro e; have := Option.some.inj e; omega)
theorem grpLen_at {g n c : Nat} {A : Option Addr} {W : World} (h : W.cell? ⟨g, 0, none⟩ = some (.slice A n c)) : grpLen g W = n := by
  unfold grpLen
  rw [h]
theorem grpLen_set {g n c m d : Nat} {A B : Option Addr} {t : TypeId} {W : World} (h : Boxed W g t (.slice A n c)) : grpLen g (W.setCell ⟨g, 0, none⟩ (.slice B m d)) = m :=
  grpLen_at (h.set _).cell
set_option maxRecDepth 100000 in
set_option maxHeartbeats 4000000 in
theorem leaves1_in (w : World) (l0 : List S35) (p : Int) (hl : l0.length ≤ 1000000) (hp0 : 0 ≤ p) (hp1 : p ≤ 1000000) (hk : ∀ x ∈ l0, x.f0.size ≤ 1000000000) (L : Nat) (T : World → Prop) (hT : ∀ W W', T W → KeepsOthers W W' → T W')
    (hY : ∀ (pre : List Int) (b : Nat) (x : Int) (W : World), GrpI w l0 p pre b W → T W → (GrpP l0 p pre b ∧ x = firstN (l0.drop b) p) → YieldAt Fence.wide 3 Try.prog L #[.int .i64 x] W fun e W' => (e = .returned (.bool true) ∧ GrpI w l0 p (pre ++ [x]) b W' ∧ T W') ∨ (e = .returned (.bool false) ∧ False))
    (W1 : World) (h0 : GrpI w l0 p [] 0 W1) (hT1 : T W1) :
    CallsIn Fence.wide 4 Try.prog 32 #[.func (.yield L) #[] #[], .pointer (some ⟨w.heap.size + 1, 0, none⟩), .pointer (some ⟨w.heap.size + 2, 0, none⟩)] W1 fun e W' => (∃ v, e = .returned v) ∧ ∃ b, GrpI w l0 p (groupN p l0) b W' ∧ T W' := by
  refine callsIn_of_wp Try.func32 rfl trivial ?_ rfl
  simp only [Try.ntmps32, List.size_toArray, List.length_cons, List.length_nil, Nat.reduceAdd, Nat.reduceSub, Array.replicate_succ, Array.replicate_zero, List.push_toArray, List.append_toArray, List.nil_append, List.cons_append]
  have HK := Aside0.mk hk
  have HY := Aside0.mk hY
  have HT := Aside0.mk hT
  have H0 := Aside0.mk (show GrpP l0 p [] 0 ∧ GrpI w l0 p [] 0 W1 ∧ T W1 from ⟨⟨Nat.zero_le _, Nat.zero_le _, by simp⟩, h0, hT1⟩)
  clear hk hY hT h0 hT1
  gi_wp2
  gi_loopw [] (fun wr => ∃ (pre : List Int) (b : Nat), Aside0 (GrpP l0 p pre b ∧ GrpI w l0 p pre b wr ∧ T wr)) (fun wr => grpLen (w.heap.size + 1) wr)
  case atStart => exact ⟨[], 0, H0⟩
  case round =>
    obtain ⟨pre, b, HI⟩ := hrel
    obtain ⟨v, A, c, b1, b2, b3, b4, b5, b6, b7⟩ := HI.out.2.1
    have hcl := b3.cell
    have hcp := b6.cell
    generalize hl1 : l0.drop b = l1 at b3 b4 b5 hcl
    have HL1 := Aside0.mk hl1
    have HB := Aside0.mk (And.intro b1 (And.intro b2 (And.intro b3 (And.intro b5 (And.intro b6 b7)))))
    clear hl1 b1 b2 b3 b6 b7
    have HC := Aside0.mk b5
    have HKD := Aside0.mk (show ∀ x ∈ l1, x.f0.size ≤ 1000000000 from fun x hx => HK.out x (by rw [← HL1.out] at hx; exact List.mem_of_mem_drop hx))
    have hcc := b4
    clear b4 b5
    obtain ⟨m0, hm0⟩ : ∃ m0, min l1.length 1 = m0 := ⟨_, rfl⟩
    have hm1 : m0 ≤ l1.length := by omega
    have hl1 : l1.length ≤ 1000000 := by rw [← HL1.out, List.length_drop]; omega
    have hmin : mn (l1.length : Int) 1 = (m0 : Int) := by unfold mn; split <;> omega
    have hmin' : (if (1 : Int) < (l1.length : Int) then (1 : Int) else (l1.length : Int)) = (m0 : Int) := by split <;> omega
    have HM := Aside0.mk (show firstN l1 p = growE l1 p m0 by rw [firstN_growE, hm0])
    clear hm0
    gi_wp2_with fail
    clear hmin hmin'
    have HCLO := Aside0.mk hcl
    obtain ⟨wo, rfl⟩ : ∃ wo : World, wo = wr := ⟨_, rfl⟩
    gi_loopw [5] (fun n ws => ∃ k : Nat, k ≤ l1.length ∧ n = .int .i64 k ∧ Aside0 (growE l1 p k = firstN l1 p) ∧ Aside0 (GrpI w l0 p pre b ws ∧ T ws) ∧ ws.cell? ⟨w.heap.size + 1, 0, none⟩ = some (.slice A l1.length c) ∧ ws.cell? ⟨w.heap.size + 2, 0, none⟩ = some (.int .i64 p) ∧ Aside0 (Below w.heap.size w ws)) (fun n _ => l1.length - (intOf n).toNat)
    case atStart => exact ⟨m0, hm1, rfl, ⟨HM.out.symm⟩, ⟨HI.out.2⟩, hcl, hcp, ⟨HB.out.2.2.2.2.2⟩⟩
    case round =>
      clear hcl hcp
      obtain ⟨k, hk1, rfl, HG, HI2, hcl, hcp, HBW⟩ := hrel
      by_cases hlt : k < l1.length
      · have hd1 : decide (k < l1.length) = true := by simpa using hlt
        have hdi : decide ((k : Int) < (l1.length : Int)) = true := by simp; omega
        by_cases hf : fitsN l1 p (k + 1) = true
        · have HS := Aside0.mk (show growE l1 p (k + 1) = firstN l1 p from (growE_yes l1 p k hlt hf).symm.trans HG.out)
          have HFT := Aside0.mk hf
          clear hf
          gi_wp2_with (refine ⟨trivial, ?_⟩; gi_at_call 33; refine (callsIn_wide.2 (fits_at k true p (w.heap.size + 1) (w.heap.size + 2) A c l1 wr HFT.out hcl hcp (Kd.C_below HC.out HBW.out) hcc (by omega) hl1 HKD.out hp0 hp1)).mono ?_; rintro e w2 ⟨rfl, hb⟩; have n1_ := Aside0.mk (And.intro (HI2.out.1.later hb) (HT.out _ _ HI2.out.2 (keepsOthers_of_below hb))); have n2_ := Aside0.mk (below_step HBW.out hb); have hcl2 := (hb.cell (World.block_lt_of_cell? _ _ hcl)).trans hcl; have hcp2 := (hb.cell (World.block_lt_of_cell? _ _ hcp)).trans hcp; clear hcl hcp hb HI2 HBW; have HI2 := n1_; have HBW := n2_; clear n1_ n2_)
          go_roundw
          case rel => exact ⟨k + 1, by omega, by go_num, HS, HI2, hcl2, hcp2, HBW⟩
          case measure => simp [intOf]; omega
        · have hf2 : fitsN l1 p (k + 1) = false := by simpa using hf
          have HS := Aside0.mk (show k = firstN l1 p from (growE_no l1 p k (.inr hf2)).symm.trans HG.out)
          have HFT := Aside0.mk hf2
          clear hf hf2
          gi_wp2_with (refine ⟨trivial, ?_⟩; gi_at_call 33; refine (callsIn_wide.2 (fits_at k false p (w.heap.size + 1) (w.heap.size + 2) A c l1 wr HFT.out hcl hcp (Kd.C_below HC.out HBW.out) hcc (by omega) hl1 HKD.out hp0 hp1)).mono ?_; rintro e w2 ⟨rfl, hb⟩; have n1_ := Aside0.mk (And.intro (HI2.out.1.later hb) (HT.out _ _ HI2.out.2 (keepsOthers_of_below hb))); have n2_ := Aside0.mk (below_step HBW.out hb); have hcl2 := (hb.cell (World.block_lt_of_cell? _ _ hcl)).trans hcl; have hcp2 := (hb.cell (World.block_lt_of_cell? _ _ hcp)).trans hcp; clear hcl hcp hb HI2 HBW; have HI2 := n1_; have HBW := n2_; clear n1_ n2_; obtain ⟨fn, tmps, assign, body, hy, hR⟩ := HY.out pre b (k : Int) w2 HI2.out.1 HI2.out.2 ⟨HI.out.1, by rw [HL1.out, ← HS.out]⟩)
          refine hR.mono ?_
          rintro e W5 (⟨rfl, hJ, hTJ⟩ | ⟨_, hf⟩)
          · have hJ2 := leaves_back hJ HL1.out
            obtain ⟨A2, c2, hb2, hcc2, hrd2⟩ := hJ2
            have hcl5 := hb2.cell
            have hfz5 := hb2.frozen
            have HHR := Aside0.mk (And.intro hJ (And.intro hTJ (And.intro hb2 hrd2)))
            clear hJ hTJ hb2 hrd2
            have hend : ¬ k = l1.length := by omega
            · obtain ⟨i0, hi, hz0, hz1, hz2⟩ := info_parts info35
              obtain ⟨A3, hcut, hcr, hcl3⟩ := cut_from k35 26 35 .i64 Try.underlying26 hi hz1 A2 c2 l1 k (by omega) hcc2
              have HCR := Aside0.mk (And.intro hcr hcl3)
              have hdd : l1.drop k = l0.drop (b + k) := by rw [← HL1.out, List.drop_drop]
              have hll : (l1.drop k).length = l1.length - k := List.length_drop
              have HST := Aside0.mk (show Kd.C k35 w A3 (l0.drop (b + k)).length (l0.drop (b + k)) ∧ (l0.drop (b + k)).length ≤ c2 - k by rw [← hdd]; exact ⟨hcr w HHR.out.2.2.2, hcl3⟩)
              have HEQ := Aside0.mk (show (Value.slice A3 (l1.length - k) (c2 - k)) = Value.slice A3 (l0.drop (b + k)).length (c2 - k) by rw [← hdd, hll])
              have HPOS := Aside0.mk (show 1 ≤ k ∧ k < l1.length by have h1_ := firstN_bounds l1 p; have h2_ := HS.out; omega)
              rw [hll] at hcut
              clear hcr hcl3 hi hz0 hz1 hz2 hdd hll
              have he1 : ((k : Int) == (l1.length : Int)) = false := by simp; omega
              have he2 : (k == l1.length) = false := by simp; omega
              gi_wp2
              go_roundw
              case rel => exact ⟨pre ++ [(k : Int)], b + k, ⟨groupN_next HI.out.1 (by rw [HL1.out]; exact HS.out.symm) (by rw [HL1.out]; exact hend), by rw [HEQ.out]; exact grpI_store HHR.out.1 HST.out.1 HST.out.2, HT.out _ _ HHR.out.2.1 (KeepsOthers.setCell _ _ _)⟩⟩
              case measure => rw [grpLen_set HHR.out.2.2.1, grpLen_at HCLO.out]; have := HPOS.out; omega
          · exact hf.elim
      · have hkl : k = l1.length := by omega
        have HS := Aside0.mk (show k = firstN l1 p from (growE_no l1 p k (.inl (by omega))).symm.trans HG.out)
        have hd1 : decide (k < l1.length) = false := by simpa using hlt
        have hdi : decide ((k : Int) < (l1.length : Int)) = false := by simp; omega
        obtain ⟨fn, tmps, assign, body, hy, hR⟩ := HY.out pre b (k : Int) wr HI2.out.1 HI2.out.2 ⟨HI.out.1, by rw [HL1.out, ← HS.out]⟩
        have HKL := Aside0.mk hkl
        have he1 : ((k : Int) == (l1.length : Int)) = true := by simp; omega
        have he2 : (k == l1.length) = true := by simp; omega
        clear hkl
        gi_wp2
        refine ⟨fun _ h => (by cases h), ?_⟩
        gi_wp2
        refine hR.mono ?_
        rintro e W5 (⟨rfl, hJ, hTJ⟩ | ⟨_, hf⟩)
        · have hJ2 := leaves_back hJ HL1.out
          obtain ⟨A2, c2, hb2, hcc2, hrd2⟩ := hJ2
          have hcl5 := hb2.cell
          have HHR := Aside0.mk (And.intro hJ hTJ)
          clear hJ hTJ hb2 hrd2 hcl hcp
          gi_wp2
          refine bodyPost_ret (results_none rfl _ _ _) rfl ?_
          exact ⟨⟨_, rfl⟩, b, by rw [groupN_end (n := k) HI.out.1 (by rw [HL1.out]; exact HS.out.symm) (by rw [HL1.out]; exact HKL.out)]; exact HHR.out.1, HHR.out.2⟩
        · exact hf.elim
set_option maxHeartbeats 400000 in
theorem leaves_calls (v : Value) (hv : ∃ A n c, v = .slice A n c) (p : Int) (w : World) :
    Calls Try.prog 24 #[v, .int .i64 p] w fun e w' => e = .returned (.func (.func 32) #[] #[.pointer (some ⟨w.heap.size, 0, none⟩), .pointer (some ⟨w.heap.size + 1, 0, none⟩)]) ∧ w' = (w.alloc (.cells #[v] 26)).alloc (.cells #[.int .i64 p] 3) := by
  obtain ⟨A, n, c, rfl⟩ := hv
  go_enter Try.func24, Try.ntmps24
  go_wp2
  go_ret
  exact ⟨rfl, rfl⟩
theorem box_past {W w1 : World} {B k base n size : Nat} {t e : TypeId} {u v v' : Value} {xs : List Value} {tmp : Obj} (h : Boxed W k t u) (hk : k < base) (hrow : W.ownsRow base e size v n xs) (hg : (W.alloc tmp).grownBy w1 v.ownBlock) (hne : k ≠ B) : Boxed (w1.setCell ⟨B, 0, none⟩ v') k t u := by
  refine ((h.alloc tmp).kept hg ?_).other hne _
  intro e
  have := own_base hrow k e.symm
  omega
def pack_Group.f (l : List S35) (p : Int) : Option (List Int) := if l.length ≤ 1000000 ∧ 0 ≤ p ∧ p ≤ 1000000 ∧ ∀ x ∈ l, x.f0.size ≤ 1000000000 then some (groupN p l) else none
set_option maxRecDepth 100000 in
set_option maxHeartbeats 4000000 in
theorem pack_Group.calls (A0 : Option Addr) (c0 : Nat) (l0 : List S35) (a1 : Int) (r : List Int) (w : World) (hr0 : Kd.C k35 w A0 l0.length l0) (hc0 : l0.length ≤ c0) (h : pack_Group.f l0 a1 = some r) :
    Calls Try.prog 13 #[.slice A0 l0.length c0, .int .i64 a1] w fun e w' => ∃ v0_ : Value, e = .returned (v0_) ∧ Kd.R (Kd.int .i64) 3 w' w.heap.size (fun _ => True) v0_ r ∧ Below w.heap.size w w' := by
  unfold pack_Group.f at h
  by_cases hs : l0.length ≤ 1000000 ∧ 0 ≤ a1 ∧ a1 ≤ 1000000 ∧ ∀ x ∈ l0, x.f0.size ≤ 1000000000
  · rw [if_pos hs] at h
    obtain rfl := Option.some.inj h
    obtain ⟨hl, hp0, hp1, hk⟩ := hs
    clear h
    have HR := Aside0.mk hr0
    have HKK := Aside0.mk hk
    clear hk hr0
    obtain ⟨i0, hi, hz0, hz1, hz2⟩ := info_parts info3
    refine (callsIn_wide (n := 5)).1 ?_
    refine callsIn_of_wp_marks Try.func13 rfl trivial ?_ rfl
    simp only [Try.ntmps13, List.size_toArray, List.length_cons, List.length_nil, Nat.reduceAdd, Nat.reduceSub, Array.replicate_succ, Array.replicate_zero, List.push_toArray, List.append_toArray, List.nil_append, List.cons_append]
    gi_wp2_with (refine ⟨trivial, ?_⟩; gi_at_call 24; refine (callsIn_wide.2 (leaves_calls _ ⟨_, _, _, rfl⟩ a1 _)).mono ?_; rintro e w' ⟨rfl, rfl⟩)
    have bO := Boxed.new w 39 (.slice none 0 0)
    have bL := Boxed.new (w.alloc (.cells #[.slice none 0 0] 39)) 26 (.slice A0 l0.length c0)
    have bP := Boxed.new ((w.alloc (.cells #[.slice none 0 0] 39)).alloc (.cells #[.slice A0 l0.length c0] 26)) 3 (.int .i64 a1)
    rw [World.size_alloc] at bL bP
    rw [World.size_alloc] at bP
    have hI0 : GrpI w l0 a1 [] 0 (((w.alloc (.cells #[.slice none 0 0] 39)).alloc (.cells #[.slice A0 l0.length c0] 26)).alloc (.cells #[.int .i64 a1] 3)) :=
      ⟨_, A0, c0, (bO.alloc _).alloc _, World.ownsRow_nil _ _ _ _, bL.alloc _, hc0, HR.out, bP, below_alloc (below_alloc (below_alloc (Below.refl _ _) _) _) _⟩
    clear bO bL bP
    refine rangeFunc_law (α := Int) (β := Nat) (F := Fence.wide) (n := 5) rfl (by omega) (gf := 32) (lb := #[.pointer (some ⟨w.heap.size + 1, 0, none⟩), .pointer (some ⟨w.heap.size + 1 + 1, 0, none⟩)]) rfl trivial (enters_of Try.func32 (by kernel_rfl) rfl)
      (encs := fun x => #[.int .i64 x]) (fun _ => rfl) (GrpI w l0 a1) (fun _ _ _ _ => False) (fun pre b x => GrpP l0 a1 pre b ∧ x = firstN (l0.drop b) a1) (fun xs _ => xs = groupN a1 l0) (fun _ _ _ => False)
      (fun pre b W L o o' h1 h2 h3 h4 => h1.putObj (by simp at h2; omega) h3 h4 o') (fun _ _ _ _ _ _ _ h _ _ _ => h) (fun pre b W o h1 => h1.alloc o) 0 hI0
      (fun x => { tmps := #[.slice A0 l0.length c0, .int .i64 a1, undef, undef, .slice none 0 0, .pointer (some ⟨w.heap.size, 0, none⟩), .int .i64 x, .slice A0 l0.length c0, .int .i64 a1, .func (.func 32) #[] #[.pointer (some ⟨w.heap.size + 1, 0, none⟩), .pointer (some ⟨w.heap.size + 1 + 1, 0, none⟩)], .int .i64 x, undef, undef, undef, undef, undef], defers := [] }) ?assign ?body ?iter ?done ?stop
    case assign =>
      intro l x W K hK
      gi_wp2
      exact hK
    case body =>
      rintro l pre b x W ⟨v, A, c, h1, h2, h3, h4, h5, h6, h7⟩ ⟨hP, hx⟩
      have hc := h1.cell
      have hpl : pre.length ≤ 1000000 := by have := hP.1; have := hP.2.1; omega
      have HX := Aside0.mk hx
      have hb3 := below_size h7
      have H35 := Aside0.mk (And.intro h3 (And.intro h4 (And.intro h5 (And.intro h6 h7))))
      clear hx hP h3 h4 h5 h6 h7
      gi_wp2_with (gi_at_builtin; refine wpListIn_append_own _ rfl _ _ 39 rfl (w.heap.size + 3) 3 i0 (.int .i64 0) 1 8 Try.underlying39 hi hz0 hz1 hz2 rfl (by decide) _ _ _ rfl (h2.alloc _) ⟨W.heap.size, 0, none⟩ 1 1 [.int .i64 x] rfl rfl (cell_one_new _ _ _) (by simp [Value.oneCell']) (by unfold maxLen; omega) (by omega) (by have := World.block_lt_of_cell? _ _ H35.out.2.2.2.1.cell; simp at this ⊢; omega) ?_; intro v' w1 hown' hgrow _; obtain ⟨g', cap', rfl⟩ := ownsRow_succ hown'; obtain ⟨hv1, hv2, hr2, hk2, hb2⟩ := h1.appended (by decide) (own_less h2 (by omega)) hb3 (Nat.le_refl _) (own_less hown' (by omega)) hgrow; have hc1 := hv1.cell; have hf1 := hv1.frozen)
      have hown2 := hown'.kept (grownBy_setCell' w1 w.heap.size (.slice (some ⟨g', 0, none⟩) (pre.length + 1) cap')) (.inr (hv1.not_row (by decide) hown').symm)
      exact ⟨hk2, _, A, c, hv2, by simpa using hown2, box_past H35.out.1 (by omega) h2 hgrow (by omega), H35.out.2.1, H35.out.2.2.1, box_past H35.out.2.2.2.1 (by omega) h2 hgrow (by omega), H35.out.2.2.2.2.trans hb2⟩
    case iter =>
      intro L T Tx W1 hT hTx hY hB hI1 hT1
      refine (leaves1_in w l0 a1 hl hp0 hp1 HKK.out L T hT ?_ W1 hI1 hT1).mono ?_
      · intro pre b x W q1 q2 q3
        refine (hY pre b x W q1 q2 q3).mono ?_
        rintro e W' (h | ⟨_, _, h, _⟩)
        · exact .inl h
        · exact h.elim
      · rintro e W' ⟨hv, b, q1, q2⟩
        exact ⟨hv, .inl ⟨_, b, rfl, q1, q2⟩⟩
    case done =>
      rintro D xs b W hD rfl ⟨v, A, c, h1, h2, h3, h4, h5, h6, h7⟩ hK
      have hc := h1.cell
      have H27 := Aside0.mk (And.intro h2 h7)
      clear h2 h3 h4 h5 h6 h7
      gi_wp2
      refine ⟨by simp, .inl ⟨_, _, rfl, run_takeDeferred hK, ?_⟩⟩
      refine ⟨_, results_tmp rfl _ _ _, v, rfl, ?_, ?_⟩
      · exact Kd.R_of_own (enc := Value.int .i64) (h1 := fun _ => rfl) (ownsRow_putObj (own_less H27.out.1 (by omega)) _ hK rfl) (fun _ _ => trivial)
      · exact below_putObj H27.out.2 (by simp at hD; omega) _
    case stop =>
      rintro D c xs b W _ h _ _
      exact h.elim
  · rw [if_neg hs] at h
    exact absurd h (by simp)


end Go.Proofs.Ytmheajenlhlbhaa.X


namespace Go.Proofs.Ytmheajenlhlbhaa.X
open Go.RowKit Go.Proofs.YtmheajenlhlbhaaW.PrintWords Go.Proofs.YtmheajenlhlbhaaW.PrintLast Go.Proofs.YtmheajenlhlbhaaW.PrintMore
attribute [local go_sem] max2_int min2_int max_two min_two max_three min_three max_four min_four   -- for this text's walks alone
set_option linter.unusedVariables false
set_option linter.unusedSimpArgs false

/-! ### withyref01_Ints: function 14 -/
def withyref01_Ints.l0 : Nat → List Int → List Int → Int → Option (Bool)
  | 0, _, _, _ => none
  | k + 1, x0, x1, x5 => if x5 < (x0.length : Int) then (if 0 ≤ x5 then (if x5 < (x1.length : Int) then (if (rd x0 x5) = (rd x1 x5) then (withyref01_Ints.l0 k x0 x1 (wrap64 (x5 + 1))) else (some false)) else (none)) else (none)) else (some true)
def withyref01_Ints.f (k : Nat) (l0 : List Int) (l1 : List Int) : Option (Bool) := if (l0.length : Int) = (l1.length : Int) then (withyref01_Ints.l0 k l0 l1 0) else (some false)
set_option maxHeartbeats 8000000 in
set_option maxRecDepth 100000 in
theorem withyref01_Ints.calls (k : Nat) (A0 : Option Addr) (c0 : Nat) (l0 : List Int) (A1 : Option Addr) (c1 : Nat) (l1 : List Int) (r : Bool) (w : World) (hr0 : Kd.C (Kd.int .i64) w A0 l0.length l0) (hc0 : l0.length ≤ c0) (hr1 : Kd.C (Kd.int .i64) w A1 l1.length l1) (hc1 : l1.length ≤ c1) (h : withyref01_Ints.f k l0 l1 = some r) :
    Calls Try.prog 14 #[.slice A0 l0.length c0, .slice A1 l1.length c1] w fun e w' => e = .returned (.bool r) ∧ Drawn0 w w' := by
  have HR0 := Aside0.mk hr0
  have HC0 := Aside0.mk hc0
  clear hr0 hc0
  have HR1 := Aside0.mk hr1
  have HC1 := Aside0.mk hc1
  clear hr1 hc1
  have H : (if (l0.length : Int) = (l1.length : Int) then (withyref01_Ints.l0 k l0 l1 0) else (some false)) = some r := h
  clear h
  by_cases c3 : (l0.length : Int) = (l1.length : Int)
  · rw [if_pos c3] at H
    have c3b0 : ((l0.length : Int) == (l1.length : Int)) = true := beq_iff_eq.mpr c3
    have c3b1 : ((l0.length : Int) != (l1.length : Int)) = false := bne_eq_false_iff_eq.mpr c3
    have c3b2 : (l0.length == l1.length) = true := by first | simpa using c3 | (simp at c3 ⊢; omega)
    clear c3
    have H' := Aside0.mk H
    clear H
    go_enter Try.func14, Try.ntmps14
    go_wp2
    repeat (go_quiet (fail); try go_wp2)
    go_loopg [5] k (fun kq v5 w' => ∃ (x5_1 : Int), v5 = .int .i64 x5_1 ∧ Aside0 (withyref01_Ints.l0 kq l0 l1 x5_1 = some r) ∧ Aside0 (kq ≤ k) ∧ Drawn0 w w')
    case atStart => exact ⟨(0), (by first | rfl | (simp; done) | (simp [*]; done)), H', ⟨Nat.le_refl _⟩, by repeat (first | exact Drawn0.refl _ | apply Drawn0.step)⟩
    case round =>
      clear H'
      try clear c1
      try clear p2
      try clear c3
      try clear c3b0
      try clear c3b1
      try clear c3b2
      obtain ⟨x5_1, rfl, HA, HK1, ⟨m1, rfl⟩⟩ := hrel
      cases gk with
      | zero => exact absurd HA.out (by simp [withyref01_Ints.l0])
      | succ k1 =>
        have H := HA.out
        clear HA
        simp only [withyref01_Ints.l0] at H
        by_cases c4 : x5_1 < (l0.length : Int)
        · rw [if_pos c4] at H
          have c4b0 : decide (x5_1 < (l0.length : Int)) = true := decide_eq_true c4
          clear c4
          by_cases c5 : 0 ≤ x5_1
          · rw [if_pos c5] at H
            have c5b0 : decide (0 ≤ x5_1) = true := decide_eq_true c5
            clear c5
            by_cases c6 : x5_1 < (l1.length : Int)
            · rw [if_pos c6] at H
              have c6b0 : decide (x5_1 < (l1.length : Int)) = true := decide_eq_true c6
              clear c6
              by_cases c7 : (rd l0 x5_1) = (rd l1 x5_1)
              · rw [if_pos c7] at H
                have c7b0 : ((rd l0 x5_1) == (rd l1 x5_1)) = true := beq_iff_eq.mpr c7
                have c7b1 : ((rd l0 x5_1) != (rd l1 x5_1)) = false := bne_eq_false_iff_eq.mpr c7
                clear c7
                have H' := Aside0.mk H
                clear H
                have p205 : 0 ≤ (x5_1 : Int) := of_decide_eq_true (by first | (with_reducible assumption) | assumption)
                have q205 : x5_1 < (l0.length : Int) := of_decide_eq_true (by first | (with_reducible assumption) | assumption)
                obtain ⟨ad205, e205, hx205_0⟩ := Kd.at_int HR0.out x5_1 p205 q205
                cases e205
                replace p205 := eq_true p205
                replace q205 := eq_true q205
                have p206 : 0 ≤ (x5_1 : Int) := of_decide_eq_true (by first | (with_reducible assumption) | assumption)
                have q206 : x5_1 < (l1.length : Int) := of_decide_eq_true (by first | (with_reducible assumption) | assumption)
                obtain ⟨ad206, e206, hx206_0⟩ := Kd.at_int HR1.out x5_1 p206 q206
                cases e206
                replace p206 := eq_true p206
                replace q206 := eq_true q206
                go_wp2
                repeat (go_quiet (fail); try go_wp2)
                go_roundg k1
                case measure => have := HK1.out; omega
                case rel => exact ⟨(wrap64 (x5_1 + 1)), (by first | rfl | (simp; done) | (simp [*]; done)), H', ⟨by have := HK1.out; omega⟩, by repeat (first | exact Drawn0.refl _ | apply Drawn0.step)⟩
              · rw [if_neg c7] at H
                have c7b0 : ((rd l0 x5_1) == (rd l1 x5_1)) = false := beq_eq_false_iff_ne.mpr c7
                have c7b1 : ((rd l0 x5_1) != (rd l1 x5_1)) = true := bne_iff_ne.mpr c7
                obtain rfl := Option.some.inj H
                have p205 : 0 ≤ (x5_1 : Int) := of_decide_eq_true (by first | (with_reducible assumption) | assumption)
                have q205 : x5_1 < (l0.length : Int) := of_decide_eq_true (by first | (with_reducible assumption) | assumption)
                obtain ⟨ad205, e205, hx205_0⟩ := Kd.at_int HR0.out x5_1 p205 q205
                cases e205
                replace p205 := eq_true p205
                replace q205 := eq_true q205
                have p206 : 0 ≤ (x5_1 : Int) := of_decide_eq_true (by first | (with_reducible assumption) | assumption)
                have q206 : x5_1 < (l1.length : Int) := of_decide_eq_true (by first | (with_reducible assumption) | assumption)
                obtain ⟨ad206, e206, hx206_0⟩ := Kd.at_int HR1.out x5_1 p206 q206
                cases e206
                replace p206 := eq_true p206
                replace q206 := eq_true q206
                go_wp2
                repeat (go_quiet (fail); try go_wp2)
                go_ret
                exact ⟨by first | rfl | (simp; done) | (simp [*]; done), by repeat (first | exact Drawn0.refl _ | apply Drawn0.step)⟩
            · rw [if_neg c6] at H
              exact absurd H (by simp)
          · rw [if_neg c5] at H
            exact absurd H (by simp)
        · rw [if_neg c4] at H
          have c4b0 : decide (x5_1 < (l0.length : Int)) = false := decide_eq_false c4
          clear c4
          obtain rfl := Option.some.inj H
          go_wp2
          repeat (go_quiet (fail); try go_wp2)
          go_ret
          exact ⟨by first | rfl | (simp; done) | (simp [*]; done), by repeat (first | exact Drawn0.refl _ | apply Drawn0.step)⟩
  · rw [if_neg c3] at H
    have c3b0 : ((l0.length : Int) == (l1.length : Int)) = false := beq_eq_false_iff_ne.mpr c3
    have c3b1 : ((l0.length : Int) != (l1.length : Int)) = true := bne_iff_ne.mpr c3
    have c3b2 : (l0.length == l1.length) = false := by first | simpa using c3 | (simp at c3 ⊢; omega)
    obtain rfl := Option.some.inj H
    go_enter Try.func14, Try.ntmps14
    go_wp2
    repeat (go_quiet (fail); try go_wp2)
    go_ret
    exact ⟨by first | rfl | (simp; done) | (simp [*]; done), by repeat (first | exact Drawn0.refl _ | apply Drawn0.step)⟩

end Go.Proofs.Ytmheajenlhlbhaa.X


-- Plain laws: what Cut, Rise, Items, Ints compute, for every input.
namespace Go.Proofs.Ytmheajenlhlbhaa.X
open Go.RowKit Go.Proofs.YtmheajenlhlbhaaW.PrintWords Go.Proofs.YtmheajenlhlbhaaW.PrintLast Go.Proofs.YtmheajenlhlbhaaW.PrintMore

theorem w64n (n : Nat) (h : n < 1000000000) : wrap64 ((n : Int) + 1) = ((n + 1 : Nat) : Int) := by
  rw [show ((n : Int) + 1) = ((n + 1 : Nat) : Int) by omega]
  exact IntWalk.wrap64_in _ (by omega)
theorem w64i (x : Int) (h : -1000000000 ≤ x ∧ x ≤ 1000000000) : wrap64 x = x := IntWalk.wrap64_in _ (by omega)
theorem mn_le (a b : Int) : mn a b ≤ a := by unfold mn; split <;> omega
theorem mn_nn (a : Nat) (b : Int) (h : 0 ≤ b) : 0 ≤ mn (a : Int) b := by unfold mn; split <;> omega
theorem mn_le_r (a b : Int) : mn a b ≤ b := by unfold mn; split <;> omega

/-! ### Size -/
theorem Size_ok (a : Int) : ∃ p, withylaw16_Size.f a = some p ∧ (p = 128 ∨ p = 256 ∨ p = 512 ∨ p = 1024) := by
  unfold withylaw16_Size.f
  split
  · exact ⟨_, rfl, by omega⟩
  · split
    · exact ⟨_, rfl, by omega⟩
    · split
      · exact ⟨_, rfl, by omega⟩
      · exact ⟨_, rfl, by omega⟩

/-! ### Cut -/
def cutP (x : S30) : S30 := ⟨x.f0.extract 0 (mn (x.f0.size : Int) 140).toNat, x.f1.extract 0 (mn (x.f1.size : Int) 700).toNat⟩
theorem rd30 {l : List S30} {a : Nat} (h : a < l.length) : rd_T30 l (a : Int) = l[a] := by
  simp [rd_T30, List.getD_eq_getElem?_getD, List.getElem?_eq_getElem h]
theorem rd35 {l : List S35} {a : Nat} (h : a < l.length) : rd_T35 l (a : Int) = l[a] := by
  simp [rd_T35, List.getD_eq_getElem?_getD, List.getElem?_eq_getElem h]
theorem rdI {l : List Int} {a : Nat} (h : a < l.length) : rd l (a : Int) = l[a] := by
  simp [rd, List.getD_eq_getElem?_getD, List.getElem?_eq_getElem h]
theorem Cut_l (l : List S30) : ∀ (k a : Nat) (acc : List S30), 41 ≤ a + k → a ≤ 40 → acc.length ≤ a →
    withylaw16_Cut.l0 k l acc (a : Int) = some (acc ++ ((l.drop a).take (40 - a)).map cutP)
  | 0, a, acc, h, h1, _ => by omega
  | k + 1, a, acc, h, h1, h2 => by
    unfold withylaw16_Cut.l0
    by_cases c : a < l.length
    · rw [if_pos (by omega)]
      by_cases d : a < 40
      · rw [if_pos (by omega), if_pos (by omega), rd30 c, if_pos (mn_nn _ _ (by omega)), if_pos (mn_le _ _), if_pos (mn_nn _ _ (by omega)), if_pos (mn_le _ _), if_pos (by omega), w64n a (by omega)]
        rw [Cut_l l k (a + 1) _ (by omega) (by omega) (by simp; omega)]
        rw [List.drop_eq_getElem_cons c, show 40 - a = (40 - (a + 1)) + 1 by omega, List.take_succ_cons, List.map_cons, List.append_assoc]
        rfl
      · rw [if_neg (by omega), show 40 - a = 0 by omega]
        simp
    · rw [if_neg (by omega), List.drop_eq_nil_of_le (by omega)]
      simp
theorem Cut_ok (k : Nat) (l : List S30) (hk : 41 ≤ k) : withylaw16_Cut.f k l = some ((l.take 40).map cutP) := by
  unfold withylaw16_Cut.f
  have := Cut_l l k 0 [] (by omega) (by omega) (by simp)
  simpa using this
/-- What a pair of a short list has. -/
def Cutted (l : List S30) : Prop := l.length ≤ 40 ∧ ∀ x ∈ l, x.f0.size ≤ 140 ∧ x.f1.size ≤ 700
theorem cutP_size (x : S30) : (cutP x).f0.size ≤ 140 ∧ (cutP x).f1.size ≤ 700 := by
  unfold cutP
  simp only [ByteArray.size_extract]
  have h1 := mn_le_r (x.f0.size : Int) 140
  have h2 := mn_le_r (x.f1.size : Int) 700
  omega
theorem Cut_cutted (l : List S30) : Cutted ((l.take 40).map cutP) := by
  refine ⟨by simp; omega, fun x hx => ?_⟩
  obtain ⟨y, _, rfl⟩ := List.mem_map.mp hx
  exact cutP_size y

/-! ### Rise -/
theorem Rise_l (l : List S30) (p : Int) (hp : 0 ≤ p ∧ p ≤ 100000) (hl : Cutted l) : ∀ (k a : Nat) (acc : List S30), l.length + 1 ≤ a + k → a ≤ l.length → acc.length ≤ a → (∀ x ∈ acc, x ∈ l ∧ (x.f0.size : Int) ≤ Int.tdiv p 8) →
    ∃ r, withylaw16_Rise.l0 k l p acc (a : Int) = some r ∧ r.length ≤ l.length ∧ (∀ x ∈ r, x ∈ l ∧ (x.f0.size : Int) ≤ Int.tdiv p 8)
  | 0, a, acc, h, h1, _, _ => by omega
  | k + 1, a, acc, h, h1, h2, h3 => by
    have hl40 := hl.1
    have hw : wrap64 (Int.tdiv p 8) = Int.tdiv p 8 := w64i _ (by rw [Int.tdiv_eq_ediv_of_nonneg hp.1]; omega)
    unfold withylaw16_Rise.l0
    by_cases c : a < l.length
    · rw [if_pos (by omega), if_pos (by omega), rd30 c, hw]
      have keep := Rise_l l p hp hl k (a + 1) acc (by omega) (by omega) (by omega) h3
      have more : (l[a].f0.size : Int) ≤ Int.tdiv p 8 → ∃ r, withylaw16_Rise.l0 k l p (acc ++ [(⟨l[a].f0, l[a].f1⟩ : S30)]) ((a + 1 : Nat) : Int) = some r ∧ r.length ≤ l.length ∧ (∀ x ∈ r, x ∈ l ∧ (x.f0.size : Int) ≤ Int.tdiv p 8) := fun hs =>
        Rise_l l p hp hl k (a + 1) _ (by omega) (by omega) (by simp; omega) (fun x hx => by
          rcases List.mem_append.mp hx with hx | hx
          · exact h3 x hx
          · rw [List.mem_singleton] at hx
            subst hx
            exact ⟨List.getElem_mem c, hs⟩)
      have hw1 := w64n a (by omega)
      by_cases d : (l[a].f0.size : Int) ≤ Int.tdiv p 8
      · rw [if_pos d]
        by_cases e : acc.length = 0
        · rw [if_pos (by omega), if_pos (by omega), hw1]
          exact more d
        · rw [if_neg (by omega), w64i ((acc.length : Int) - 1) (by omega), if_pos (by omega), if_pos (by omega)]
          split
          · rw [if_pos (by omega), hw1]
            exact more d
          · rw [hw1]
            exact keep
      · rw [if_neg d, hw1]
        exact keep
    · rw [if_neg (by omega)]
      exact ⟨acc, rfl, by omega, h3⟩
theorem Rise_ok (k : Nat) (l : List S30) (p : Int) (hp : 0 ≤ p ∧ p ≤ 100000) (hk : 41 ≤ k) : ∃ r, withylaw16_Rise.f k l p = some r ∧ Cutted r ∧ (∀ x ∈ r, (x.f0.size : Int) ≤ Int.tdiv p 8) := by
  unfold withylaw16_Rise.f
  have hc := Cut_cutted l
  obtain ⟨r, h1, h2, h3⟩ := Rise_l ((l.take 40).map cutP) p hp hc k 0 [] (by have := hc.1; omega) (by omega) (by simp) (by simp)
  refine ⟨r, by rw [Cut_ok k l hk]; exact h1, ⟨by have := hc.1; omega, fun x hx => hc.2 x (h3 x hx).1⟩, fun x hx => (h3 x hx).2⟩

/-! ### Items -/
def itemOf (p at_ : Int) (x : S30) : S35 := if (x.f1.size : Int) > Int.tdiv p 4 then ⟨x.f0, ⟨true, ⟨#[]⟩, (x.f1.size : Int), at_⟩⟩ else ⟨x.f0, ⟨false, x.f1, 0, 0⟩⟩
def stepAt (p at_ : Int) (x : S30) : Int := if (x.f1.size : Int) > Int.tdiv p 4 then at_ + pagesI (x.f1.size : Int) p else at_
def itemsN (p : Int) : Int → List S30 → List S35
  | _, [] => []
  | a, x :: r => itemOf p a x :: itemsN p (stepAt p a x) r
def atN (p : Int) : Int → List S30 → Int
  | a, [] => a
  | a, x :: r => atN p (stepAt p a x) r
theorem itemsN_length (p : Int) : ∀ (l : List S30) (a : Int), (itemsN p a l).length = l.length
  | [], _ => rfl
  | x :: r, a => by simp [itemsN, itemsN_length p r]
theorem itemOf_key (p a : Int) (x : S30) : (itemOf p a x).f0 = x.f0 := by unfold itemOf; split <;> rfl
theorem itemsN_key (p : Int) : ∀ (l : List S30) (a : Int), ∀ y ∈ itemsN p a l, ∃ x ∈ l, y.f0 = x.f0
  | [], _, y, h => by simp [itemsN] at h
  | x :: r, a, y, h => by
    rcases List.mem_cons.mp h with rfl | h
    · exact ⟨x, List.mem_cons_self .., itemOf_key _ _ _⟩
    · obtain ⟨z, hz, he⟩ := itemsN_key p r _ y h
      exact ⟨z, List.mem_cons_of_mem _ hz, he⟩
theorem pagesI_bound (n p : Int) (hn : 0 ≤ n ∧ n ≤ 1000) (hp : 128 ≤ p) : 0 ≤ pagesI n p ∧ pagesI n p ≤ 1000 := by
  unfold pagesI
  rw [show mx n 0 = n by unfold mx; split <;> omega]
  have h1 : n / (p - 16) ≤ n := Int.ediv_le_self _ hn.1
  have h2 : 0 ≤ n / (p - 16) := Int.ediv_nonneg hn.1 (by omega)
  have h3 := mn_le_r (n % (p - 16)) 1
  have h4 : 0 ≤ n % (p - 16) := Int.emod_nonneg _ (by omega)
  have h5 : 0 ≤ mn (n % (p - 16)) 1 := by unfold mn; split <;> omega
  have h6 : n / (p - 16) ≤ 100 := by
    have := Int.ediv_mul_le n (show p - 16 ≠ 0 by omega)
    by_cases hh : n / (p - 16) ≤ 100
    · exact hh
    · have : 101 * (p - 16) ≤ n / (p - 16) * (p - 16) := Int.mul_le_mul_of_nonneg_right (by omega) (by omega)
      omega
  omega
theorem Items_l (l : List S30) (p : Int) (hp : 128 ≤ p ∧ p ≤ 100000) (hl : Cutted l) : ∀ (k a : Nat) (at_ : Int) (acc : List S35), l.length + 1 ≤ a + k → a ≤ l.length → acc.length ≤ a → 0 ≤ at_ → at_ ≤ 100000 + 1000 * (a : Int) →
    pack_Items.l0 k at_ p acc l (l.length : Int) (a : Int) = some (acc ++ itemsN p at_ (l.drop a), atN p at_ (l.drop a))
  | 0, a, at_, acc, h, h1, _, _, _ => by omega
  | k + 1, a, at_, acc, h, h1, h2, h3, h4 => by
    have hl40 := hl.1
    have hw : wrap64 (Int.tdiv p 4) = Int.tdiv p 4 := w64i _ (by rw [Int.tdiv_eq_ediv_of_nonneg (by omega)]; omega)
    unfold pack_Items.l0
    by_cases c : a < l.length
    · have hx := (hl.2 _ (List.getElem_mem c)).2
      have hpg := pagesI_bound (l[a].f1.size : Int) p (by omega) hp.1
      rw [if_pos (by omega), if_pos (by omega), if_pos (by omega), rd30 c, hw, w64n a (by omega), List.drop_eq_getElem_cons c]
      by_cases d : (l[a].f1.size : Int) > Int.tdiv p 4
      · rw [if_pos d, show chain_Pages.f (l[a].f1.size : Int) p = some (pagesI (l[a].f1.size : Int) p) by unfold chain_Pages.f; rw [if_pos (by omega)]]
        rw [Option.bind_some, if_pos (by omega), w64i (at_ + pagesI (l[a].f1.size : Int) p) (by omega)]
        rw [Items_l l p hp hl k (a + 1) _ _ (by omega) (by omega) (by simp; omega) (by omega) (by omega)]
        simp [itemsN, atN, itemOf, stepAt, d]
      · rw [if_neg d, if_pos (by omega)]
        rw [Items_l l p hp hl k (a + 1) _ _ (by omega) (by omega) (by simp; omega) (by omega) (by omega)]
        simp [itemsN, atN, itemOf, stepAt, d]
    · rw [if_neg (by omega), List.drop_eq_nil_of_le (by omega)]
      simp [itemsN, atN]
theorem Items_ok (k : Nat) (l : List S30) (a p : Int) (hp : 128 ≤ p ∧ p ≤ 100000) (hl : Cutted l) (ha : 0 ≤ a ∧ a ≤ 100000) (hk : 41 ≤ k) : pack_Items.f k l a p = some (itemsN p a l, atN p a l) := by
  unfold pack_Items.f
  have := Items_l l p hp hl k 0 a [] (by have := hl.1; omega) (by omega) (by simp) ha.1 (by omega)
  simpa using this

/-! ### Ints -/

/-! ### Group -/
theorem Group_ok (p a : Int) (l : List S30) (hp : 0 ≤ p ∧ p ≤ 100000) (hl : Cutted l) (n : Nat) : pack_Group.f ((itemsN p a l).drop n) p = some (groupN p ((itemsN p a l).drop n)) := by
  unfold pack_Group.f
  rw [if_pos]
  refine ⟨?_, by omega, by omega, fun y hy => ?_⟩
  · rw [List.length_drop, itemsN_length]
    have := hl.1
    omega
  · obtain ⟨x, hx, he⟩ := itemsN_key p l a y (List.mem_of_mem_drop hy)
    have := (hl.2 x hx).1
    rw [he]
    omega
theorem groupN_length (p : Int) : ∀ (d : Nat) (l : List S35), l.length ≤ d → (groupN p l).length ≤ l.length + 1
  | 0, l, hd => by
    have : l = [] := List.length_eq_zero_iff.mp (by omega)
    subst this
    rw [groupN_eq]
    have hf := firstN_bounds ([] : List S35) p
    have hz : firstN ([] : List S35) p = 0 := by simpa using hf.2
    simp [hz]
  | d + 1, l, hd => by
    have hf := firstN_bounds l p
    rw [groupN_eq]
    by_cases h : firstN l p = l.length
    · rw [if_pos h]; simp
    · rw [if_neg h]
      have := groupN_length p d (l.drop (firstN l p)) (by rw [List.length_drop]; omega)
      rw [List.length_drop] at this
      simp only [List.length_cons]
      omega
end Go.Proofs.Ytmheajenlhlbhaa.X


namespace Go.Proofs.Ytmheajenlhlbhaa.X
open Go.RowKit Go.Proofs.YtmheajenlhlbhaaW.PrintWords Go.Proofs.YtmheajenlhlbhaaW.PrintLast Go.Proofs.YtmheajenlhlbhaaW.PrintMore
attribute [local go_sem] max2_int min2_int max_two min_two max_three min_three max_four min_four   -- for this text's walks alone
set_option linter.unusedVariables false
set_option linter.unusedSimpArgs false

--GIVEN-- withy/disk.Size
/-! ### disk_Size: function 25 -/
def disk_Size.f (a0 : Int) : Option Bool := some (a0 == 128 || a0 == 256 || a0 == 512 || a0 == 1024)

set_option maxHeartbeats 400000 in
theorem disk_sizes.calls (w : World) :
    Calls Try.prog 35 #[] w fun e w' => e = .returned (.agg #[.int .i64 128, .int .i64 256, .int .i64 512, .int .i64 1024]) ∧ Below w.heap.size w w' := by
  go_enter Try.func35, Try.ntmps35
  go_wp2
  exact bodyPost_ret (v := .agg #[.int .i64 128, .int .i64 256, .int .i64 512, .int .i64 1024]) (by simp [results, Try.results35, go_sem]) rfl ⟨rfl, (Below.refl _ _).alloc (Nat.le_refl _) _⟩

set_option maxHeartbeats 1000000 in
theorem disk_Size.calls (a0 : Int) (r : Bool) (w : World) (h : disk_Size.f a0 = some r) :
    Calls Try.prog 25 #[.int .i64 a0] w fun e w' => e = .returned (.bool r) ∧ Below w.heap.size w w' := by
  have i0 : ∀ w, (Instr.index 70 (.agg #[.int .i64 128, .int .i64 256, .int .i64 512, .int .i64 1024]) (.int .i64 0)).run Try.prog w = .ok (.int .i64 128) w := fun _ => by kernel_rfl
  have i1 : ∀ w, (Instr.index 70 (.agg #[.int .i64 128, .int .i64 256, .int .i64 512, .int .i64 1024]) (.int .i64 1)).run Try.prog w = .ok (.int .i64 256) w := fun _ => by kernel_rfl
  have i2 : ∀ w, (Instr.index 70 (.agg #[.int .i64 128, .int .i64 256, .int .i64 512, .int .i64 1024]) (.int .i64 2)).run Try.prog w = .ok (.int .i64 512) w := fun _ => by kernel_rfl
  have i3 : ∀ w, (Instr.index 70 (.agg #[.int .i64 128, .int .i64 256, .int .i64 512, .int .i64 1024]) (.int .i64 3)).run Try.prog w = .ok (.int .i64 1024) w := fun _ => by kernel_rfl
  have Hr : Aside0 (r = (a0 == 128 || a0 == 256 || a0 == 512 || a0 == 1024)) := ⟨by simpa [disk_Size.f] using h.symm⟩
  clear h
  go_enter Try.func25, Try.ntmps25
  go_wp2_with (go_at_call 35; refine (disk_sizes.calls _).mono ?_; rintro e w1 ⟨rfl, hb⟩)
  have HB := Aside0.mk hb
  clear hb
  go_loop [6] (fun i => ∃ k : Nat, k ≤ 4 ∧ i = .int .i64 k ∧ Aside0 ((k = 0) ∨ (k = 1 ∧ a0 ≠ 128) ∨ (k = 2 ∧ a0 ≠ 128 ∧ a0 ≠ 256) ∨ (k = 3 ∧ a0 ≠ 128 ∧ a0 ≠ 256 ∧ a0 ≠ 512) ∨ (k = 4 ∧ a0 ≠ 128 ∧ a0 ≠ 256 ∧ a0 ≠ 512 ∧ a0 ≠ 1024))) (fun i => 4 - (intOf i).toNat)
  case atStart => exact ⟨0, by omega, rfl, ⟨.inl rfl⟩⟩
  case round =>
    obtain ⟨k, hk, rfl, HK⟩ := hrel
    rcases HK.out with h | h | h | h | h
    · obtain rfl := h
      clear HK hk
      by_cases c : a0 = 128
      · subst c
        go_wp2
        go_ret
        exact ⟨by rw [Hr.out]; rfl, HB.out⟩
      · have HC := Aside0.mk c
        have c1 : (128 == a0) = false := by simpa using Ne.symm c
        clear c
        go_wp2
        go_round
        case rel => exact ⟨1, by omega, rfl, ⟨.inr (.inl ⟨rfl, HC.out⟩)⟩⟩
        case measure => simp [intOf]
    · obtain ⟨rfl, n0⟩ := h
      clear HK hk
      have N0 := Aside0.mk n0
      clear n0
      by_cases c : a0 = 256
      · subst c
        go_wp2
        go_ret
        exact ⟨by rw [Hr.out]; rfl, HB.out⟩
      · have HC := Aside0.mk c
        have c1 : (256 == a0) = false := by simpa using Ne.symm c
        clear c
        go_wp2
        go_round
        case rel => exact ⟨2, by omega, rfl, ⟨.inr (.inr (.inl ⟨rfl, N0.out, HC.out⟩))⟩⟩
        case measure => simp [intOf]
    · obtain ⟨rfl, n0, n1⟩ := h
      clear HK hk
      have N0 := Aside0.mk n0
      clear n0
      have N1 := Aside0.mk n1
      clear n1
      by_cases c : a0 = 512
      · subst c
        go_wp2
        go_ret
        exact ⟨by rw [Hr.out]; rfl, HB.out⟩
      · have HC := Aside0.mk c
        have c1 : (512 == a0) = false := by simpa using Ne.symm c
        clear c
        go_wp2
        go_round
        case rel => exact ⟨3, by omega, rfl, ⟨.inr (.inr (.inr (.inl ⟨rfl, N0.out, N1.out, HC.out⟩)))⟩⟩
        case measure => simp [intOf]
    · obtain ⟨rfl, n0, n1, n2⟩ := h
      clear HK hk
      have N0 := Aside0.mk n0
      clear n0
      have N1 := Aside0.mk n1
      clear n1
      have N2 := Aside0.mk n2
      clear n2
      by_cases c : a0 = 1024
      · subst c
        go_wp2
        go_ret
        exact ⟨by rw [Hr.out]; rfl, HB.out⟩
      · have HC := Aside0.mk c
        have c1 : (1024 == a0) = false := by simpa using Ne.symm c
        clear c
        go_wp2
        go_round
        case rel => exact ⟨4, by omega, rfl, ⟨.inr (.inr (.inr (.inr (⟨rfl, N0.out, N1.out, N2.out, HC.out⟩))))⟩⟩
        case measure => simp [intOf]
    · obtain ⟨rfl, n0, n1, n2, n3⟩ := h
      clear HK hk
      have HR2 : Aside0 (r = false) := ⟨by rw [Hr.out]; simp [n0, n1, n2, n3]⟩
      clear n0 n1 n2 n3
      go_wp2
      go_ret
      exact ⟨by rw [HR2.out]; rfl, HB.out⟩


end Go.Proofs.Ytmheajenlhlbhaa.X


namespace Go.Proofs.Ytmheajenlhlbhaa.X
open Go.RowKit Go.Proofs.YtmheajenlhlbhaaW.PrintWords Go.Proofs.YtmheajenlhlbhaaW.PrintLast Go.Proofs.YtmheajenlhlbhaaW.PrintMore
attribute [local go_sem] max2_int min2_int max_two min_two max_three min_three max_four min_four   -- for this text's walks alone
set_option linter.unusedVariables false
set_option linter.unusedSimpArgs false

/-! ### leaf_number: function 37 -/
def leaf_number.f (a0 : Int) : Option (Bool) := if a0 ≥ 1 then (some (decide (a0 < 4096))) else (some false)
set_option maxHeartbeats 8000000 in
set_option maxRecDepth 100000 in
theorem leaf_number.calls (a0 : Int) (r : Bool) (w : World) (h : leaf_number.f a0 = some r) :
    Calls Try.prog 37 #[.int .i64 a0] w fun e w' => e = .returned (.bool r) ∧ Drawn0 w w' := by
  have H : (if a0 ≥ 1 then (some (decide (a0 < 4096))) else (some false)) = some r := h
  clear h
  by_cases c2 : a0 ≥ 1
  · rw [if_pos c2] at H
    have c2b0 : decide (1 ≤ a0) = true := decide_eq_true c2
    clear c2
    obtain rfl := Option.some.inj H
    go_enter Try.func37, Try.ntmps37
    go_wp2
    go_ret
    exact ⟨by first | rfl | (simp; done) | (simp [*]; done), by repeat (first | exact Drawn0.refl _ | apply Drawn0.step)⟩
  · rw [if_neg c2] at H
    have c2b0 : decide (1 ≤ a0) = false := decide_eq_false c2
    clear c2
    obtain rfl := Option.some.inj H
    go_enter Try.func37, Try.ntmps37
    go_wp2
    go_ret
    exact ⟨by first | rfl | (simp; done) | (simp [*]; done), by repeat (first | exact Drawn0.refl _ | apply Drawn0.step)⟩

end Go.Proofs.Ytmheajenlhlbhaa.X


namespace Go.Proofs.Ytmheajenlhlbhaa.X
open Go.RowKit Go.Proofs.YtmheajenlhlbhaaW.PrintWords Go.Proofs.YtmheajenlhlbhaaW.PrintLast Go.Proofs.YtmheajenlhlbhaaW.PrintMore
attribute [local go_sem] max2_int min2_int max_two min_two max_three min_three max_four min_four   -- for this text's walks alone
set_option linter.unusedVariables false
set_option linter.unusedSimpArgs false

/-! ### leaf_value: function 38 -/
def leaf_value.f (a0_0 : Bool) (a0_1 : ByteArray) (a0_2 : Int) (a0_3 : Int) (a1 : Int) : Option (Bool) := (cell_Right.f a0_0 a0_1 a0_2 a0_3).bind fun t308 => (if t308 = true then (some (a0_0 == (decide ((mx a0_2 (a0_1.size : Int)) > (wrap64 (Int.tdiv a1 4)))))) else (some false))
set_option maxHeartbeats 8000000 in
set_option maxRecDepth 100000 in
theorem leaf_value.calls (a0_0 : Bool) (a0_1 : ByteArray) (a0_2 : Int) (a0_3 : Int) (a1 : Int) (r : Bool) (w : World) (h : leaf_value.f a0_0 a0_1 a0_2 a0_3 a1 = some r) :
    Calls Try.prog 38 #[.agg #[.bool a0_0, .string a0_1, .int .i64 a0_2, .int .i64 a0_3], .int .i64 a1] w fun e w' => e = .returned (.bool r) ∧ Below w.heap.size w w' := by
  have hu32 := Try.underlying32
  have HB := Aside0.mk (Below.refl w.heap.size w)
  have H : ((cell_Right.f a0_0 a0_1 a0_2 a0_3).bind fun t308 => (if t308 = true then (some (a0_0 == (decide ((mx a0_2 (a0_1.size : Int)) > (wrap64 (Int.tdiv a1 4)))))) else (some false))) = some r := h
  clear h
  replace H := Option.bind_eq_some_iff.mp H
  obtain ⟨t308, A30, H⟩ := H
  replace H : (if t308 = true then (some (a0_0 == (decide ((mx a0_2 (a0_1.size : Int)) > (wrap64 (Int.tdiv a1 4)))))) else (some false)) = some r := H
  have A3 := Aside0.mk A30
  clear A30
  by_cases c4 : t308 = true
  · subst c4
    have H1 : (some (a0_0 == (decide ((mx a0_2 (a0_1.size : Int)) > (wrap64 (Int.tdiv a1 4)))))) = some r := by rw [if_pos rfl] at H; exact H
    clear H
    have H := H1
    clear H1
    obtain ⟨ji5, hji5⟩ : ∃ j_ : Int, (mx a0_2 (a0_1.size : Int)) = j_ := ⟨_, rfl⟩
    replace H : (some (a0_0 == (decide ((ji5) > (wrap64 (Int.tdiv a1 4)))))) = some r := by first | (rw [hji5] at H; exact H) | (simp only [hji5] at H ⊢; exact H)
    (try rw [hji5] at A3)
    (try (have hji5l : 0 ≤ ji5 := by (rw [← hji5]; unfold mx; (repeat' split) <;> omega)))
    (try (have hji5m : 0 ≤ ji5 := by omega))
    have hji5_ : (if a0_2 < (a0_1.size : Int) then (a0_1.size : Int) else a0_2) = ji5 := hji5
    obtain rfl := Option.some.inj H
    go_enter Try.func38, Try.ntmps38
    go_wp2_with (first | ((with_reducible refine gate_dst (N := 2) rfl ?_); (try (refine gate_guard (by rfl) ?_; dsimp only)); refine box_event ?hg (N := 2) ?hd (cs := #[.bool a0_0, .string a0_1, .int .i64 a0_2, .int .i64 a0_3]) (t := 32) ?hr ?_; (case hd => rfl); (case hg => rfl); (case hr => first | (go_simp; done) | (go_simp; rfl)); intro gb307 hg w6 hbox hb; have n0_ := Aside0.mk (below_step (by repeat (first | (with_reducible first | exact HB.out | apply below_alloc | apply pw_below_drewN | apply below_drew1) | exact HB.out)) hb); have n1_ := Aside0.mk (hbox); have n2_ := Aside0.mk ((by rw [hg]; exact (below_size (by repeat (first | (with_reducible first | exact HB.out | apply below_alloc | apply pw_below_drewN | apply below_drew1) | exact HB.out))) : w.heap.size ≤ gb307)); have n3_ := Aside0.mk ((by rw [hg]; exact (below_size (by repeat (first | (with_reducible first | exact HB.out | apply below_alloc | apply pw_below_drewN | apply below_drew1) | exact HB.out))) : w.heap.size ≤ gb307)); clear HB; have HB := n0_; have BK307 := n1_; have GW307 := n2_; have GE307 := n3_; clear n0_ n1_ n2_ n3_; clear hb hbox hg; have hcz7_0 : w6.cell? ⟨gb307, 0, none⟩ = some (.bool a0_0) := (blk_cell BK307.out 0).trans rfl; have hcz7_1 : w6.cell? ⟨gb307, 1, none⟩ = some (.string a0_1) := (blk_cell BK307.out 1).trans rfl; have hcz7_2 : w6.cell? ⟨gb307, 2, none⟩ = some (.int .i64 a0_2) := (blk_cell BK307.out 2).trans rfl; have hcz7_3 : w6.cell? ⟨gb307, 3, none⟩ = some (.int .i64 a0_3) := (blk_cell BK307.out 3).trans rfl; have hfz7_0 := blk_frozen BK307.out 0; have hfz7_1 := blk_frozen BK307.out 1; have hfz7_2 := blk_frozen BK307.out 2; have hfz7_3 := blk_frozen BK307.out 3) | ((with_reducible refine gate_callee (f := 11) rfl ?_); refine goesL_ (some 6) rfl rfl Try.func11 (by kernel_rfl) rfl #[.agg #[.bool a0_0, .string a0_1, .int .i64 a0_2, .int .i64 a0_3]] rfl (by (try simp only [List.map_toArray, List.map_cons, List.map_nil]); first | done | rfl | (simp only [List.length_drop, List.length_take]; rfl)) ?_; (with_reducible refine (cell_Right.calls a0_0 a0_1 a0_2 a0_3 true _ A3.out).mono ?_); rintro e w8 ⟨rfl, hb⟩; refine ⟨_, rfl, ?_⟩; have n0_ := Aside0.mk (blk_below (g := gb307) (o := .cells #[.bool a0_0, .string a0_1, .int .i64 a0_2, .int .i64 a0_3] 32 (0, 0)) (by (with_reducible repeat (first | refine blk_drewN ?_ _ | refine blk_drew ?_ | refine blk_alloc ?_ _)); exact BK307.out) hb); have n1_ := Aside0.mk (below_step (by repeat (first | (with_reducible first | exact HB.out | apply below_alloc | apply pw_below_drewN | apply below_drew1 | refine below_set ?_ GE307.out) | exact HB.out)) hb); clear BK307; clear HB; have BK307 := n0_; have HB := n1_; clear n0_ n1_; (try clear hb); (try clear hb2); (try clear hk); (try clear hi); have hcz9_0 : w8.cell? ⟨gb307, 0, none⟩ = some (.bool a0_0) := (blk_cell BK307.out 0).trans rfl; have hcz9_1 : w8.cell? ⟨gb307, 1, none⟩ = some (.string a0_1) := (blk_cell BK307.out 1).trans rfl; have hcz9_2 : w8.cell? ⟨gb307, 2, none⟩ = some (.int .i64 a0_2) := (blk_cell BK307.out 2).trans rfl; have hcz9_3 : w8.cell? ⟨gb307, 3, none⟩ = some (.int .i64 a0_3) := (blk_cell BK307.out 3).trans rfl; have hfz9_0 := blk_frozen BK307.out 0; have hfz9_1 := blk_frozen BK307.out 1; have hfz9_2 := blk_frozen BK307.out 2; have hfz9_3 := blk_frozen BK307.out 3))
    go_ret
    exact ⟨by first | rfl | (simp [errW_none, errW_some] <;> rfl) | (simp only [← hji5]; first | rfl | (simp [errW_none, errW_some] <;> rfl)) | (simp [*, errW_none, errW_some] <;> rfl), by repeat (first | (with_reducible first | exact HB.out | apply below_alloc | apply pw_below_drewN | apply below_drew1 | refine below_set ?_ GE307.out) | exact HB.out)⟩
  · replace c4 := Bool.eq_false_iff.mpr c4
    subst c4
    have H1 : (some false) = some r := by rw [if_neg (show ¬ (false = true) by decide)] at H; exact H
    clear H
    have H := H1
    clear H1
    obtain rfl := Option.some.inj H
    go_enter Try.func38, Try.ntmps38
    go_wp2_with (first | ((with_reducible refine gate_dst (N := 2) rfl ?_); (try (refine gate_guard (by rfl) ?_; dsimp only)); refine box_event ?hg (N := 2) ?hd (cs := #[.bool a0_0, .string a0_1, .int .i64 a0_2, .int .i64 a0_3]) (t := 32) ?hr ?_; (case hd => rfl); (case hg => rfl); (case hr => first | (go_simp; done) | (go_simp; rfl)); intro gb307 hg w10 hbox hb; have n0_ := Aside0.mk (below_step (by repeat (first | (with_reducible first | exact HB.out | apply below_alloc | apply pw_below_drewN | apply below_drew1) | exact HB.out)) hb); have n1_ := Aside0.mk (hbox); have n2_ := Aside0.mk ((by rw [hg]; exact (below_size (by repeat (first | (with_reducible first | exact HB.out | apply below_alloc | apply pw_below_drewN | apply below_drew1) | exact HB.out))) : w.heap.size ≤ gb307)); have n3_ := Aside0.mk ((by rw [hg]; exact (below_size (by repeat (first | (with_reducible first | exact HB.out | apply below_alloc | apply pw_below_drewN | apply below_drew1) | exact HB.out))) : w.heap.size ≤ gb307)); clear HB; have HB := n0_; have BK307 := n1_; have GW307 := n2_; have GE307 := n3_; clear n0_ n1_ n2_ n3_; clear hb hbox hg; have hcz11_0 : w10.cell? ⟨gb307, 0, none⟩ = some (.bool a0_0) := (blk_cell BK307.out 0).trans rfl; have hcz11_1 : w10.cell? ⟨gb307, 1, none⟩ = some (.string a0_1) := (blk_cell BK307.out 1).trans rfl; have hcz11_2 : w10.cell? ⟨gb307, 2, none⟩ = some (.int .i64 a0_2) := (blk_cell BK307.out 2).trans rfl; have hcz11_3 : w10.cell? ⟨gb307, 3, none⟩ = some (.int .i64 a0_3) := (blk_cell BK307.out 3).trans rfl; have hfz11_0 := blk_frozen BK307.out 0; have hfz11_1 := blk_frozen BK307.out 1; have hfz11_2 := blk_frozen BK307.out 2; have hfz11_3 := blk_frozen BK307.out 3) | ((with_reducible refine gate_callee (f := 11) rfl ?_); refine goesL_ (some 6) rfl rfl Try.func11 (by kernel_rfl) rfl #[.agg #[.bool a0_0, .string a0_1, .int .i64 a0_2, .int .i64 a0_3]] rfl (by (try simp only [List.map_toArray, List.map_cons, List.map_nil]); first | done | rfl | (simp only [List.length_drop, List.length_take]; rfl)) ?_; (with_reducible refine (cell_Right.calls a0_0 a0_1 a0_2 a0_3 false _ A3.out).mono ?_); rintro e w12 ⟨rfl, hb⟩; refine ⟨_, rfl, ?_⟩; have n0_ := Aside0.mk (blk_below (g := gb307) (o := .cells #[.bool a0_0, .string a0_1, .int .i64 a0_2, .int .i64 a0_3] 32 (0, 0)) (by (with_reducible repeat (first | refine blk_drewN ?_ _ | refine blk_drew ?_ | refine blk_alloc ?_ _)); exact BK307.out) hb); have n1_ := Aside0.mk (below_step (by repeat (first | (with_reducible first | exact HB.out | apply below_alloc | apply pw_below_drewN | apply below_drew1 | refine below_set ?_ GE307.out) | exact HB.out)) hb); clear BK307; clear HB; have BK307 := n0_; have HB := n1_; clear n0_ n1_; (try clear hb); (try clear hb2); (try clear hk); (try clear hi)))
    go_ret
    exact ⟨by first | rfl | (simp [errW_none, errW_some] <;> rfl) | (simp [*, errW_none, errW_some] <;> rfl), by repeat (first | (with_reducible first | exact HB.out | apply below_alloc | apply pw_below_drewN | apply below_drew1 | refine below_set ?_ GE307.out) | exact HB.out)⟩

end Go.Proofs.Ytmheajenlhlbhaa.X


namespace Go.Proofs.Ytmheajenlhlbhaa.X
open Go.RowKit Go.Proofs.YtmheajenlhlbhaaW.PrintWords Go.Proofs.YtmheajenlhlbhaaW.PrintLast Go.Proofs.YtmheajenlhlbhaaW.PrintMore
attribute [local go_sem] max2_int min2_int max_two min_two max_three min_three max_four min_four   -- for this text's walks alone
set_option linter.unusedVariables false
set_option linter.unusedSimpArgs false

--GIVEN-- errors.Is
/-! ### errors_Is: function 62 -/
/-! errors.Is over what this program's own faults hold: nil, a number, a text, and two joined. -/
theorem is_typeOf (v : Value) (w : World) : (Extern.ReflectliteType.typeOf #[.iface 47 v]).run Try.prog w = .ok (.iface 132 (.agg #[.pointer (some ⟨1, 47, none⟩)])) w := by kernel_rfl
theorem run_comparable (w : World) : (callFunc 102 #[.agg #[.pointer (some ⟨1, 47, none⟩)]]).run Try.prog w = .ok (.value (.bool true)) w := by kernel_rfl
theorem is_methodComparable (d : Nat) (v : Value) (w : World) : (Go.method (d + 1) 132 v "Comparable").run Try.prog w = .ok (102, v) w := by kernel_rfl
theorem is_methodUnwrap (d : Nat) (v : Value) (w : World) : (Go.method (d + 1) 142 v "Unwrap").run Try.prog w = .ok (112, v) w := by kernel_rfl
theorem is_comp : (Try.prog.info? 47).map (·.comparable) = some true := by kernel_rfl
theorem noIs_str (v : Value) (xT : TypeId) (w : World) : (Instr.typeAssert (.iface 145 v) xT 134 true).run Try.prog w = .ok (.tuple #[.nilIface, .bool false]) w := run_typeAssert_lacksB Try.underlying134 (by kernel_rfl) (by kernel_rfl) v xT w
theorem noIs_no (v : Value) (xT : TypeId) (w : World) : (Instr.typeAssert (.iface 47 v) xT 134 true).run Try.prog w = .ok (.tuple #[.nilIface, .bool false]) w := run_typeAssert_lacksB Try.underlying134 (by kernel_rfl) (by kernel_rfl) v xT w
theorem noIs_join (v : Value) (xT : TypeId) (w : World) : (Instr.typeAssert (.iface 142 v) xT 134 true).run Try.prog w = .ok (.tuple #[.nilIface, .bool false]) w := run_typeAssert_lacksB Try.underlying134 (by kernel_rfl) (by kernel_rfl) v xT w
theorem noUn_str (v : Value) (xT : TypeId) (w : World) : (Instr.typeAssert (.iface 145 v) xT 137 true).run Try.prog w = .ok (.tuple #[.nilIface, .bool false]) w := run_typeAssert_lacksB Try.underlying137 (by kernel_rfl) (by kernel_rfl) v xT w
theorem noUn_no (v : Value) (xT : TypeId) (w : World) : (Instr.typeAssert (.iface 47 v) xT 137 true).run Try.prog w = .ok (.tuple #[.nilIface, .bool false]) w := run_typeAssert_lacksB Try.underlying137 (by kernel_rfl) (by kernel_rfl) v xT w
theorem noUn_join (v : Value) (xT : TypeId) (w : World) : (Instr.typeAssert (.iface 142 v) xT 137 true).run Try.prog w = .ok (.tuple #[.nilIface, .bool false]) w := run_typeAssert_lacksB Try.underlying137 (by kernel_rfl) (by kernel_rfl) v xT w
theorem noUs_str (v : Value) (xT : TypeId) (w : World) : (Instr.typeAssert (.iface 145 v) xT 139 true).run Try.prog w = .ok (.tuple #[.nilIface, .bool false]) w := run_typeAssert_lacksB Try.underlying139 (by kernel_rfl) (by kernel_rfl) v xT w
theorem noUs_no (v : Value) (xT : TypeId) (w : World) : (Instr.typeAssert (.iface 47 v) xT 139 true).run Try.prog w = .ok (.tuple #[.nilIface, .bool false]) w := run_typeAssert_lacksB Try.underlying139 (by kernel_rfl) (by kernel_rfl) v xT w
theorem hasUs_join (v : Value) (xT : TypeId) (w : World) : (Instr.typeAssert (.iface 142 v) xT 139 true).run Try.prog w = .ok (.tuple #[.iface 142 v, .bool true]) w := run_typeAssert_hasB Try.underlying139 (by kernel_rfl) v xT w
theorem eql_str_no (x y : Value) (w : World) : (binOp .eql 84 (.iface 145 x) (.iface 47 y)).run Try.prog w = .ok (.bool false) w := run_eql_iface_types (P := Try.prog) _ _ x y Try.underlying84 (by decide) w
theorem eql_join_no (x y : Value) (w : World) : (binOp .eql 84 (.iface 142 x) (.iface 47 y)).run Try.prog w = .ok (.bool false) w := run_eql_iface_types (P := Try.prog) _ _ x y Try.underlying84 (by decide) w
theorem eql_no_no (a b : Int) (w : World) : (binOp .eql 84 (.iface 47 (.int .i64 a)) (.iface 47 (.int .i64 b))).run Try.prog w = .ok (.bool (a == b)) w := Lib.run_eql_iface_int w a b Try.underlying84 is_comp Try.underlying47
/-- A text's error is no number. -/
theorem is_str (v : Value) (t : Int) (w : World) :
    Calls Try.prog 73 #[.iface 145 v, .iface 47 (.int .i64 t), .bool true] w fun e w' => e = .returned (.bool false) ∧ w' = w := by
  have h1 := noIs_str
  have h2 := noUn_str
  have h3 := noUs_str
  have h4 := eql_str_no
  go_enter Try.func73, Try.ntmps73
  go_wp2
  refine wp_loop_rounds 1 ?_
  rw [rounds_succ]
  go_wp2
  go_ret
  exact ⟨rfl, rfl⟩
theorem is_no_same (t : Int) (w : World) :
    Calls Try.prog 73 #[.iface 47 (.int .i64 t), .iface 47 (.int .i64 t), .bool true] w fun e w' => e = .returned (.bool true) ∧ w' = w := by
  have h4 := eql_no_no t t
  have h5 : (t == t) = true := by simp
  rw [h5] at h4
  clear h5
  go_enter Try.func73, Try.ntmps73
  go_wp2
  refine wp_loop_rounds 1 ?_
  rw [rounds_succ]
  go_wp2
  go_ret
  exact ⟨rfl, rfl⟩
theorem is_no_other (a t : Int) (w : World) (h : a ≠ t) :
    Calls Try.prog 73 #[.iface 47 (.int .i64 a), .iface 47 (.int .i64 t), .bool true] w fun e w' => e = .returned (.bool false) ∧ w' = w := by
  have h4 := eql_no_no a t
  have h5 : (a == t) = false := by simpa using h
  rw [h5] at h4
  clear h5 h
  have h1 := noIs_no
  have h2 := noUn_no
  have h3 := noUs_no
  go_enter Try.func73, Try.ntmps73
  go_wp2
  refine wp_loop_rounds 1 ?_
  rw [rounds_succ]
  go_wp2
  go_ret
  exact ⟨rfl, rfl⟩
theorem is_no (a t : Int) (w : World) :
    Calls Try.prog 73 #[.iface 47 (.int .i64 a), .iface 47 (.int .i64 t), .bool true] w fun e w' => e = .returned (.bool (a == t)) ∧ w' = w := by
  by_cases h : a = t
  · subst h
    rw [show (a == a) = true by simp]
    exact is_no_same a w
  · rw [show (a == t) = false by simpa using h]
    exact is_no_other a t w h
theorem join_unwrap (p : Addr) (v : Value) (w : World) (h : w.cell? p = some v) :
    Calls Try.prog 112 #[.pointer (some p)] w fun e w' => e = .returned v ∧ w' = w := by
  obtain ⟨b, o, s⟩ := p
  go_enter Try.func112, Try.ntmps112
  go_wp2
  go_ret
  exact ⟨rfl, rfl⟩
/-- What head's faults are: a text and a number, joined. -/
structure JoinOf (w : World) (v : Value) (a : Int) : Prop where
  is : ∃ (p : Addr) (R : Nat) (c : Nat) (s : Value), v = .iface 142 (.pointer (some p)) ∧ 2 ≤ c ∧ w.cell? p = some (.slice (some ⟨R, 0, none⟩) 2 c) ∧ w.cell? ⟨R, 0, none⟩ = some (.iface 145 s) ∧ w.cell? ⟨R, 1, none⟩ = some (.iface 47 (.int .i64 a))
theorem JoinOf.below {w w' : World} {v : Value} {a : Int} (h : JoinOf w v a) (hb : Below w.heap.size w w') : JoinOf w' v a := by
  obtain ⟨p, R, c, s, h1, hc, h2, h3, h4⟩ := h.is
  exact ⟨p, R, c, s, h1, hc, (hb.cell (World.block_lt_of_cell? w _ h2)).trans h2, (hb.cell (World.block_lt_of_cell? w _ h3)).trans h3, (hb.cell (World.block_lt_of_cell? w _ h4)).trans h4⟩
set_option maxHeartbeats 1000000 in
theorem is_join (v : Value) (a t : Int) (w : World) (h : JoinOf w v a) :
    Calls Try.prog 73 #[v, .iface 47 (.int .i64 t), .bool true] w fun e w' => e = .returned (.bool (a == t)) ∧ w' = w := by
  obtain ⟨p, R, c, s, rfl, hcap, hp, h0, h1⟩ := h.is
  clear h
  have n1 := noIs_join
  have n2 := noUn_join
  have n3 := hasUs_join
  have n4 := eql_join_no
  have n5 := is_methodUnwrap
  have HP := Aside0.mk hp
  clear hp
  obtain ⟨q, hq⟩ : ∃ q, (a == t) = q := ⟨_, rfl⟩
  have HQ := Aside0.mk hq
  rw [hq]
  clear hq
  cases q
  all_goals
    go_enter Try.func73, Try.ntmps73
    go_wp2
    refine wp_loop_rounds 1 ?_
    rw [rounds_succ]
    go_wp2_with (first | (go_at_call 112; refine (join_unwrap p _ _ HP.out).mono ?_; rintro e w' ⟨rfl, rfl⟩))
    refine wp_loop_rounds 3 ?_
    rw [rounds_succ]
    go_wp2_with (first | (go_at_call 73; refine (is_str s t _).mono ?_; rintro e w' ⟨rfl, rfl⟩))
    rw [rounds_succ]
    go_wp2_with (first | (go_at_call 73; refine (is_no a t _).mono ?_; rintro e w' ⟨rfl, rfl⟩; rw [HQ.out]))
    try rw [rounds_succ]
    try go_wp2
    go_ret
    exact ⟨rfl, rfl⟩
theorem Is_nil (t : Int) (w : World) :
    Calls Try.prog 62 #[.nilIface, .iface 47 (.int .i64 t)] w fun e w' => e = .returned (.bool false) ∧ w' = w := by
  have hn := run_eql_iface_nil_left (P := Try.prog) w 47 (.int .i64 t) Try.underlying84
  go_enter Try.func62, Try.ntmps62
  go_wp2
  go_ret
  exact ⟨rfl, rfl⟩
set_option maxHeartbeats 1000000 in
theorem Is_join (v : Value) (a t : Int) (w : World) (h : JoinOf w v a) :
    Calls Try.prog 62 #[v, .iface 47 (.int .i64 t)] w fun e w' => e = .returned (.bool (a == t)) ∧ w' = w := by
  have HJ := Aside0.mk h
  obtain ⟨p, R, c, s, rfl, hcap, hp, h0, h1⟩ := h.is
  clear h hp h0 h1 hcap
  obtain ⟨q, hq⟩ : ∃ q, (a == t) = q := ⟨_, rfl⟩
  have HQ := Aside0.mk hq
  rw [hq]
  clear hq
  have h8 := @Go.run_callFunc_extern Try.prog 72 _ Extern.ReflectliteType.typeOf Try.func72 (by kernel_rfl) (by kernel_rfl) (by kernel_rfl) (by kernel_rfl)
  have h32 := run_comparable
  have tT := is_typeOf
  have mR := is_methodComparable
  go_enter Try.func62, Try.ntmps62
  go_wp2_with (first | (go_at_call 73; refine (is_join _ a t _ HJ.out).mono ?_; rintro e w' ⟨rfl, rfl⟩; rw [HQ.out]))
  go_ret
  exact ⟨rfl, rfl⟩


end Go.Proofs.Ytmheajenlhlbhaa.X

