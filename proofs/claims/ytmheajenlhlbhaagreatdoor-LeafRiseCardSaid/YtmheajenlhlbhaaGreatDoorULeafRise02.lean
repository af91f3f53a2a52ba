/- What functions of the given program compute, step by step: the walks that the law LeafRise leans on, part 2. No conditions. -/
import Derived.Test.YtmheajenlhlbhaaGreatDoorULeafRise01
namespace Go.Proofs.YtmheajenlhlbhaaGreatDoor.X
open Go.RowKit Go.Proofs.YtmheajenlhlbhaaGreatDoorW.PrintWords Go.Proofs.YtmheajenlhlbhaaGreatDoorW.PrintLast Go.Proofs.YtmheajenlhlbhaaGreatDoorW.PrintMore
attribute [local go_sem] max2_int min2_int max_two min_two max_three min_three max_four min_four   -- for this text's walks alone
set_option linter.unusedVariables false
set_option linter.unusedSimpArgs false

def head_Right.f (k : Nat) (a0_0 : Int) (a0_1 : Int) (a0_2 : Int) (a0_3 : Int) (a0_4 : Int) : Option (Bool) := if a0_0 ≥ 1 then (if a0_0 < 5 then ((head_within.f k 256 (([a0_1] : List Int))).bind fun t106 => (if t106 = true then ((head_within.f k 65536 (([a0_2] : List Int))).bind fun t110 => (if t110 = true then ((head_within.f k 4096 (([a0_3, a0_4] : List Int))).bind fun t114 => (some t114)) else (some false))) else (some false))) else (some false)) else (some false)
set_option maxHeartbeats 8000000 in
set_option maxRecDepth 100000 in
theorem head_Right.calls (k : Nat) (a0_0 : Int) (a0_1 : Int) (a0_2 : Int) (a0_3 : Int) (a0_4 : Int) (r : Bool) (w : World) (h : head_Right.f k a0_0 a0_1 a0_2 a0_3 a0_4 = some r) :
    Calls Tryz.prog 180 #[.agg #[.int .i64 a0_0, .int .i64 a0_1, .int .i64 a0_2, .int .i64 a0_3, .int .i64 a0_4]] w fun e w' => e = .returned (.bool r) ∧ Below w.heap.size w w' := by
  have hu82 := Tryz.underlying82
  have HB := Aside0.mk (Below.refl w.heap.size w)
  have H : (if a0_0 ≥ 1 then (if a0_0 < 5 then ((head_within.f k 256 (([a0_1] : List Int))).bind fun t106 => (if t106 = true then ((head_within.f k 65536 (([a0_2] : List Int))).bind fun t110 => (if t110 = true then ((head_within.f k 4096 (([a0_3, a0_4] : List Int))).bind fun t114 => (some t114)) else (some false))) else (some false))) else (some false)) else (some false)) = some r := h
  clear h
  by_cases c2 : a0_0 ≥ 1
  · rw [if_pos c2] at H
    have c2b0 : decide (1 ≤ a0_0) = true := decide_eq_true c2
    clear c2
    by_cases c3 : a0_0 < 5
    · rw [if_pos c3] at H
      have c3b0 : decide (a0_0 < 5) = true := decide_eq_true c3
      clear c3
      obtain ⟨y103, hy103⟩ : ∃ y_ : List Int, y_ = (([a0_1] : List Int)) := ⟨_, rfl⟩
      replace H : ((head_within.f k 256 y103).bind fun t106 => (if t106 = true then ((head_within.f k 65536 (([a0_2] : List Int))).bind fun t110 => (if t110 = true then ((head_within.f k 4096 (([a0_3, a0_4] : List Int))).bind fun t114 => (some t114)) else (some false))) else (some false))) = some r := by first | (rw [hy103]; with_reducible exact H) | (have H2_ := (Option.bind_some _ _).symm.trans H; rw [hy103]; with_reducible exact H2_) | (have H2_ := (Option.bind_some _ _).symm.trans H; with_reducible exact H2_) | with_reducible exact H | (rw [hy103]; exact H) | exact H
      have Ny103 := Aside0.mk hy103
      clear hy103
      replace H := Option.bind_eq_some_iff.mp H
      obtain ⟨t106, A40, H⟩ := H
      replace H : (if t106 = true then ((head_within.f k 65536 (([a0_2] : List Int))).bind fun t110 => (if t110 = true then ((head_within.f k 4096 (([a0_3, a0_4] : List Int))).bind fun t114 => (some t114)) else (some false))) else (some false)) = some r := H
      have A4 := Aside0.mk A40
      clear A40
      by_cases c5 : t106 = true
      · subst c5
        have H1 : ((head_within.f k 65536 (([a0_2] : List Int))).bind fun t110 => (if t110 = true then ((head_within.f k 4096 (([a0_3, a0_4] : List Int))).bind fun t114 => (some t114)) else (some false))) = some r := by rw [if_pos rfl] at H; exact H
        clear H
        have H := H1
        clear H1
        obtain ⟨y107, hy107⟩ : ∃ y_ : List Int, y_ = (([a0_2] : List Int)) := ⟨_, rfl⟩
        replace H : ((head_within.f k 65536 y107).bind fun t110 => (if t110 = true then ((head_within.f k 4096 (([a0_3, a0_4] : List Int))).bind fun t114 => (some t114)) else (some false))) = some r := by first | (rw [hy107]; with_reducible exact H) | (have H2_ := (Option.bind_some _ _).symm.trans H; rw [hy107]; with_reducible exact H2_) | (have H2_ := (Option.bind_some _ _).symm.trans H; with_reducible exact H2_) | with_reducible exact H | (rw [hy107]; exact H) | exact H
        have Ny107 := Aside0.mk hy107
        clear hy107
        replace H := Option.bind_eq_some_iff.mp H
        obtain ⟨t110, A60, H⟩ := H
        replace H : (if t110 = true then ((head_within.f k 4096 (([a0_3, a0_4] : List Int))).bind fun t114 => (some t114)) else (some false)) = some r := H
        have A6 := Aside0.mk A60
        clear A60
        by_cases c7 : t110 = true
        · subst c7
          have H1 : ((head_within.f k 4096 (([a0_3, a0_4] : List Int))).bind fun t114 => (some t114)) = some r := by rw [if_pos rfl] at H; exact H
          clear H
          have H := H1
          clear H1
          obtain ⟨y111, hy111⟩ : ∃ y_ : List Int, y_ = (([a0_3, a0_4] : List Int)) := ⟨_, rfl⟩
          replace H : ((head_within.f k 4096 y111).bind fun t114 => (some t114)) = some r := by first | (rw [hy111]; with_reducible exact H) | (have H2_ := (Option.bind_some _ _).symm.trans H; rw [hy111]; with_reducible exact H2_) | (have H2_ := (Option.bind_some _ _).symm.trans H; with_reducible exact H2_) | with_reducible exact H | (rw [hy111]; exact H) | exact H
          have Ny111 := Aside0.mk hy111
          clear hy111
          replace H := Option.bind_eq_some_iff.mp H
          obtain ⟨t114, A80, H⟩ := H
          replace H : (some t114) = some r := H
          have A8 := Aside0.mk A80
          clear A80
          obtain rfl := Option.some.inj H
          go_enter Tryz.func180, Tryz.ntmps180
          go_wp2_with (first | ((with_reducible refine gate_dst (N := 1) rfl ?_); (try (refine gate_guard (by rfl) ?_; dsimp only)); refine box_event ?hg (N := 1) ?hd (cs := #[.int .i64 a0_0, .int .i64 a0_1, .int .i64 a0_2, .int .i64 a0_3, .int .i64 a0_4]) (t := 82) ?hr ?_; (case hd => rfl); (case hg => rfl); (case hr => first | (go_simp; done) | (go_simp; rfl)); intro gb102 hg w9 hbox hb; have n0_ := Aside0.mk (below_step (by repeat (first | (with_reducible first | exact HB.out | apply below_alloc | apply pw_below_drewN | apply below_drew1) | exact HB.out)) hb); have n1_ := Aside0.mk (hbox); have n2_ := Aside0.mk ((by rw [hg]; exact (below_size (by repeat (first | (with_reducible first | exact HB.out | apply below_alloc | apply pw_below_drewN | apply below_drew1) | exact HB.out))) : w.heap.size ≤ gb102)); have n3_ := Aside0.mk ((by rw [hg]; exact (below_size (by repeat (first | (with_reducible first | exact HB.out | apply below_alloc | apply pw_below_drewN | apply below_drew1) | exact HB.out))) : w.heap.size ≤ gb102)); clear HB; have HB := n0_; have BK102 := n1_; have GW102 := n2_; have GE102 := n3_; clear n0_ n1_ n2_ n3_; clear hb hbox hg; have hcz10_0 : w9.cell? ⟨gb102, 0, none⟩ = some (.int .i64 a0_0) := (blk_cell BK102.out 0).trans rfl; have hcz10_1 : w9.cell? ⟨gb102, 1, none⟩ = some (.int .i64 a0_1) := (blk_cell BK102.out 1).trans rfl; have hcz10_2 : w9.cell? ⟨gb102, 2, none⟩ = some (.int .i64 a0_2) := (blk_cell BK102.out 2).trans rfl; have hcz10_3 : w9.cell? ⟨gb102, 3, none⟩ = some (.int .i64 a0_3) := (blk_cell BK102.out 3).trans rfl; have hcz10_4 : w9.cell? ⟨gb102, 4, none⟩ = some (.int .i64 a0_4) := (blk_cell BK102.out 4).trans rfl; have hfz10_0 := blk_frozen BK102.out 0; have hfz10_1 := blk_frozen BK102.out 1; have hfz10_2 := blk_frozen BK102.out 2; have hfz10_3 := blk_frozen BK102.out 3; have hfz10_4 := blk_frozen BK102.out 4) | ((with_reducible refine gate_dst (N := 14) rfl ?_); (try (refine gate_guard (by rfl) ?_; dsimp only)); refine Kd.R_lit (Kd.int .i64) _ 3 ?hg (N := 14) ?hd (xs := ([a0_1] : List Int)) (inner := [.int .i64 a0_1]) (ok := fun _ => True) (okp := fun _ => True) ?hr ?hp (fun _ hk => hk) trivial (Below.refl _ _) (Nat.le_refl _) (by simp) ?_; (case hd => rfl); (case hg => rfl); (case hr => first | (go_simp; done) | (go_simp; rfl)); (case hp => exact (Reps.one (show Kd.M (Kd.int .i64) _ _ _ a0_1 [.int .i64 a0_1] from rfl) (Reps.none _ _))); intro v104 w11 ho12 hb hg_ hnew_; clear hg_ hnew_; (first | rw [← Ny103.out] at ho12 | (simp only [Int.reduceToNat] at ho12; rw [← Ny103.out] at ho12)); have n0_ := Aside0.mk (Kd.R_lower ho12 (below_size (by repeat (first | (with_reducible first | exact HB.out | apply below_alloc | apply pw_below_drewN | apply below_drew1 | refine below_set ?_ GE102.out) | exact HB.out)))); have n1_ := Aside0.mk (blk_below (g := gb102) (o := .cells #[.int .i64 a0_0, .int .i64 a0_1, .int .i64 a0_2, .int .i64 a0_3, .int .i64 a0_4] 82 (0, 0)) (by (with_reducible repeat (first | refine blk_drewN ?_ _ | refine blk_drew ?_ | refine blk_alloc ?_ _)); exact BK102.out) hb); have n2_ := Aside0.mk (below_step (by repeat (first | (with_reducible first | exact HB.out | apply below_alloc | apply pw_below_drewN | apply below_drew1 | refine below_set ?_ GE102.out) | exact HB.out)) hb); clear BK102; clear HB; have HO105 := n0_; have BK102 := n1_; have HB := n2_; clear n0_ n1_ n2_; clear hb ho12; obtain ⟨Ao13, co13, eo13⟩ := Kd.R_slice HO105.out; subst eo13) | (go_at_call 217; (with_reducible refine (head_within.calls k 256 _ _ y103 true _ ?side1 ?side2 A4.out).mono ?_); (case side1 => repeat (first | exact (Kd.R_reads' HO105.out).2.2 | (with_reducible refine Kd.C_alloc ?_ _) | (with_reducible refine Kd.C_drewN ?_ _) | (with_reducible refine Kd.C_drew ?_))); (case side2 => exact (Kd.R_reads' HO105.out).2.1); rintro e w' ⟨rfl, ⟨nd, rfl⟩⟩; have hcz14_0 : w11.cell? ⟨gb102, 0, none⟩ = some (.int .i64 a0_0) := (blk_cell BK102.out 0).trans rfl; have hcz14_1 : w11.cell? ⟨gb102, 1, none⟩ = some (.int .i64 a0_1) := (blk_cell BK102.out 1).trans rfl; have hcz14_2 : w11.cell? ⟨gb102, 2, none⟩ = some (.int .i64 a0_2) := (blk_cell BK102.out 2).trans rfl; have hcz14_3 : w11.cell? ⟨gb102, 3, none⟩ = some (.int .i64 a0_3) := (blk_cell BK102.out 3).trans rfl; have hcz14_4 : w11.cell? ⟨gb102, 4, none⟩ = some (.int .i64 a0_4) := (blk_cell BK102.out 4).trans rfl; have hfz14_0 := blk_frozen BK102.out 0; have hfz14_1 := blk_frozen BK102.out 1; have hfz14_2 := blk_frozen BK102.out 2; have hfz14_3 := blk_frozen BK102.out 3; have hfz14_4 := blk_frozen BK102.out 4) | ((with_reducible refine gate_dst (N := 20) rfl ?_); (try (refine gate_guard (by rfl) ?_; dsimp only)); refine Kd.R_lit (Kd.int .i64) _ 3 ?hg (N := 20) ?hd (xs := ([a0_2] : List Int)) (inner := [.int .i64 a0_2]) (ok := fun _ => True) (okp := fun _ => True) ?hr ?hp (fun _ hk => hk) trivial (Below.refl _ _) (Nat.le_refl _) (by simp) ?_; (case hd => rfl); (case hg => rfl); (case hr => first | (go_simp; done) | (go_simp; rfl)); (case hp => exact (Reps.one (show Kd.M (Kd.int .i64) _ _ _ a0_2 [.int .i64 a0_2] from rfl) (Reps.none _ _))); intro v108 w15 ho16 hb hg_ hnew_; clear hg_ hnew_; (first | rw [← Ny107.out] at ho16 | (simp only [Int.reduceToNat] at ho16; rw [← Ny107.out] at ho16)); have n0_ := Aside0.mk (Kd.R_elder' (by (with_reducible repeat (first | apply Kd.R_alloc | apply Kd.R_drewN | apply Kd.R_drew)); exact HO105.out) (Kd.R_base ho16) hb); have n1_ := Aside0.mk (Kd.R_lower (Kd.R_new' ho16 (Kd.R_lt (by (with_reducible repeat (first | apply Kd.R_alloc | apply Kd.R_drewN | apply Kd.R_drew)); exact HO105.out))) (below_size (by repeat (first | (with_reducible first | exact HB.out | apply below_alloc | apply pw_below_drewN | apply below_drew1 | refine below_set ?_ GE102.out) | exact HB.out)))); have n2_ := Aside0.mk (blk_below (g := gb102) (o := .cells #[.int .i64 a0_0, .int .i64 a0_1, .int .i64 a0_2, .int .i64 a0_3, .int .i64 a0_4] 82 (0, 0)) (by (with_reducible repeat (first | refine blk_drewN ?_ _ | refine blk_drew ?_ | refine blk_alloc ?_ _)); exact BK102.out) hb); have n3_ := Aside0.mk (below_step (by repeat (first | (with_reducible first | exact HB.out | apply below_alloc | apply pw_below_drewN | apply below_drew1 | refine below_set ?_ GE102.out) | exact HB.out)) hb); clear HO105; clear BK102; clear HB; have HO105 := n0_; have HO109 := n1_; have BK102 := n2_; have HB := n3_; clear n0_ n1_ n2_ n3_; clear hb ho16; obtain ⟨Ao17, co17, eo17⟩ := Kd.R_slice HO109.out; subst eo17) | (go_at_call 217; (with_reducible refine (head_within.calls k 65536 _ _ y107 true _ ?side1 ?side2 A6.out).mono ?_); (case side1 => repeat (first | exact (Kd.R_reads' HO109.out).2.2 | (with_reducible refine Kd.C_alloc ?_ _) | (with_reducible refine Kd.C_drewN ?_ _) | (with_reducible refine Kd.C_drew ?_))); (case side2 => exact (Kd.R_reads' HO109.out).2.1); rintro e w' ⟨rfl, ⟨nd, rfl⟩⟩; have hcz18_0 : w15.cell? ⟨gb102, 0, none⟩ = some (.int .i64 a0_0) := (blk_cell BK102.out 0).trans rfl; have hcz18_1 : w15.cell? ⟨gb102, 1, none⟩ = some (.int .i64 a0_1) := (blk_cell BK102.out 1).trans rfl; have hcz18_2 : w15.cell? ⟨gb102, 2, none⟩ = some (.int .i64 a0_2) := (blk_cell BK102.out 2).trans rfl; have hcz18_3 : w15.cell? ⟨gb102, 3, none⟩ = some (.int .i64 a0_3) := (blk_cell BK102.out 3).trans rfl; have hcz18_4 : w15.cell? ⟨gb102, 4, none⟩ = some (.int .i64 a0_4) := (blk_cell BK102.out 4).trans rfl; have hfz18_0 := blk_frozen BK102.out 0; have hfz18_1 := blk_frozen BK102.out 1; have hfz18_2 := blk_frozen BK102.out 2; have hfz18_3 := blk_frozen BK102.out 3; have hfz18_4 := blk_frozen BK102.out 4) | ((with_reducible refine gate_dst (N := 28) rfl ?_); (try (refine gate_guard (by rfl) ?_; dsimp only)); refine Kd.R_lit (Kd.int .i64) _ 3 ?hg (N := 28) ?hd (xs := ([a0_3, a0_4] : List Int)) (inner := [.int .i64 a0_3, .int .i64 a0_4]) (ok := fun _ => True) (okp := fun _ => True) ?hr ?hp (fun _ hk => hk) trivial (Below.refl _ _) (Nat.le_refl _) (by simp) ?_; (case hd => rfl); (case hg => rfl); (case hr => first | (go_simp; done) | (go_simp; rfl)); (case hp => exact (Reps.one (show Kd.M (Kd.int .i64) _ _ _ a0_3 [.int .i64 a0_3] from rfl) (Reps.one (show Kd.M (Kd.int .i64) _ _ _ a0_4 [.int .i64 a0_4] from rfl) (Reps.none _ _)))); intro v112 w19 ho20 hb hg_ hnew_; clear hg_ hnew_; (first | rw [← Ny111.out] at ho20 | (simp only [Int.reduceToNat] at ho20; rw [← Ny111.out] at ho20)); have n0_ := Aside0.mk (Kd.R_elder' (by (with_reducible repeat (first | apply Kd.R_alloc | apply Kd.R_drewN | apply Kd.R_drew)); exact HO105.out) (Kd.R_base ho20) hb); have n1_ := Aside0.mk (Kd.R_elder' (by (with_reducible repeat (first | apply Kd.R_alloc | apply Kd.R_drewN | apply Kd.R_drew)); exact HO109.out) (Kd.R_base ho20) hb); have n2_ := Aside0.mk (Kd.R_lower (Kd.R_new' (Kd.R_new' ho20 (Kd.R_lt (by (with_reducible repeat (first | apply Kd.R_alloc | apply Kd.R_drewN | apply Kd.R_drew)); exact HO105.out))) (Kd.R_lt (by (with_reducible repeat (first | apply Kd.R_alloc | apply Kd.R_drewN | apply Kd.R_drew)); exact HO109.out))) (below_size (by repeat (first | (with_reducible first | exact HB.out | apply below_alloc | apply pw_below_drewN | apply below_drew1 | refine below_set ?_ GE102.out) | exact HB.out)))); have n3_ := Aside0.mk (blk_below (g := gb102) (o := .cells #[.int .i64 a0_0, .int .i64 a0_1, .int .i64 a0_2, .int .i64 a0_3, .int .i64 a0_4] 82 (0, 0)) (by (with_reducible repeat (first | refine blk_drewN ?_ _ | refine blk_drew ?_ | refine blk_alloc ?_ _)); exact BK102.out) hb); have n4_ := Aside0.mk (below_step (by repeat (first | (with_reducible first | exact HB.out | apply below_alloc | apply pw_below_drewN | apply below_drew1 | refine below_set ?_ GE102.out) | exact HB.out)) hb); clear HO105; clear HO109; clear BK102; clear HB; have HO105 := n0_; have HO109 := n1_; have HO113 := n2_; have BK102 := n3_; have HB := n4_; clear n0_ n1_ n2_ n3_ n4_; clear hb ho20; obtain ⟨Ao21, co21, eo21⟩ := Kd.R_slice HO113.out; subst eo21) | (go_at_call 217; (with_reducible refine (head_within.calls k 4096 _ _ y111 t114 _ ?side1 ?side2 A8.out).mono ?_); (case side1 => repeat (first | exact (Kd.R_reads' HO113.out).2.2 | (with_reducible refine Kd.C_alloc ?_ _) | (with_reducible refine Kd.C_drewN ?_ _) | (with_reducible refine Kd.C_drew ?_))); (case side2 => exact (Kd.R_reads' HO113.out).2.1); rintro e w' ⟨rfl, ⟨nd, rfl⟩⟩))
          go_ret
          exact ⟨by first | rfl | (simp [errW_none, errW_some] <;> rfl) | (simp [*, errW_none, errW_some] <;> rfl), by repeat (first | (with_reducible first | exact HB.out | apply below_alloc | apply pw_below_drewN | apply below_drew1 | refine below_set ?_ GE102.out) | exact HB.out)⟩
        · replace c7 := Bool.eq_false_iff.mpr c7
          subst c7
          have H1 : (some false) = some r := by rw [if_neg (show ¬ (false = true) by decide)] at H; exact H
          clear H
          have H := H1
          clear H1
          obtain rfl := Option.some.inj H
          go_enter Tryz.func180, Tryz.ntmps180
          go_wp2_with (first | ((with_reducible refine gate_dst (N := 1) rfl ?_); (try (refine gate_guard (by rfl) ?_; dsimp only)); refine box_event ?hg (N := 1) ?hd (cs := #[.int .i64 a0_0, .int .i64 a0_1, .int .i64 a0_2, .int .i64 a0_3, .int .i64 a0_4]) (t := 82) ?hr ?_; (case hd => rfl); (case hg => rfl); (case hr => first | (go_simp; done) | (go_simp; rfl)); intro gb102 hg w22 hbox hb; have n0_ := Aside0.mk (below_step (by repeat (first | (with_reducible first | exact HB.out | apply below_alloc | apply pw_below_drewN | apply below_drew1) | exact HB.out)) hb); have n1_ := Aside0.mk (hbox); have n2_ := Aside0.mk ((by rw [hg]; exact (below_size (by repeat (first | (with_reducible first | exact HB.out | apply below_alloc | apply pw_below_drewN | apply below_drew1) | exact HB.out))) : w.heap.size ≤ gb102)); have n3_ := Aside0.mk ((by rw [hg]; exact (below_size (by repeat (first | (with_reducible first | exact HB.out | apply below_alloc | apply pw_below_drewN | apply below_drew1) | exact HB.out))) : w.heap.size ≤ gb102)); clear HB; have HB := n0_; have BK102 := n1_; have GW102 := n2_; have GE102 := n3_; clear n0_ n1_ n2_ n3_; clear hb hbox hg; have hcz23_0 : w22.cell? ⟨gb102, 0, none⟩ = some (.int .i64 a0_0) := (blk_cell BK102.out 0).trans rfl; have hcz23_1 : w22.cell? ⟨gb102, 1, none⟩ = some (.int .i64 a0_1) := (blk_cell BK102.out 1).trans rfl; have hcz23_2 : w22.cell? ⟨gb102, 2, none⟩ = some (.int .i64 a0_2) := (blk_cell BK102.out 2).trans rfl; have hcz23_3 : w22.cell? ⟨gb102, 3, none⟩ = some (.int .i64 a0_3) := (blk_cell BK102.out 3).trans rfl; have hcz23_4 : w22.cell? ⟨gb102, 4, none⟩ = some (.int .i64 a0_4) := (blk_cell BK102.out 4).trans rfl; have hfz23_0 := blk_frozen BK102.out 0; have hfz23_1 := blk_frozen BK102.out 1; have hfz23_2 := blk_frozen BK102.out 2; have hfz23_3 := blk_frozen BK102.out 3; have hfz23_4 := blk_frozen BK102.out 4) | ((with_reducible refine gate_dst (N := 14) rfl ?_); (try (refine gate_guard (by rfl) ?_; dsimp only)); refine Kd.R_lit (Kd.int .i64) _ 3 ?hg (N := 14) ?hd (xs := ([a0_1] : List Int)) (inner := [.int .i64 a0_1]) (ok := fun _ => True) (okp := fun _ => True) ?hr ?hp (fun _ hk => hk) trivial (Below.refl _ _) (Nat.le_refl _) (by simp) ?_; (case hd => rfl); (case hg => rfl); (case hr => first | (go_simp; done) | (go_simp; rfl)); (case hp => exact (Reps.one (show Kd.M (Kd.int .i64) _ _ _ a0_1 [.int .i64 a0_1] from rfl) (Reps.none _ _))); intro v104 w24 ho25 hb hg_ hnew_; clear hg_ hnew_; (first | rw [← Ny103.out] at ho25 | (simp only [Int.reduceToNat] at ho25; rw [← Ny103.out] at ho25)); have n0_ := Aside0.mk (Kd.R_lower ho25 (below_size (by repeat (first | (with_reducible first | exact HB.out | apply below_alloc | apply pw_below_drewN | apply below_drew1 | refine below_set ?_ GE102.out) | exact HB.out)))); have n1_ := Aside0.mk (blk_below (g := gb102) (o := .cells #[.int .i64 a0_0, .int .i64 a0_1, .int .i64 a0_2, .int .i64 a0_3, .int .i64 a0_4] 82 (0, 0)) (by (with_reducible repeat (first | refine blk_drewN ?_ _ | refine blk_drew ?_ | refine blk_alloc ?_ _)); exact BK102.out) hb); have n2_ := Aside0.mk (below_step (by repeat (first | (with_reducible first | exact HB.out | apply below_alloc | apply pw_below_drewN | apply below_drew1 | refine below_set ?_ GE102.out) | exact HB.out)) hb); clear BK102; clear HB; have HO105 := n0_; have BK102 := n1_; have HB := n2_; clear n0_ n1_ n2_; clear hb ho25; obtain ⟨Ao26, co26, eo26⟩ := Kd.R_slice HO105.out; subst eo26) | (go_at_call 217; (with_reducible refine (head_within.calls k 256 _ _ y103 true _ ?side1 ?side2 A4.out).mono ?_); (case side1 => repeat (first | exact (Kd.R_reads' HO105.out).2.2 | (with_reducible refine Kd.C_alloc ?_ _) | (with_reducible refine Kd.C_drewN ?_ _) | (with_reducible refine Kd.C_drew ?_))); (case side2 => exact (Kd.R_reads' HO105.out).2.1); rintro e w' ⟨rfl, ⟨nd, rfl⟩⟩; have hcz27_0 : w24.cell? ⟨gb102, 0, none⟩ = some (.int .i64 a0_0) := (blk_cell BK102.out 0).trans rfl; have hcz27_1 : w24.cell? ⟨gb102, 1, none⟩ = some (.int .i64 a0_1) := (blk_cell BK102.out 1).trans rfl; have hcz27_2 : w24.cell? ⟨gb102, 2, none⟩ = some (.int .i64 a0_2) := (blk_cell BK102.out 2).trans rfl; have hcz27_3 : w24.cell? ⟨gb102, 3, none⟩ = some (.int .i64 a0_3) := (blk_cell BK102.out 3).trans rfl; have hcz27_4 : w24.cell? ⟨gb102, 4, none⟩ = some (.int .i64 a0_4) := (blk_cell BK102.out 4).trans rfl; have hfz27_0 := blk_frozen BK102.out 0; have hfz27_1 := blk_frozen BK102.out 1; have hfz27_2 := blk_frozen BK102.out 2; have hfz27_3 := blk_frozen BK102.out 3; have hfz27_4 := blk_frozen BK102.out 4) | ((with_reducible refine gate_dst (N := 20) rfl ?_); (try (refine gate_guard (by rfl) ?_; dsimp only)); refine Kd.R_lit (Kd.int .i64) _ 3 ?hg (N := 20) ?hd (xs := ([a0_2] : List Int)) (inner := [.int .i64 a0_2]) (ok := fun _ => True) (okp := fun _ => True) ?hr ?hp (fun _ hk => hk) trivial (Below.refl _ _) (Nat.le_refl _) (by simp) ?_; (case hd => rfl); (case hg => rfl); (case hr => first | (go_simp; done) | (go_simp; rfl)); (case hp => exact (Reps.one (show Kd.M (Kd.int .i64) _ _ _ a0_2 [.int .i64 a0_2] from rfl) (Reps.none _ _))); intro v108 w28 ho29 hb hg_ hnew_; clear hg_ hnew_; (first | rw [← Ny107.out] at ho29 | (simp only [Int.reduceToNat] at ho29; rw [← Ny107.out] at ho29)); have n0_ := Aside0.mk (Kd.R_elder' (by (with_reducible repeat (first | apply Kd.R_alloc | apply Kd.R_drewN | apply Kd.R_drew)); exact HO105.out) (Kd.R_base ho29) hb); have n1_ := Aside0.mk (Kd.R_lower (Kd.R_new' ho29 (Kd.R_lt (by (with_reducible repeat (first | apply Kd.R_alloc | apply Kd.R_drewN | apply Kd.R_drew)); exact HO105.out))) (below_size (by repeat (first | (with_reducible first | exact HB.out | apply below_alloc | apply pw_below_drewN | apply below_drew1 | refine below_set ?_ GE102.out) | exact HB.out)))); have n2_ := Aside0.mk (blk_below (g := gb102) (o := .cells #[.int .i64 a0_0, .int .i64 a0_1, .int .i64 a0_2, .int .i64 a0_3, .int .i64 a0_4] 82 (0, 0)) (by (with_reducible repeat (first | refine blk_drewN ?_ _ | refine blk_drew ?_ | refine blk_alloc ?_ _)); exact BK102.out) hb); have n3_ := Aside0.mk (below_step (by repeat (first | (with_reducible first | exact HB.out | apply below_alloc | apply pw_below_drewN | apply below_drew1 | refine below_set ?_ GE102.out) | exact HB.out)) hb); clear HO105; clear BK102; clear HB; have HO105 := n0_; have HO109 := n1_; have BK102 := n2_; have HB := n3_; clear n0_ n1_ n2_ n3_; clear hb ho29; obtain ⟨Ao30, co30, eo30⟩ := Kd.R_slice HO109.out; subst eo30) | (go_at_call 217; (with_reducible refine (head_within.calls k 65536 _ _ y107 false _ ?side1 ?side2 A6.out).mono ?_); (case side1 => repeat (first | exact (Kd.R_reads' HO109.out).2.2 | (with_reducible refine Kd.C_alloc ?_ _) | (with_reducible refine Kd.C_drewN ?_ _) | (with_reducible refine Kd.C_drew ?_))); (case side2 => exact (Kd.R_reads' HO109.out).2.1); rintro e w' ⟨rfl, ⟨nd, rfl⟩⟩))
          go_ret
          exact ⟨by first | rfl | (simp [errW_none, errW_some] <;> rfl) | (simp [*, errW_none, errW_some] <;> rfl), by repeat (first | (with_reducible first | exact HB.out | apply below_alloc | apply pw_below_drewN | apply below_drew1 | refine below_set ?_ GE102.out) | exact HB.out)⟩
      · replace c5 := Bool.eq_false_iff.mpr c5
        subst c5
        have H1 : (some false) = some r := by rw [if_neg (show ¬ (false = true) by decide)] at H; exact H
        clear H
        have H := H1
        clear H1
        obtain rfl := Option.some.inj H
        go_enter Tryz.func180, Tryz.ntmps180
        go_wp2_with (first | ((with_reducible refine gate_dst (N := 1) rfl ?_); (try (refine gate_guard (by rfl) ?_; dsimp only)); refine box_event ?hg (N := 1) ?hd (cs := #[.int .i64 a0_0, .int .i64 a0_1, .int .i64 a0_2, .int .i64 a0_3, .int .i64 a0_4]) (t := 82) ?hr ?_; (case hd => rfl); (case hg => rfl); (case hr => first | (go_simp; done) | (go_simp; rfl)); intro gb102 hg w31 hbox hb; have n0_ := Aside0.mk (below_step (by repeat (first | (with_reducible first | exact HB.out | apply below_alloc | apply pw_below_drewN | apply below_drew1) | exact HB.out)) hb); have n1_ := Aside0.mk (hbox); have n2_ := Aside0.mk ((by rw [hg]; exact (below_size (by repeat (first | (with_reducible first | exact HB.out | apply below_alloc | apply pw_below_drewN | apply below_drew1) | exact HB.out))) : w.heap.size ≤ gb102)); have n3_ := Aside0.mk ((by rw [hg]; exact (below_size (by repeat (first | (with_reducible first | exact HB.out | apply below_alloc | apply pw_below_drewN | apply below_drew1) | exact HB.out))) : w.heap.size ≤ gb102)); clear HB; have HB := n0_; have BK102 := n1_; have GW102 := n2_; have GE102 := n3_; clear n0_ n1_ n2_ n3_; clear hb hbox hg; have hcz32_0 : w31.cell? ⟨gb102, 0, none⟩ = some (.int .i64 a0_0) := (blk_cell BK102.out 0).trans rfl; have hcz32_1 : w31.cell? ⟨gb102, 1, none⟩ = some (.int .i64 a0_1) := (blk_cell BK102.out 1).trans rfl; have hcz32_2 : w31.cell? ⟨gb102, 2, none⟩ = some (.int .i64 a0_2) := (blk_cell BK102.out 2).trans rfl; have hcz32_3 : w31.cell? ⟨gb102, 3, none⟩ = some (.int .i64 a0_3) := (blk_cell BK102.out 3).trans rfl; have hcz32_4 : w31.cell? ⟨gb102, 4, none⟩ = some (.int .i64 a0_4) := (blk_cell BK102.out 4).trans rfl; have hfz32_0 := blk_frozen BK102.out 0; have hfz32_1 := blk_frozen BK102.out 1; have hfz32_2 := blk_frozen BK102.out 2; have hfz32_3 := blk_frozen BK102.out 3; have hfz32_4 := blk_frozen BK102.out 4) | ((with_reducible refine gate_dst (N := 14) rfl ?_); (try (refine gate_guard (by rfl) ?_; dsimp only)); refine Kd.R_lit (Kd.int .i64) _ 3 ?hg (N := 14) ?hd (xs := ([a0_1] : List Int)) (inner := [.int .i64 a0_1]) (ok := fun _ => True) (okp := fun _ => True) ?hr ?hp (fun _ hk => hk) trivial (Below.refl _ _) (Nat.le_refl _) (by simp) ?_; (case hd => rfl); (case hg => rfl); (case hr => first | (go_simp; done) | (go_simp; rfl)); (case hp => exact (Reps.one (show Kd.M (Kd.int .i64) _ _ _ a0_1 [.int .i64 a0_1] from rfl) (Reps.none _ _))); intro v104 w33 ho34 hb hg_ hnew_; clear hg_ hnew_; (first | rw [← Ny103.out] at ho34 | (simp only [Int.reduceToNat] at ho34; rw [← Ny103.out] at ho34)); have n0_ := Aside0.mk (Kd.R_lower ho34 (below_size (by repeat (first | (with_reducible first | exact HB.out | apply below_alloc | apply pw_below_drewN | apply below_drew1 | refine below_set ?_ GE102.out) | exact HB.out)))); have n1_ := Aside0.mk (blk_below (g := gb102) (o := .cells #[.int .i64 a0_0, .int .i64 a0_1, .int .i64 a0_2, .int .i64 a0_3, .int .i64 a0_4] 82 (0, 0)) (by (with_reducible repeat (first | refine blk_drewN ?_ _ | refine blk_drew ?_ | refine blk_alloc ?_ _)); exact BK102.out) hb); have n2_ := Aside0.mk (below_step (by repeat (first | (with_reducible first | exact HB.out | apply below_alloc | apply pw_below_drewN | apply below_drew1 | refine below_set ?_ GE102.out) | exact HB.out)) hb); clear BK102; clear HB; have HO105 := n0_; have BK102 := n1_; have HB := n2_; clear n0_ n1_ n2_; clear hb ho34; obtain ⟨Ao35, co35, eo35⟩ := Kd.R_slice HO105.out; subst eo35) | (go_at_call 217; (with_reducible refine (head_within.calls k 256 _ _ y103 false _ ?side1 ?side2 A4.out).mono ?_); (case side1 => repeat (first | exact (Kd.R_reads' HO105.out).2.2 | (with_reducible refine Kd.C_alloc ?_ _) | (with_reducible refine Kd.C_drewN ?_ _) | (with_reducible refine Kd.C_drew ?_))); (case side2 => exact (Kd.R_reads' HO105.out).2.1); rintro e w' ⟨rfl, ⟨nd, rfl⟩⟩))
        go_ret
        exact ⟨by first | rfl | (simp [errW_none, errW_some] <;> rfl) | (simp [*, errW_none, errW_some] <;> rfl), by repeat (first | (with_reducible first | exact HB.out | apply below_alloc | apply pw_below_drewN | apply below_drew1 | refine below_set ?_ GE102.out) | exact HB.out)⟩
    · rw [if_neg c3] at H
      have c3b0 : decide (a0_0 < 5) = false := decide_eq_false c3
      clear c3
      obtain rfl := Option.some.inj H
      go_enter Tryz.func180, Tryz.ntmps180
      go_wp2_with (first | ((with_reducible refine gate_dst (N := 1) rfl ?_); (try (refine gate_guard (by rfl) ?_; dsimp only)); refine box_event ?hg (N := 1) ?hd (cs := #[.int .i64 a0_0, .int .i64 a0_1, .int .i64 a0_2, .int .i64 a0_3, .int .i64 a0_4]) (t := 82) ?hr ?_; (case hd => rfl); (case hg => rfl); (case hr => first | (go_simp; done) | (go_simp; rfl)); intro gb102 hg w36 hbox hb; have n0_ := Aside0.mk (below_step (by repeat (first | (with_reducible first | exact HB.out | apply below_alloc | apply pw_below_drewN | apply below_drew1) | exact HB.out)) hb); have n1_ := Aside0.mk (hbox); have n2_ := Aside0.mk ((by rw [hg]; exact (below_size (by repeat (first | (with_reducible first | exact HB.out | apply below_alloc | apply pw_below_drewN | apply below_drew1) | exact HB.out))) : w.heap.size ≤ gb102)); have n3_ := Aside0.mk ((by rw [hg]; exact (below_size (by repeat (first | (with_reducible first | exact HB.out | apply below_alloc | apply pw_below_drewN | apply below_drew1) | exact HB.out))) : w.heap.size ≤ gb102)); clear HB; have HB := n0_; have BK102 := n1_; have GW102 := n2_; have GE102 := n3_; clear n0_ n1_ n2_ n3_; clear hb hbox hg; have hcz37_0 : w36.cell? ⟨gb102, 0, none⟩ = some (.int .i64 a0_0) := (blk_cell BK102.out 0).trans rfl; have hcz37_1 : w36.cell? ⟨gb102, 1, none⟩ = some (.int .i64 a0_1) := (blk_cell BK102.out 1).trans rfl; have hcz37_2 : w36.cell? ⟨gb102, 2, none⟩ = some (.int .i64 a0_2) := (blk_cell BK102.out 2).trans rfl; have hcz37_3 : w36.cell? ⟨gb102, 3, none⟩ = some (.int .i64 a0_3) := (blk_cell BK102.out 3).trans rfl; have hcz37_4 : w36.cell? ⟨gb102, 4, none⟩ = some (.int .i64 a0_4) := (blk_cell BK102.out 4).trans rfl; have hfz37_0 := blk_frozen BK102.out 0; have hfz37_1 := blk_frozen BK102.out 1; have hfz37_2 := blk_frozen BK102.out 2; have hfz37_3 := blk_frozen BK102.out 3; have hfz37_4 := blk_frozen BK102.out 4))
      go_ret
      exact ⟨by first | rfl | (simp [errW_none, errW_some] <;> rfl) | (simp [*, errW_none, errW_some] <;> rfl), by repeat (first | (with_reducible first | exact HB.out | apply below_alloc | apply pw_below_drewN | apply below_drew1 | refine below_set ?_ GE102.out) | exact HB.out)⟩
  · rw [if_neg c2] at H
    have c2b0 : decide (1 ≤ a0_0) = false := decide_eq_false c2
    clear c2
    obtain rfl := Option.some.inj H
    go_enter Tryz.func180, Tryz.ntmps180
    go_wp2_with (first | ((with_reducible refine gate_dst (N := 1) rfl ?_); (try (refine gate_guard (by rfl) ?_; dsimp only)); refine box_event ?hg (N := 1) ?hd (cs := #[.int .i64 a0_0, .int .i64 a0_1, .int .i64 a0_2, .int .i64 a0_3, .int .i64 a0_4]) (t := 82) ?hr ?_; (case hd => rfl); (case hg => rfl); (case hr => first | (go_simp; done) | (go_simp; rfl)); intro gb102 hg w38 hbox hb; have n0_ := Aside0.mk (below_step (by repeat (first | (with_reducible first | exact HB.out | apply below_alloc | apply pw_below_drewN | apply below_drew1) | exact HB.out)) hb); have n1_ := Aside0.mk (hbox); have n2_ := Aside0.mk ((by rw [hg]; exact (below_size (by repeat (first | (with_reducible first | exact HB.out | apply below_alloc | apply pw_below_drewN | apply below_drew1) | exact HB.out))) : w.heap.size ≤ gb102)); have n3_ := Aside0.mk ((by rw [hg]; exact (below_size (by repeat (first | (with_reducible first | exact HB.out | apply below_alloc | apply pw_below_drewN | apply below_drew1) | exact HB.out))) : w.heap.size ≤ gb102)); clear HB; have HB := n0_; have BK102 := n1_; have GW102 := n2_; have GE102 := n3_; clear n0_ n1_ n2_ n3_; clear hb hbox hg; have hcz39_0 : w38.cell? ⟨gb102, 0, none⟩ = some (.int .i64 a0_0) := (blk_cell BK102.out 0).trans rfl; have hcz39_1 : w38.cell? ⟨gb102, 1, none⟩ = some (.int .i64 a0_1) := (blk_cell BK102.out 1).trans rfl; have hcz39_2 : w38.cell? ⟨gb102, 2, none⟩ = some (.int .i64 a0_2) := (blk_cell BK102.out 2).trans rfl; have hcz39_3 : w38.cell? ⟨gb102, 3, none⟩ = some (.int .i64 a0_3) := (blk_cell BK102.out 3).trans rfl; have hcz39_4 : w38.cell? ⟨gb102, 4, none⟩ = some (.int .i64 a0_4) := (blk_cell BK102.out 4).trans rfl; have hfz39_0 := blk_frozen BK102.out 0; have hfz39_1 := blk_frozen BK102.out 1; have hfz39_2 := blk_frozen BK102.out 2; have hfz39_3 := blk_frozen BK102.out 3; have hfz39_4 := blk_frozen BK102.out 4))
    go_ret
    exact ⟨by first | rfl | (simp [errW_none, errW_some] <;> rfl) | (simp [*, errW_none, errW_some] <;> rfl), by repeat (first | (with_reducible first | exact HB.out | apply below_alloc | apply pw_below_drewN | apply below_drew1 | refine below_set ?_ GE102.out) | exact HB.out)⟩

end Go.Proofs.YtmheajenlhlbhaaGreatDoor.X


namespace Go.Proofs.YtmheajenlhlbhaaGreatDoor.X
open Go.RowKit Go.Proofs.YtmheajenlhlbhaaGreatDoorW.PrintWords Go.Proofs.YtmheajenlhlbhaaGreatDoorW.PrintLast Go.Proofs.YtmheajenlhlbhaaGreatDoorW.PrintMore
attribute [local go_sem] max2_int min2_int max_two min_two max_three min_three max_four min_four   -- for this text's walks alone
set_option linter.unusedVariables false
set_option linter.unusedSimpArgs false

def sizeOk (p : Int) : Bool := p == 128 || p == 256 || p == 512 || p == 1024
def inB (b x : Int) : Bool := decide (0 ≤ x) && decide (x < b)
def headOk (k l c r s : Int) : Bool := decide (1 ≤ k) && decide (k < 5) && inB 256 l && inB 65536 c && (inB 4096 r && inB 4096 s)
theorem within_step (k : Nat) (b : Int) (l : List Int) (i : Nat) (hi : i < l.length) (hl : l.length ≤ 10) :
    head_within.l0 (k + 1) b l l.length (i : Int) = if inB b l[i] = true then head_within.l0 k b l l.length ((i + 1 : Nat) : Int) else some false := by
  have hw : wrap64 ((i : Int) + 1) = ((i + 1 : Nat) : Int) := by unfold wrap64; omega
  simp only [head_within.l0]
  rw [if_pos (by omega), if_pos (by omega), if_pos (by omega), hw, show rd l (i : Int) = l[i] by simp [rd, List.getD_eq_getElem?_getD, List.getElem?_eq_getElem hi]]
  unfold inB
  by_cases h1 : l[i] < 0
  · rw [if_pos h1, if_neg (by simp; omega)]
  · rw [if_neg h1]
    by_cases h2 : l[i] ≥ b
    · rw [if_pos h2, if_neg (by simp; omega)]
    · rw [if_neg h2, if_pos (by simp; omega)]
theorem within_end (k : Nat) (b : Int) (l : List Int) : head_within.l0 (k + 1) b l l.length (l.length : Int) = some true := by
  simp only [head_within.l0]
  rw [if_neg (by omega)]
theorem within_one (b x : Int) : head_within.f 9 b [x] = some (inB b x) := by
  have e := within_step 8 b [x] 0 (by simp) (by simp)
  have e2 := within_end 7 b [x]
  unfold head_within.f
  refine e.trans ?_
  show (if inB b x = true then head_within.l0 8 b [x] ([x] : List Int).length (([x] : List Int).length : Int) else some false) = _
  rw [e2]
  cases inB b x <;> rfl
theorem within_two (b x y : Int) : head_within.f 9 b [x, y] = some (inB b x && inB b y) := by
  have e := within_step 8 b [x, y] 0 (by simp) (by simp)
  have e1 := within_step 7 b [x, y] 1 (by simp) (by simp)
  have e2 := within_end 6 b [x, y]
  unfold head_within.f
  refine e.trans ?_
  show (if inB b x = true then head_within.l0 8 b [x, y] ([x, y] : List Int).length ((1 : Nat) : Int) else some false) = _
  rw [e1]
  show (if inB b x = true then (if inB b y = true then head_within.l0 7 b [x, y] ([x, y] : List Int).length (([x, y] : List Int).length : Int) else some false) else some false) = _
  rw [e2]
  cases inB b x <;> cases inB b y <;> rfl
theorem head_Right_ok (k l c r s : Int) : head_Right.f 9 k l c r s = some (headOk k l c r s) := by
  unfold head_Right.f headOk
  rw [within_one, within_one, within_two]
  by_cases h1 : 1 ≤ k <;> by_cases h2 : k < 5 <;> simp [h1, h2]
  cases inB 256 l <;> cases inB 65536 c <;> simp
def faultN (k l c r s : Int) (body : ByteArray) (p : Int) : Int := if sizeOk p = true then (if headOk k l c r s = true then (if p - 16 < (body.size : Int) then 8 else 0) else 3) else 4
def FaultOf (w : World) (v : Value) (n : Int) : Prop := (n = 0 ∧ v = .nilIface) ∨ (n ≠ 0 ∧ JoinOf w v n)
theorem sizeOk_bounds {p : Int} (h : sizeOk p = true) : 128 ≤ p ∧ p ≤ 1024 := by
  unfold sizeOk at h
  simp at h
  omega
set_option maxHeartbeats 1000000 in
theorem head_may.calls (k l c r s : Int) (body : ByteArray) (p : Int) (w : World) :
    Calls Tryz.prog 135 #[.agg #[.int .i64 k, .int .i64 l, .int .i64 c, .int .i64 r, .int .i64 s], .string body, .int .i64 p] w fun e w' => ∃ v, e = .returned v ∧ FaultOf w' v (faultN k l c r s body p) ∧ Below w.heap.size w w' := by
  by_cases hs : sizeOk p = true
  · have HS := Aside0.mk (show disk_Size.f p = some true by unfold disk_Size.f; exact congrArg some hs)
    by_cases hh : headOk k l c r s = true
    · have HH := Aside0.mk (show head_Right.f 9 k l c r s = some true by rw [head_Right_ok, hh])
      have hpb := sizeOk_bounds hs
      have hw : wrap64 (p - 16) = p - 16 := by unfold wrap64; omega
      by_cases hb : p - 16 < (body.size : Int)
      · have HN := Aside0.mk (show faultN k l c r s body p = 8 by unfold faultN; rw [if_pos hs, if_pos hh, if_pos hb])
        clear hs hh
        go_enter Tryz.func135, Tryz.ntmps135
        go_wp2_with (first | (go_at_call 83; refine (disk_Size.calls p true _ HS.out).mono ?_; rintro e w1 ⟨rfl, hb1⟩; have HB1 := Aside0.mk hb1; obtain ⟨hc1, hz1⟩ : (∀ j, w1.cell? ⟨w.heap.size, j, none⟩ = (w.alloc (.cells #[.int .i64 k, .int .i64 l, .int .i64 c, .int .i64 r, .int .i64 s] 82)).cell? ⟨w.heap.size, j, none⟩) ∧ True := ⟨fun j => hb1.cell (by simp), trivial⟩; clear hb1) | (go_at_call 180; refine (head_Right.calls 9 k l c r s true _ HH.out).mono ?_; rintro e w2 ⟨rfl, hb2⟩; have HB2 := Aside0.mk hb2; clear hb2) | (go_at_call 179; refine (head_fault.calls 8 _ _).mono ?_; rintro e w3 ⟨v, rfl, hj, hb3⟩; have HJ := Aside0.mk hj; have HB3 := Aside0.mk hb3; clear hj hb3))
        go_ret
        exact ⟨_, rfl, .inr ⟨by rw [HN.out]; decide, by rw [HN.out]; exact HJ.out⟩, below_step (below_step (below_step (below_alloc (Below.refl _ _) _) HB1.out) HB2.out) HB3.out⟩
      · have HN := Aside0.mk (show faultN k l c r s body p = 0 by unfold faultN; rw [if_pos hs, if_pos hh, if_neg hb])
        clear hs hh
        go_enter Tryz.func135, Tryz.ntmps135
        go_wp2_with (first | (go_at_call 83; refine (disk_Size.calls p true _ HS.out).mono ?_; rintro e w1 ⟨rfl, hb1⟩; have HB1 := Aside0.mk hb1; obtain ⟨hc1, hz1⟩ : (∀ j, w1.cell? ⟨w.heap.size, j, none⟩ = (w.alloc (.cells #[.int .i64 k, .int .i64 l, .int .i64 c, .int .i64 r, .int .i64 s] 82)).cell? ⟨w.heap.size, j, none⟩) ∧ True := ⟨fun j => hb1.cell (by simp), trivial⟩; clear hb1) | (go_at_call 180; refine (head_Right.calls 9 k l c r s true _ HH.out).mono ?_; rintro e w2 ⟨rfl, hb2⟩; have HB2 := Aside0.mk hb2; clear hb2))
        go_ret
        exact ⟨_, rfl, .inl ⟨HN.out, rfl⟩, below_step (below_step (below_alloc (Below.refl _ _) _) HB1.out) HB2.out⟩
    · have HH := Aside0.mk (show head_Right.f 9 k l c r s = some false by rw [head_Right_ok]; simpa using hh)
      have HN := Aside0.mk (show faultN k l c r s body p = 3 by unfold faultN; rw [if_pos hs, if_neg hh])
      clear hs hh
      go_enter Tryz.func135, Tryz.ntmps135
      go_wp2_with (first | (go_at_call 83; refine (disk_Size.calls p true _ HS.out).mono ?_; rintro e w1 ⟨rfl, hb1⟩; have HB1 := Aside0.mk hb1; obtain ⟨hc1, hz1⟩ : (∀ j, w1.cell? ⟨w.heap.size, j, none⟩ = (w.alloc (.cells #[.int .i64 k, .int .i64 l, .int .i64 c, .int .i64 r, .int .i64 s] 82)).cell? ⟨w.heap.size, j, none⟩) ∧ True := ⟨fun j => hb1.cell (by simp), trivial⟩; clear hb1) | (go_at_call 180; refine (head_Right.calls 9 k l c r s false _ HH.out).mono ?_; rintro e w2 ⟨rfl, hb2⟩; have HB2 := Aside0.mk hb2; clear hb2) | (go_at_call 179; refine (head_fault.calls 3 _ _).mono ?_; rintro e w3 ⟨v, rfl, hj, hb3⟩; have HJ := Aside0.mk hj; have HB3 := Aside0.mk hb3; clear hj hb3))
      go_ret
      exact ⟨_, rfl, .inr ⟨by rw [HN.out]; decide, by rw [HN.out]; exact HJ.out⟩, below_step (below_step (below_step (below_alloc (Below.refl _ _) _) HB1.out) HB2.out) HB3.out⟩
  · have HS := Aside0.mk (show disk_Size.f p = some false by unfold disk_Size.f; exact congrArg some (by simpa [sizeOk] using hs))
    have HN := Aside0.mk (show faultN k l c r s body p = 4 by unfold faultN; rw [if_neg hs])
    clear hs
    go_enter Tryz.func135, Tryz.ntmps135
    go_wp2_with (first | (go_at_call 83; refine (disk_Size.calls p false _ HS.out).mono ?_; rintro e w1 ⟨rfl, hb1⟩; have HB1 := Aside0.mk hb1; obtain ⟨hc1, hz1⟩ : (∀ j, w1.cell? ⟨w.heap.size, j, none⟩ = (w.alloc (.cells #[.int .i64 k, .int .i64 l, .int .i64 c, .int .i64 r, .int .i64 s] 82)).cell? ⟨w.heap.size, j, none⟩) ∧ True := ⟨fun j => hb1.cell (by simp), trivial⟩; clear hb1) | (go_at_call 179; refine (head_fault.calls 4 _ _).mono ?_; rintro e w3 ⟨v, rfl, hj, hb3⟩; have HJ := Aside0.mk hj; have HB3 := Aside0.mk hb3; clear hj hb3))
    go_ret
    exact ⟨_, rfl, .inr ⟨by rw [HN.out]; decide, by rw [HN.out]; exact HJ.out⟩, below_step (below_step (below_alloc (Below.refl _ _) _) HB1.out) HB3.out⟩


end Go.Proofs.YtmheajenlhlbhaaGreatDoor.X


namespace Go.Proofs.YtmheajenlhlbhaaGreatDoor.X
open Go.RowKit Go.Proofs.YtmheajenlhlbhaaGreatDoorW.PrintWords Go.Proofs.YtmheajenlhlbhaaGreatDoorW.PrintLast Go.Proofs.YtmheajenlhlbhaaGreatDoorW.PrintMore
attribute [local go_sem] max2_int min2_int max_two min_two max_three min_three max_four min_four   -- for this text's walks alone
set_option linter.unusedVariables false
set_option linter.unusedSimpArgs false

def word_Four.f (a0 : Int) : Option ByteArray := some (strOfNums [a0 % 256, a0 / 256 % 256, a0 / 65536 % 256, a0 / 16777216 % 256])

theorem four_conv (w : World) (a b c d : Int) : (convert 96 9 (.slice (some ⟨w.heap.size, 0, none⟩) 4 4)).run Tryz.prog (w.alloc (.cells #[.int .u8 a, .int .u8 b, .int .u8 c, .int .u8 d] 285)) = .ok (.string (strOfNums [a, b, c, d])) (w.alloc (.cells #[.int .u8 a, .int .u8 b, .int .u8 c, .int .u8 d] 285)) := by
  refine string_of_reads Tryz.underlying96 Tryz.underlying5 Tryz.underlying9 ⟨rfl, by omega, fun _ => ⟨_, rfl, fun j hj => ?_⟩⟩
  have : j = 0 ∨ j = 1 ∨ j = 2 ∨ j = 3 := by omega
  rcases this with rfl | rfl | rfl | rfl <;> go_simp

set_option maxHeartbeats 1000000 in
theorem word_Four.calls (a0 : Int) (r : ByteArray) (w : World) (h : word_Four.f a0 = some r) :
    Calls Tryz.prog 125 #[.int .u32 a0] w fun e w' => e = .returned (.string r) ∧ Below w.heap.size w w' := by
  have Hr : Aside0 (r = strOfNums [a0 % 256, a0 / 256 % 256, a0 / 65536 % 256, a0 / 16777216 % 256]) := ⟨by simpa [word_Four.f] using h.symm⟩
  clear h
  go_enter Tryz.func125, Tryz.ntmps125
  go_wp2
  refine wp_loop_rounds 5 ?_
  rw [rounds_succ]
  go_wp2
  rw [rounds_succ]
  go_wp2
  rw [rounds_succ]
  go_wp2
  rw [rounds_succ]
  go_wp2
  rw [rounds_succ]
  have hk := four_conv w (a0 % 256) (a0 / 256 % 256) (a0 / 65536 % 256) (a0 / 16777216 % 256)
  go_wp2_with fail
  go_ret
  exact ⟨by rw [Hr.out]; rfl, (Below.refl _ _).alloc (Nat.le_refl _) _⟩


end Go.Proofs.YtmheajenlhlbhaaGreatDoor.X


namespace Go.Proofs.YtmheajenlhlbhaaGreatDoor.X
open Go.RowKit Go.Proofs.YtmheajenlhlbhaaGreatDoorW.PrintWords Go.Proofs.YtmheajenlhlbhaaGreatDoorW.PrintLast Go.Proofs.YtmheajenlhlbhaaGreatDoorW.PrintMore
attribute [local go_sem] max2_int min2_int max_two min_two max_three min_three max_four min_four   -- for this text's walks alone
set_option linter.unusedVariables false
set_option linter.unusedSimpArgs false

def bl (s : ByteArray) : List Int := s.data.toList.map fun b => (b.toNat : Int)
theorem bl_length (s : ByteArray) : (bl s).length = s.size := by
  unfold bl
  rw [List.length_map, Array.length_toList]
  rfl
theorem bl_getD (s : ByteArray) (j : Nat) (hj : j < s.size) : (bl s).getD j 0 = ((s.data.toList.getD j 0).toNat : Int) := by
  have h : j < s.data.toList.length := by rw [Array.length_toList]; exact hj
  unfold bl
  rw [List.getD_eq_getElem?_getD, List.getD_eq_getElem?_getD, List.getElem?_map, List.getElem?_eq_getElem h]
  rfl
theorem bl_reads (w : World) (e : Nat) (s : ByteArray) (hs : s.size ≤ 9223372036854775807) :
    Kd.C (Kd.int .u8) (Lib.bytesWorld w e s) (some ⟨w.heap.size, 0, none⟩) (bl s).length (bl s) := by
  refine Kd.C_of_reads (enc := Value.int .u8) (d := (0 : Int)) (h1 := fun _ => rfl) ⟨rfl, by rw [bl_length]; exact hs, fun _ => ⟨_, rfl, fun j hj => ?_⟩⟩
  rw [bl_length] at hj
  have h := Lib.bytesWorld_cell w e s j hj
  rw [← bl_getD s j hj] at h
  have e1 : (⟨w.heap.size, 0, none⟩ : Addr).add j = ⟨w.heap.size, j, none⟩ := by
    unfold Addr.add
    split
    · rename_i h0
      rw [h0]
    · simp
  rw [e1]
  exact h
theorem bytesWorld_below (w : World) (e : Nat) (s : ByteArray) : Below w.heap.size w (Lib.bytesWorld w e s) := by
  refine ⟨?_, ?_, ?_, ?_, fun j hj => Lib.bytesWorld_at_old w e s j hj⟩
  · simp [Lib.bytesWorld, World.freeze, World.alloc, World.drew, -World.alloc_eq, -World.drew_eq]
  · simp [Lib.bytesWorld, World.freeze, World.alloc, World.drew, -World.alloc_eq, -World.drew_eq]
  · simp [Lib.bytesWorld, World.freeze, World.alloc, World.drew, -World.alloc_eq, -World.drew_eq]
  · rw [Lib.bytesWorld_size]; omega
theorem wrap64_id {n : Int} (h0 : -9223372036854775808 ≤ n) (h1 : n ≤ 9223372036854775807) : wrap64 n = n := by
  unfold wrap64
  omega
def common : List Int → List Int → Nat
  | a :: x, b :: y => if a = b then common x y + 1 else 0
  | _, _ => 0
theorem common_le_left : ∀ (x y : List Int), common x y ≤ x.length
  | [], _ => by simp [common]
  | _ :: _, [] => by simp [common]
  | a :: x, b :: y => by
    unfold common
    split
    · have := common_le_left x y
      simp
      omega
    · simp
theorem common_comm : ∀ (x y : List Int), common x y = common y x
  | [], [] => rfl
  | [], _ :: _ => rfl
  | _ :: _, [] => rfl
  | a :: x, b :: y => by
    unfold common
    by_cases h : a = b
    · rw [if_pos h, if_pos h.symm, common_comm x y]
    · rw [if_neg h, if_neg (Ne.symm h)]
theorem common_le_right (x y : List Int) : common x y ≤ y.length := by
  rw [common_comm]
  exact common_le_left y x


end Go.Proofs.YtmheajenlhlbhaaGreatDoor.X


namespace Go.Proofs.YtmheajenlhlbhaaGreatDoor.X
open Go.RowKit Go.Proofs.YtmheajenlhlbhaaGreatDoorW.PrintWords Go.Proofs.YtmheajenlhlbhaaGreatDoorW.PrintLast Go.Proofs.YtmheajenlhlbhaaGreatDoorW.PrintMore
attribute [local go_sem] max2_int min2_int max_two min_two max_three min_three max_four min_four   -- for this text's walks alone
set_option linter.unusedVariables false
set_option linter.unusedSimpArgs false

mutual
def word_Put_raw.j1 : Nat → Int → Int → Option (ByteArray)
  | 0, _, _ => none
  | k + 1, x0, x3 => word_Put_raw.l1 k x0 x3 (([(wrap64 (247 + x3)) % 256] : List Int)) x3 0
def word_Put_raw.l1 : Nat → Int → Int → List Int → Int → Int → Option (ByteArray)
  | 0, _, _, _, _, _ => none
  | k + 1, x0, x3, x4, x55, x56 => if x56 < x55 then (if 0 ≤ (wrap64 (8 * (wrap64 ((wrap64 (x3 - 1)) - x56)))) then (if x4.length < 140737488355328 then (word_Put_raw.l1 k x0 x3 (x4 ++ [(shr .u64 x0 (wrap64 (8 * (wrap64 ((wrap64 (x3 - 1)) - x56))))) % 256]) x55 (wrap64 (x56 + 1))) else (none)) else (none)) else (some (strOfNums x4))
def word_Put_raw.l0 : Nat → Int → Int → Option (ByteArray)
  | 0, _, _ => none
  | k + 1, x0, x3 => if x3 < 8 then (if 0 ≤ (wrap64 (8 * x3)) then (if (shr .u64 x0 (wrap64 (8 * x3))) > 0 then (word_Put_raw.l0 k x0 (wrap64 (x3 + 1))) else (word_Put_raw.j1 k x0 x3)) else (none)) else (word_Put_raw.j1 k x0 x3)
end
def word_Put_raw.f (k : Nat) (a0 : Int) : Option (ByteArray) := if a0 ≤ 240 then (some (strOfNums (([(a0) % 256] : List Int)))) else (if a0 ≤ 2287 then (some (strOfNums (([(IntKind.u64.wrap (241 + ((IntKind.u64.wrap (a0 - 240)) / 256))) % 256, (IntKind.u64.wrap (a0 - 240)) % 256] : List Int)))) else (if a0 ≤ 67823 then (some (strOfNums (([249, ((IntKind.u64.wrap ((IntKind.u64.wrap (a0 - 2287)) - 1)) / 256) % 256, (IntKind.u64.wrap ((IntKind.u64.wrap (a0 - 2287)) - 1)) % 256] : List Int)))) else (word_Put_raw.l0 k a0 3)))
set_option maxHeartbeats 8000000 in
set_option maxRecDepth 100000 in
theorem word_Put_raw.calls (k : Nat) (a0 : Int) (r : ByteArray) (w : World) (h : word_Put_raw.f k a0 = some r) :
    Calls Tryz.prog 149 #[.int .u64 a0] w fun e w' => e = .returned (.string r) ∧ Below w.heap.size w w' := by
  have HB := Aside0.mk (Below.refl w.heap.size w)
  have H : (if a0 ≤ 240 then (some (strOfNums (([(a0) % 256] : List Int)))) else (if a0 ≤ 2287 then (some (strOfNums (([(IntKind.u64.wrap (241 + ((IntKind.u64.wrap (a0 - 240)) / 256))) % 256, (IntKind.u64.wrap (a0 - 240)) % 256] : List Int)))) else (if a0 ≤ 67823 then (some (strOfNums (([249, ((IntKind.u64.wrap ((IntKind.u64.wrap (a0 - 2287)) - 1)) / 256) % 256, (IntKind.u64.wrap ((IntKind.u64.wrap (a0 - 2287)) - 1)) % 256] : List Int)))) else (word_Put_raw.l0 k a0 3)))) = some r := h
  clear h
  by_cases c2 : a0 ≤ 240
  · rw [if_pos c2] at H
    have c2b0 : decide (a0 ≤ 240) = true := decide_eq_true c2
    clear c2
    obtain ⟨y129, hy129⟩ : ∃ y_ : List Int, y_ = (([(a0) % 256] : List Int)) := ⟨_, rfl⟩
    replace H : (some (strOfNums y129)) = some r := by first | (rw [hy129]; with_reducible exact H) | (have H2_ := (Option.bind_some _ _).symm.trans H; rw [hy129]; with_reducible exact H2_) | (have H2_ := (Option.bind_some _ _).symm.trans H; with_reducible exact H2_) | with_reducible exact H | (rw [hy129]; exact H) | exact H
    have Ny129 := Aside0.mk hy129
    clear hy129
    obtain rfl := Option.some.inj H
    go_enter Tryz.func149, Tryz.ntmps149
    go_wp2_with (first | ((with_reducible refine gate_dst (N := 11) rfl ?_); refine Kd.R_lit (Kd.int .u8) _ 5 ?hg (N := 11) ?hd (xs := ([(a0) % 256] : List Int)) (inner := [.int .u8 ((a0) % 256)]) (ok := fun _ => True) (okp := fun _ => True) ?hr ?hp (fun _ hk => hk) trivial (Below.refl _ _) (Nat.le_refl _) (by simp) ?_; (case hd => rfl); (case hg => rfl); (case hr => first | (go_simp; done) | (go_simp; rfl)); (case hp => exact (Reps.one (show Kd.M (Kd.int .u8) _ _ _ ((a0) % 256) [.int .u8 ((a0) % 256)] from rfl) (Reps.none _ _))); intro v130 w3 ho4 hb hg_ hnew_; clear hg_ hnew_; (first | rw [← Ny129.out] at ho4 | (simp only [Int.reduceToNat] at ho4; rw [← Ny129.out] at ho4)); have n0_ := Aside0.mk (Kd.R_lower ho4 (below_size (by repeat (first | (with_reducible first | exact HB.out | apply below_alloc | apply pw_below_drewN | apply below_drew1) | exact HB.out)))); have n1_ := Aside0.mk (below_step (by repeat (first | (with_reducible first | exact HB.out | apply below_alloc | apply pw_below_drewN | apply below_drew1) | exact HB.out)) hb); clear HB; have HO131 := n0_; have HB := n1_; clear n0_ n1_; clear hb ho4; have hcv5 := own_string (P := Tryz.prog) Tryz.underlying96 Tryz.underlying5 Tryz.underlying9 (Kd.own_of_R HO131.out)))
    go_ret
    exact ⟨by first | rfl | (simp [errW_none, errW_some] <;> rfl) | (simp [*, errW_none, errW_some] <;> rfl), by repeat (first | (with_reducible first | exact HB.out | apply below_alloc | apply pw_below_drewN | apply below_drew1) | exact HB.out)⟩
  · rw [if_neg c2] at H
    have c2b0 : decide (a0 ≤ 240) = false := decide_eq_false c2
    clear c2
    by_cases c6 : a0 ≤ 2287
    · rw [if_pos c6] at H
      have c6b0 : decide (a0 ≤ 2287) = true := decide_eq_true c6
      clear c6
      obtain ⟨y132, hy132⟩ : ∃ y_ : List Int, y_ = (([(IntKind.u64.wrap (241 + ((IntKind.u64.wrap (a0 - 240)) / 256))) % 256, (IntKind.u64.wrap (a0 - 240)) % 256] : List Int)) := ⟨_, rfl⟩
      replace H : (some (strOfNums y132)) = some r := by first | (rw [hy132]; with_reducible exact H) | (have H2_ := (Option.bind_some _ _).symm.trans H; rw [hy132]; with_reducible exact H2_) | (have H2_ := (Option.bind_some _ _).symm.trans H; with_reducible exact H2_) | with_reducible exact H | (rw [hy132]; exact H) | exact H
      have Ny132 := Aside0.mk hy132
      clear hy132
      obtain rfl := Option.some.inj H
      go_enter Tryz.func149, Tryz.ntmps149
      go_wp2_with (first | ((with_reducible refine gate_dst (N := 24) rfl ?_); refine Kd.R_lit (Kd.int .u8) _ 5 ?hg (N := 24) ?hd (xs := ([(IntKind.u64.wrap (241 + ((IntKind.u64.wrap (a0 - 240)) / 256))) % 256, (IntKind.u64.wrap (a0 - 240)) % 256] : List Int)) (inner := [.int .u8 ((IntKind.u64.wrap (241 + ((IntKind.u64.wrap (a0 - 240)) / 256))) % 256), .int .u8 ((IntKind.u64.wrap (a0 - 240)) % 256)]) (ok := fun _ => True) (okp := fun _ => True) ?hr ?hp (fun _ hk => hk) trivial (Below.refl _ _) (Nat.le_refl _) (by simp) ?_; (case hd => rfl); (case hg => rfl); (case hr => first | (go_simp; done) | (go_simp; rfl)); (case hp => exact (Reps.one (show Kd.M (Kd.int .u8) _ _ _ ((IntKind.u64.wrap (241 + ((IntKind.u64.wrap (a0 - 240)) / 256))) % 256) [.int .u8 ((IntKind.u64.wrap (241 + ((IntKind.u64.wrap (a0 - 240)) / 256))) % 256)] from rfl) (Reps.one (show Kd.M (Kd.int .u8) _ _ _ ((IntKind.u64.wrap (a0 - 240)) % 256) [.int .u8 ((IntKind.u64.wrap (a0 - 240)) % 256)] from rfl) (Reps.none _ _)))); intro v133 w7 ho8 hb hg_ hnew_; clear hg_ hnew_; (first | rw [← Ny132.out] at ho8 | (simp only [Int.reduceToNat] at ho8; rw [← Ny132.out] at ho8)); have n0_ := Aside0.mk (Kd.R_lower ho8 (below_size (by repeat (first | (with_reducible first | exact HB.out | apply below_alloc | apply pw_below_drewN | apply below_drew1) | exact HB.out)))); have n1_ := Aside0.mk (below_step (by repeat (first | (with_reducible first | exact HB.out | apply below_alloc | apply pw_below_drewN | apply below_drew1) | exact HB.out)) hb); clear HB; have HO134 := n0_; have HB := n1_; clear n0_ n1_; clear hb ho8; have hcv9 := own_string (P := Tryz.prog) Tryz.underlying96 Tryz.underlying5 Tryz.underlying9 (Kd.own_of_R HO134.out)))
      go_ret
      exact ⟨by first | rfl | (simp [errW_none, errW_some] <;> rfl) | (simp [*, errW_none, errW_some] <;> rfl), by repeat (first | (with_reducible first | exact HB.out | apply below_alloc | apply pw_below_drewN | apply below_drew1) | exact HB.out)⟩
    · rw [if_neg c6] at H
      have c6b0 : decide (a0 ≤ 2287) = false := decide_eq_false c6
      clear c6
      by_cases c10 : a0 ≤ 67823
      · rw [if_pos c10] at H
        have c10b0 : decide (a0 ≤ 67823) = true := decide_eq_true c10
        clear c10
        obtain ⟨y135, hy135⟩ : ∃ y_ : List Int, y_ = (([249, ((IntKind.u64.wrap ((IntKind.u64.wrap (a0 - 2287)) - 1)) / 256) % 256, (IntKind.u64.wrap ((IntKind.u64.wrap (a0 - 2287)) - 1)) % 256] : List Int)) := ⟨_, rfl⟩
        replace H : (some (strOfNums y135)) = some r := by first | (rw [hy135]; with_reducible exact H) | (have H2_ := (Option.bind_some _ _).symm.trans H; rw [hy135]; with_reducible exact H2_) | (have H2_ := (Option.bind_some _ _).symm.trans H; with_reducible exact H2_) | with_reducible exact H | (rw [hy135]; exact H) | exact H
        have Ny135 := Aside0.mk hy135
        clear hy135
        obtain rfl := Option.some.inj H
        go_enter Tryz.func149, Tryz.ntmps149
        go_wp2_with (first | ((with_reducible refine gate_dst (N := 38) rfl ?_); refine Kd.R_lit (Kd.int .u8) _ 5 ?hg (N := 38) ?hd (xs := ([249, ((IntKind.u64.wrap ((IntKind.u64.wrap (a0 - 2287)) - 1)) / 256) % 256, (IntKind.u64.wrap ((IntKind.u64.wrap (a0 - 2287)) - 1)) % 256] : List Int)) (inner := [.int .u8 249, .int .u8 (((IntKind.u64.wrap ((IntKind.u64.wrap (a0 - 2287)) - 1)) / 256) % 256), .int .u8 ((IntKind.u64.wrap ((IntKind.u64.wrap (a0 - 2287)) - 1)) % 256)]) (ok := fun _ => True) (okp := fun _ => True) ?hr ?hp (fun _ hk => hk) trivial (Below.refl _ _) (Nat.le_refl _) (by simp) ?_; (case hd => rfl); (case hg => rfl); (case hr => first | (go_simp; done) | (go_simp; rfl)); (case hp => exact (Reps.one (show Kd.M (Kd.int .u8) _ _ _ 249 [.int .u8 249] from rfl) (Reps.one (show Kd.M (Kd.int .u8) _ _ _ (((IntKind.u64.wrap ((IntKind.u64.wrap (a0 - 2287)) - 1)) / 256) % 256) [.int .u8 (((IntKind.u64.wrap ((IntKind.u64.wrap (a0 - 2287)) - 1)) / 256) % 256)] from rfl) (Reps.one (show Kd.M (Kd.int .u8) _ _ _ ((IntKind.u64.wrap ((IntKind.u64.wrap (a0 - 2287)) - 1)) % 256) [.int .u8 ((IntKind.u64.wrap ((IntKind.u64.wrap (a0 - 2287)) - 1)) % 256)] from rfl) (Reps.none _ _))))); intro v136 w11 ho12 hb hg_ hnew_; clear hg_ hnew_; (first | rw [← Ny135.out] at ho12 | (simp only [Int.reduceToNat] at ho12; rw [← Ny135.out] at ho12)); have n0_ := Aside0.mk (Kd.R_lower ho12 (below_size (by repeat (first | (with_reducible first | exact HB.out | apply below_alloc | apply pw_below_drewN | apply below_drew1) | exact HB.out)))); have n1_ := Aside0.mk (below_step (by repeat (first | (with_reducible first | exact HB.out | apply below_alloc | apply pw_below_drewN | apply below_drew1) | exact HB.out)) hb); clear HB; have HO137 := n0_; have HB := n1_; clear n0_ n1_; clear hb ho12; have hcv13 := own_string (P := Tryz.prog) Tryz.underlying96 Tryz.underlying5 Tryz.underlying9 (Kd.own_of_R HO137.out)))
        go_ret
        exact ⟨by first | rfl | (simp [errW_none, errW_some] <;> rfl) | (simp [*, errW_none, errW_some] <;> rfl), by repeat (first | (with_reducible first | exact HB.out | apply below_alloc | apply pw_below_drewN | apply below_drew1) | exact HB.out)⟩
      · rw [if_neg c10] at H
        have c10b0 : decide (a0 ≤ 67823) = false := decide_eq_false c10
        clear c10
        have HC14 := Aside0.mk H
        clear H
        go_enter Tryz.func149, Tryz.ntmps149
        go_upto_block 1 with (fail)
        go_cut [3] (fun v3 wc => ∃ (kq : Nat) (x3_13 : Int), v3 = .int .i64 x3_13 ∧ Aside0 (word_Put_raw.j1 kq a0 x3_13 = some r) ∧ Aside0 (kq ≤ k) ∧ Aside0 (Below w.heap.size w wc))
        case first =>
          have H := HC14.out
          clear HC14
          have H' := Aside0.mk H
          clear H
          go_wp2
          go_loopg [3] k (fun kq v3 w' => ∃ (x3_1 : Int), v3 = .int .i64 x3_1 ∧ Aside0 (word_Put_raw.l0 kq a0 x3_1 = some r) ∧ Aside0 (kq ≤ k) ∧ Aside0 (Below w.heap.size w w'))
          case atStart => exact ⟨(3), (by first | rfl | (simp; done) | (simp [*]; done)), H', ⟨Nat.le_refl _⟩, ⟨by repeat (first | (with_reducible first | exact HB.out | apply below_alloc | apply pw_below_drewN | apply below_drew1) | exact HB.out)⟩⟩
          case round =>
            clear H'
            try clear c1
            try clear hcv1
            try clear c2
            try clear c2b0
            try clear p2
            try clear hcv5
            try clear c6
            try clear c6b0
            try clear hcv9
            try clear c10
            try clear c10b0
            try clear hcv13
            try clear c14
            obtain ⟨x3_1, rfl, HA, HK1, HB⟩ := hrel
            cases gk with
            | zero => exact absurd HA.out (by simp [word_Put_raw.l0])
            | succ k1 =>
              have H := HA.out
              clear HA
              simp only [word_Put_raw.l0] at H
              by_cases c15 : x3_1 < 8
              · rw [if_pos c15] at H
                have c15b0 : decide (x3_1 < 8) = true := decide_eq_true c15
                clear c15
                (first | rw [c15b0] | (simp only [i64_w, i32_w]; rw [c15b0]) | skip)
                obtain ⟨ji16, hji16⟩ : ∃ j_ : Int, (wrap64 (8 * x3_1)) = j_ := ⟨_, rfl⟩
                replace H : (if 0 ≤ (ji16) then (if (shr .u64 a0 (ji16)) > 0 then (word_Put_raw.l0 k1 a0 (wrap64 (x3_1 + 1))) else (word_Put_raw.j1 k1 a0 x3_1)) else (none)) = some r := by first | (rw [hji16] at H; exact H) | (simp only [hji16] at H ⊢; exact H)
                have hji16w : (IntKind.i64.wrap (8 * x3_1)) = ji16 := (i64_w _).trans hji16
                by_cases c17 : 0 ≤ (ji16)
                · rw [if_pos c17] at H
                  have c17b0 := eq_true c17
                  have c17b1 : decide (0 ≤ (ji16)) = true := decide_eq_true c17
                  clear c17
                  obtain ⟨ji18, hji18⟩ : ∃ j_ : Int, (shr .u64 a0 (ji16)) = j_ := ⟨_, rfl⟩
                  replace H : (if (ji18) > 0 then (word_Put_raw.l0 k1 a0 (wrap64 (x3_1 + 1))) else (word_Put_raw.j1 k1 a0 x3_1)) = some r := by first | (rw [hji18] at H; exact H) | (simp only [hji18] at H ⊢; exact H)
                  have hji18_ : (a0 / 2 ^ min (ji16).toNat 64) = ji18 := hji18
                  have hji18z : (ji16) ≤ 64 → (a0 / 2 ^ (ji16).toNat) = ji18 := shr_small hji18
                  by_cases c19 : (ji18) > 0
                  · rw [if_pos c19] at H
                    have c19b0 : decide (0 < (ji18)) = true := decide_eq_true c19
                    clear c19
                    have H' := Aside0.mk H
                    clear H
                    go_wp2
                    go_roundg k1
                    case measure => have := HK1.out; omega
                    case rel => exact ⟨(wrap64 (x3_1 + 1)), (by first | rfl | (simp; done) | (simp [*]; done)), H', ⟨by have := HK1.out; omega⟩, ⟨by repeat (first | (with_reducible first | exact HB.out | apply below_alloc | apply pw_below_drewN | apply below_drew1) | exact HB.out)⟩⟩
                  · rw [if_neg c19] at H
                    have c19b0 : decide (0 < (ji18)) = false := decide_eq_false c19
                    clear c19
                    have H' := Aside0.mk H
                    clear H
                    go_wp2
                    go_meet
                    case rel => exact ⟨_, (x3_1), (by first | rfl | (simp; done) | (simp [*]; done)), H', ⟨by have := HK1.out; first | omega | exact Nat.le_refl _⟩, ⟨by repeat (first | (with_reducible first | exact HB.out | apply below_alloc | apply pw_below_drewN | apply below_drew1) | exact HB.out)⟩⟩
                · rw [if_neg c17] at H
                  exact absurd H (by simp)
              · rw [if_neg c15] at H
                have c15b0 : decide (x3_1 < 8) = false := decide_eq_false c15
                clear c15
                (first | rw [c15b0] | (simp only [i64_w, i32_w]; rw [c15b0]) | skip)
                have H' := Aside0.mk H
                clear H
                go_wp2
                go_meet
                case rel => exact ⟨_, (x3_1), (by first | rfl | (simp; done) | (simp [*]; done)), H', ⟨by have := HK1.out; first | omega | exact Nat.le_refl _⟩, ⟨by repeat (first | (with_reducible first | exact HB.out | apply below_alloc | apply pw_below_drewN | apply below_drew1) | exact HB.out)⟩⟩
        case rest =>
          clear HC14
          try clear c1
          try clear hcv1
          try clear c2
          try clear c2b0
          try clear p2
          try clear hcv5
          try clear c6
          try clear c6b0
          try clear p6
          try clear hcv9
          try clear c10
          try clear c10b0
          try clear hcv13
          try clear c14
          try clear c15
          try clear c15b0
          try clear c17
          try clear c17b0
          try clear c17b1
          try clear c19
          try clear c19b0
          try clear p2
          obtain ⟨kq, x3_13, rfl, HA, HJ13, HB⟩ := hcut
          cases kq with
          | zero => exact absurd HA.out (by simp [word_Put_raw.j1])
          | succ kj13 =>
            have H := HA.out
            clear HA
            simp only [word_Put_raw.j1] at H
            obtain ⟨y138, hy138⟩ : ∃ y_ : List Int, y_ = (([(wrap64 (247 + x3_13)) % 256] : List Int)) := ⟨_, rfl⟩
            replace H : (word_Put_raw.l1 kj13 a0 x3_13 y138 x3_13 0) = some r := by first | (rw [hy138]; with_reducible exact H) | (have H2_ := (Option.bind_some _ _).symm.trans H; rw [hy138]; with_reducible exact H2_) | (have H2_ := (Option.bind_some _ _).symm.trans H; with_reducible exact H2_) | with_reducible exact H | (rw [hy138]; exact H) | exact H
            have Ny138 := Aside0.mk hy138
            clear hy138
            have H' := Aside0.mk H
            clear H
            go_wp2_with (first | ((with_reducible refine gate_dst (N := 54) rfl ?_); refine Kd.R_lit (Kd.int .u8) _ 5 ?hg (N := 54) ?hd (xs := ([(wrap64 (247 + x3_13)) % 256] : List Int)) (inner := [.int .u8 ((wrap64 (247 + x3_13)) % 256)]) (ok := fun _ => True) (okp := fun _ => True) ?hr ?hp (fun _ hk => hk) trivial (Below.refl _ _) (Nat.le_refl _) (by simp) ?_; (case hd => rfl); (case hg => rfl); (case hr => first | (go_simp; done) | (go_simp; rfl)); (case hp => exact (Reps.one (show Kd.M (Kd.int .u8) _ _ _ ((wrap64 (247 + x3_13)) % 256) [.int .u8 ((wrap64 (247 + x3_13)) % 256)] from rfl) (Reps.none _ _))); intro v139 w20 ho21 hb hg_ hnew_; clear hg_ hnew_; (first | rw [← Ny138.out] at ho21 | (simp only [Int.reduceToNat] at ho21; rw [← Ny138.out] at ho21)); have n0_ := Aside0.mk (Kd.R_lower ho21 (below_size (by repeat (first | (with_reducible first | exact HB.out | apply below_alloc | apply pw_below_drewN | apply below_drew1) | exact HB.out)))); have n1_ := Aside0.mk (below_step (by repeat (first | (with_reducible first | exact HB.out | apply below_alloc | apply pw_below_drewN | apply below_drew1) | exact HB.out)) hb); clear HB; have HO140 := n0_; have HB := n1_; clear n0_ n1_; clear hb ho21))
            go_loopg [4, 56] kj13 (fun kq v4 v56 w' => ∃ (x4_2 : List Int) (x56_2 : Int), v56 = .int .i64 x56_2 ∧ Aside0 (word_Put_raw.l1 kq a0 x3_13 x4_2 x3_13 x56_2 = some r) ∧ Aside0 (kq ≤ kj13) ∧ Aside0 (Kd.R (Kd.int .u8) 5 w' w.heap.size (fun _ => True) v4 x4_2) ∧ Aside0 (Below w.heap.size w w'))
            case atStart => exact ⟨(y138), (0), (by first | rfl | (simp; done) | (simp [*]; done)), H', ⟨Nat.le_refl _⟩, ⟨by (with_reducible repeat (first | apply Kd.R_alloc | apply Kd.R_drewN | apply Kd.R_drew)); exact HO140.out⟩, ⟨by repeat (first | (with_reducible first | exact HB.out | apply below_alloc | apply pw_below_drewN | apply below_drew1) | exact HB.out)⟩⟩
            case round =>
              clear H'
              try clear c1
              try clear hcv1
              try clear c2
              try clear c2b0
              try clear p2
              try clear hcv5
              try clear c6
              try clear c6b0
              try clear p6
              try clear hcv9
              try clear c10
              try clear c10b0
              try clear hcv13
              try clear c14
              try clear c15
              try clear c15b0
              try clear c17
              try clear c17b0
              try clear c17b1
              try clear c19
              try clear c19b0
              try clear p2
              try clear p6
              obtain ⟨x4_2, x56_2, rfl, HA, HK2, HO_4, HB⟩ := hrel
              cases gk with
              | zero => exact absurd HA.out (by simp [word_Put_raw.l1])
              | succ k2 =>
                have H := HA.out
                clear HA
                simp only [word_Put_raw.l1] at H
                by_cases c22 : x56_2 < x3_13
                · rw [if_pos c22] at H
                  have c22b0 : decide (x56_2 < x3_13) = true := decide_eq_true c22
                  clear c22
                  obtain ⟨ji23, hji23⟩ : ∃ j_ : Int, (wrap64 (8 * (wrap64 ((wrap64 (x3_13 - 1)) - x56_2)))) = j_ := ⟨_, rfl⟩
                  replace H : (if 0 ≤ (ji23) then (if x4_2.length < 140737488355328 then (word_Put_raw.l1 k2 a0 x3_13 (x4_2 ++ [(shr .u64 a0 (ji23)) % 256]) x3_13 (wrap64 (x56_2 + 1))) else (none)) else (none)) = some r := by first | (rw [hji23] at H; exact H) | (simp only [hji23] at H ⊢; exact H)
                  have hji23w : (IntKind.i64.wrap (8 * (wrap64 ((wrap64 (x3_13 - 1)) - x56_2)))) = ji23 := (i64_w _).trans hji23
                  by_cases c24 : 0 ≤ (ji23)
                  · rw [if_pos c24] at H
                    have c24b0 := eq_true c24
                    have c24b1 : decide (0 ≤ (ji23)) = true := decide_eq_true c24
                    clear c24
                    obtain ⟨ji25, hji25⟩ : ∃ j_ : Int, (shr .u64 a0 (ji23)) = j_ := ⟨_, rfl⟩
                    replace H : (if x4_2.length < 140737488355328 then (word_Put_raw.l1 k2 a0 x3_13 (x4_2 ++ [(ji25) % 256]) x3_13 (wrap64 (x56_2 + 1))) else (none)) = some r := by first | (rw [hji25] at H; exact H) | (simp only [hji25] at H ⊢; exact H)
                    have hji25_ : (a0 / 2 ^ min (ji23).toNat 64) = ji25 := hji25
                    have hji25z : (ji23) ≤ 64 → (a0 / 2 ^ (ji23).toNat) = ji25 := shr_small hji25
                    by_cases c26 : x4_2.length < 140737488355328
                    · rw [if_pos c26] at H
                      have LMc26 := Aside0.mk c26
                      clear c26
                      obtain ⟨y141, hy141⟩ : ∃ y_ : List Int, y_ = (x4_2 ++ [(ji25) % 256]) := ⟨_, rfl⟩
                      replace H : (word_Put_raw.l1 k2 a0 x3_13 y141 x3_13 (wrap64 (x56_2 + 1))) = some r := by first | (rw [hy141]; with_reducible exact H) | (have H2_ := (Option.bind_some _ _).symm.trans H; rw [hy141]; with_reducible exact H2_) | (have H2_ := (Option.bind_some _ _).symm.trans H; with_reducible exact H2_) | with_reducible exact H | (rw [hy141]; exact H) | exact H
                      have Ny141 := Aside0.mk hy141
                      clear hy141
                      have H' := Aside0.mk H
                      clear H
                      go_wp2_with (first | ((with_reducible refine gate_builtin (b := .append) (xs := #[.tmp 59, .tmp 68]) rfl ?_); at_builtin; refine Kd.R_append (Kd.int .u8) (w0 := w) w.heap.size rfl (.tmp 59) (.tmp 68) 96 5 (.int .u8 0) 1 rfl Tryz.underlying96 info5 rfl (by decide) (by omega) u4 x4_2 ((ji25) % 256) [.int .u8 ((ji25) % 256)] (fun _ => True) (fun _ => False) rfl rfl ?aP (fun _ hk => hk.elim) ?aF ?aO ?aB ?aS ?aL ?_; (case aP => exact rfl); (case aB => exact (by repeat (first | (with_reducible first | exact HB.out | apply below_alloc | apply pw_below_drewN | apply below_drew1) | exact HB.out))); (case aF => exact (fun _ _ => trivial)); (case aO => exact (by (with_reducible repeat (first | apply Kd.R_alloc | apply Kd.R_drewN | apply Kd.R_drew)); exact HO_4.out)); (case aS => exact (below_size (by repeat (first | (with_reducible first | exact HB.out | apply below_alloc | apply pw_below_drewN | apply below_drew1) | exact HB.out)))); (case aL => have := LMc26.out; omega); intro v142 w27 ho hb hg hat; rw [← Ny141.out] at ho; have n0_ := Aside0.mk (hb); have n1_ := Aside0.mk (ho); clear HB; clear HO_4; have HB := n0_; have HO143 := n1_; clear n0_ n1_; clear ho hb hg hat))
                      go_roundg k2
                      case measure => have := HJ13.out; have := HK2.out; omega
                      case rel => exact ⟨(y141), (wrap64 (x56_2 + 1)), (by first | rfl | (simp; done) | (simp [*]; done)), H', ⟨by have := HJ13.out; have := HK2.out; omega⟩, ⟨by (with_reducible repeat (first | apply Kd.R_alloc | apply Kd.R_drewN | apply Kd.R_drew)); exact HO143.out⟩, ⟨by repeat (first | (with_reducible first | exact HB.out | apply below_alloc | apply pw_below_drewN | apply below_drew1) | exact HB.out)⟩⟩
                    · rw [if_neg c26] at H
                      exact absurd H (by simp)
                  · rw [if_neg c24] at H
                    exact absurd H (by simp)
                · rw [if_neg c22] at H
                  have c22b0 : decide (x56_2 < x3_13) = false := decide_eq_false c22
                  clear c22
                  obtain rfl := Option.some.inj H
                  have hcv28 := own_string (P := Tryz.prog) Tryz.underlying96 Tryz.underlying5 Tryz.underlying9 (Kd.own_of_R HO_4.out)
                  go_wp2
                  go_ret
                  exact ⟨by first | rfl | (simp [errW_none, errW_some] <;> rfl) | (simp [*, errW_none, errW_some] <;> rfl), by repeat (first | (with_reducible first | exact HB.out | apply below_alloc | apply pw_below_drewN | apply below_drew1) | exact HB.out)⟩

end Go.Proofs.YtmheajenlhlbhaaGreatDoor.X


namespace Go.Proofs.YtmheajenlhlbhaaGreatDoor.X
open Go.RowKit Go.Proofs.YtmheajenlhlbhaaGreatDoorW.PrintWords Go.Proofs.YtmheajenlhlbhaaGreatDoorW.PrintLast Go.Proofs.YtmheajenlhlbhaaGreatDoorW.PrintMore
attribute [local go_sem] max2_int min2_int max_two min_two max_three min_three max_four min_four   -- for this text's walks alone
set_option linter.unusedVariables false
set_option linter.unusedSimpArgs false

def byteN (n : Nat) : Nat := if n < 16777216 then 3 else if n < 4294967296 then 4 else if n < 1099511627776 then 5 else if n < 281474976710656 then 6 else if n < 72057594037927936 then 7 else 8
def digs : Nat → Nat → List Int
  | 0, _ => []
  | k + 1, n => ((n / 2 ^ (8 * k) % 256 : Nat) : Int) :: digs k n
def putL (n : Nat) : List Int :=
  if n ≤ 240 then [(n : Int)] else if n ≤ 2287 then [((241 + (n - 240) / 256 : Nat) : Int), (((n - 240) % 256 : Nat) : Int)]
  else if n ≤ 67823 then [249, (((n - 2288) / 256 : Nat) : Int), (((n - 2288) % 256 : Nat) : Int)] else ((247 + byteN n : Nat) : Int) :: digs (byteN n) n
theorem digs_length : ∀ k n, (digs k n).length = k
  | 0, _ => rfl
  | k + 1, n => by simp [digs, digs_length k n]
theorem u64_wrap_id {n : Int} (h0 : 0 ≤ n) (h1 : n < 18446744073709551616) : IntKind.u64.wrap n = n := by
  simp only [IntKind.wrap, IntKind.signed, IntKind.bits]
  exact Int.emod_eq_of_lt h0 h1
theorem shr_put (n j : Nat) (hj : j ≤ 7) : shr .u64 (n : Int) (wrap64 (8 * (j : Int))) = ((n / 2 ^ (8 * j) : Nat) : Int) := by
  rw [wrap64_id (by omega) (by omega)]
  unfold shr
  have e1 : (8 * (j : Int)).toNat = 8 * j := by omega
  have e2 : min (8 * j) IntKind.u64.bits = 8 * j := Nat.min_eq_left (by show 8 * j ≤ 64; omega)
  rw [e1, e2]
  norm_cast
theorem put_l1 (n K : Nat) (hK : K ≤ 8) (d : Nat) : ∀ (k : Nat) (x4 : List Int) (i : Nat), i + d = K → x4.length + d ≤ 100 → d < k →
    word_Put_raw.l1 k n K x4 K i = some (strOfNums (x4 ++ digs d n)) := by
  induction d with
  | zero =>
    intro k x4 i h1 h2 hk
    obtain ⟨k, rfl⟩ : ∃ m, k = m + 1 := ⟨k - 1, by omega⟩
    simp only [word_Put_raw.l1]
    rw [if_neg (by omega)]
    simp [digs]
  | succ d ih =>
    intro k x4 i h1 h2 hk
    obtain ⟨k, rfl⟩ : ∃ m, k = m + 1 := ⟨k - 1, by omega⟩
    simp only [word_Put_raw.l1]
    have e0 : (wrap64 ((wrap64 ((K : Int) - 1)) - (i : Int))) = (d : Int) := by rw [wrap64_id (n := (K : Int) - 1) (by omega) (by omega), wrap64_id (by omega) (by omega)]; omega
    rw [e0, shr_put n d (by omega), if_pos (by omega), if_pos (by rw [wrap64_id (n := 8 * (d : Int)) (by omega) (by omega)]; omega), if_pos (by omega), wrap64_id (n := (i : Int) + 1) (by omega) (by omega)]
    have := ih k (x4 ++ [((n / 2 ^ (8 * d) : Nat) : Int) % 256]) (i + 1) (by omega) (by simp; omega) (by omega)
    rw [show ((i : Int) + 1) = ((i + 1 : Nat) : Int) by omega, this]
    congr 2
    rw [List.append_assoc]
    congr 1
theorem put_l0 (n : Nat) (K : Nat) (hK : K ≤ 8) (hlow : ∀ j, 3 ≤ j → j < K → 0 < n / 2 ^ (8 * j)) (hhigh : K = 8 ∨ n / 2 ^ (8 * K) = 0) (d : Nat) : ∀ (k j : Nat), 3 ≤ j → j + d = K → d + 20 < k →
    word_Put_raw.l0 k n j = some (strOfNums (((247 + K : Nat) : Int) % 256 :: digs K n)) := by
  induction d with
  | zero =>
    intro k j h3 h1 hk
    obtain ⟨k, rfl⟩ : ∃ m, k = m + 1 := ⟨k - 1, by omega⟩
    obtain rfl : j = K := by omega
    have hj1 : word_Put_raw.j1 k n j = some (strOfNums (((247 + j : Nat) : Int) % 256 :: digs j n)) := by
      obtain ⟨k, rfl⟩ : ∃ m, k = m + 1 := ⟨k - 1, by omega⟩
      simp only [word_Put_raw.j1]
      have := put_l1 n j hK j k [(wrap64 (247 + (j : Int))) % 256] 0 (by omega) (by simp; omega) (by omega)
      rw [wrap64_id (n := 247 + (j : Int)) (by omega) (by omega)] at this ⊢
      rw [show ((0 : Nat) : Int) = 0 from rfl] at this
      rw [this]
      congr 1
    simp only [word_Put_raw.l0]
    rcases hhigh with h8 | h0
    · rw [if_neg (by omega), hj1]
    · by_cases h8 : j < 8
      · rw [if_pos (by omega), if_pos (by rw [wrap64_id (by omega) (by omega)]; omega), shr_put n j (by omega), if_neg (by rw [h0]; omega), hj1]
      · rw [if_neg (by omega), hj1]
  | succ d ih =>
    intro k j h3 h1 hk
    obtain ⟨k, rfl⟩ : ∃ m, k = m + 1 := ⟨k - 1, by omega⟩
    simp only [word_Put_raw.l0]
    have := hlow j h3 (by omega)
    rw [if_pos (by omega), if_pos (by rw [wrap64_id (by omega) (by omega)]; omega), shr_put n j (by omega), if_pos (by omega), wrap64_id (n := (j : Int) + 1) (by omega) (by omega)]
    exact ih k (j + 1) (by omega) (by omega) (by omega)
theorem put_clean (n : Nat) (hn : n < 18446744073709551616) : ∃ k, word_Put_raw.f k n = some (strOfNums (putL n)) := by
  refine ⟨40, ?_⟩
  unfold word_Put_raw.f putL
  by_cases h1 : n ≤ 240
  · rw [if_pos (by omega), if_pos h1]
    congr 3
    omega
  · rw [if_neg (by omega), if_neg h1]
    by_cases h2 : n ≤ 2287
    · rw [if_pos (by omega), if_pos h2, u64_wrap_id (n := (n : Int) - 240) (by omega) (by omega), u64_wrap_id (by omega) (by omega)]
      congr 2
      have e1 : (241 + ((n : Int) - 240) / 256) % 256 = ((241 + (n - 240) / 256 : Nat) : Int) := by omega
      have e2 : ((n : Int) - 240) % 256 = (((n - 240) % 256 : Nat) : Int) := by omega
      rw [e1, e2]
    · rw [if_neg (by omega), if_neg h2]
      by_cases h3 : n ≤ 67823
      · rw [if_pos (by omega), if_pos h3, u64_wrap_id (n := (n : Int) - 2287) (by omega) (by omega), u64_wrap_id (by omega) (by omega)]
        congr 2
        have e1 : ((n : Int) - 2287 - 1) / 256 % 256 = (((n - 2288) / 256 : Nat) : Int) := by omega
        have e2 : ((n : Int) - 2287 - 1) % 256 = (((n - 2288) % 256 : Nat) : Int) := by omega
        rw [e1, e2]
      · rw [if_neg (by omega), if_neg h3]
        have hb : 3 ≤ byteN n ∧ byteN n ≤ 8 := by unfold byteN; (repeat' split) <;> omega
        have := put_l0 n (byteN n) hb.2 ?_ ?_ (byteN n - 3) 40 3 (by omega) (by omega) (by omega)
        · rw [show ((3 : Nat) : Int) = 3 from rfl] at this
          rw [this]
          congr 3
          omega
        · intro j hj3 hj
          have h8 := hb.2
          have : j = 3 ∨ j = 4 ∨ j = 5 ∨ j = 6 ∨ j = 7 := by omega
          rcases this with rfl | rfl | rfl | rfl | rfl
          all_goals
            refine Nat.div_pos ?_ (by decide)
            unfold byteN at hj
            (repeat' split at hj) <;> omega
        · unfold byteN
          (repeat' split) <;> first | exact .inl rfl | (exact .inr (Nat.div_eq_of_lt (by omega)))
def word_Put.f (n : Int) : Option ByteArray := if 0 ≤ n ∧ n < 18446744073709551616 then some (strOfNums (putL n.toNat)) else none
theorem word_Put.calls (a0 : Int) (r : ByteArray) (w : World) (h : word_Put.f a0 = some r) :
    Calls Tryz.prog 149 #[.int .u64 a0] w fun e w' => e = .returned (.string r) ∧ Below w.heap.size w w' := by
  unfold word_Put.f at h
  by_cases hs : 0 ≤ a0 ∧ a0 < 18446744073709551616
  · rw [if_pos hs] at h
    obtain ⟨k, hk⟩ := put_clean a0.toNat (by omega)
    rw [h, Int.toNat_of_nonneg hs.1] at hk
    exact word_Put_raw.calls k a0 r w hk
  · rw [if_neg hs] at h
    exact absurd h (by simp)


end Go.Proofs.YtmheajenlhlbhaaGreatDoor.X


namespace Go.Proofs.YtmheajenlhlbhaaGreatDoor.X
open Go.RowKit Go.Proofs.YtmheajenlhlbhaaGreatDoorW.PrintWords Go.Proofs.YtmheajenlhlbhaaGreatDoorW.PrintLast Go.Proofs.YtmheajenlhlbhaaGreatDoorW.PrintMore
attribute [local go_sem] max2_int min2_int max_two min_two max_three min_three max_four min_four   -- for this text's walks alone
set_option linter.unusedVariables false
set_option linter.unusedSimpArgs false

def cell_page.f (a0 : Int) : Option (Bool) := if a0 ≥ 1 then (some (decide (a0 < 4096))) else (some false)
set_option maxHeartbeats 8000000 in
set_option maxRecDepth 100000 in
theorem cell_page.calls (a0 : Int) (r : Bool) (w : World) (h : cell_page.f a0 = some r) :
    Calls Tryz.prog 188 #[.int .i64 a0] w fun e w' => e = .returned (.bool r) ∧ Drawn0 w w' := by
  have H : (if a0 ≥ 1 then (some (decide (a0 < 4096))) else (some false)) = some r := h
  clear h
  by_cases c2 : a0 ≥ 1
  · rw [if_pos c2] at H
    have c2b0 : decide (1 ≤ a0) = true := decide_eq_true c2
    clear c2
    obtain rfl := Option.some.inj H
    go_enter Tryz.func188, Tryz.ntmps188
    go_wp2
    go_ret
    exact ⟨by first | rfl | (simp; done) | (simp [*]; done), by repeat (first | exact Drawn0.refl _ | apply Drawn0.step)⟩
  · rw [if_neg c2] at H
    have c2b0 : decide (1 ≤ a0) = false := decide_eq_false c2
    clear c2
    obtain rfl := Option.some.inj H
    go_enter Tryz.func188, Tryz.ntmps188
    go_wp2
    go_ret
    exact ⟨by first | rfl | (simp; done) | (simp [*]; done), by repeat (first | exact Drawn0.refl _ | apply Drawn0.step)⟩

end Go.Proofs.YtmheajenlhlbhaaGreatDoor.X

